import PyProof.Rows.All
import PyProof.SliceList
import OpenK.KCell
import OpenK.KMeth
import OpenK.KMore
import KE.KListMore
import KE.KSetAt
import KE.KSortKey
import KE.KSortedM
import KE.KDictSum
import KE.KDictLetter
import KE.KRevIter
import PyProof.EnumStmt
import PyProof.Raises
import OpenK.KLine
import PyProof.EnumFor
import PyProof.EnumMake
import PyProof.Rows.TupAssign
import Wide.All
import OpenK.AllK
import Wide.FinOn
import PySem.Challenge.RW_uf050019_02
set_option maxRecDepth 100000
set_option Elab.async false
set_option linter.unusedVariables false
set_option linter.unusedSimpArgs false

namespace Sk
open PySem (Str)

inductive AV where
  | none | bool (b : Bool) | int (i : Int) | str (s : Str) | ref (a : Nat)
  deriving DecidableEq

inductive AO where
  | list (vs : List AV)
  | tup (vs : List AV)
  | fields (fs : List (Nat × AV))
  | inst (c : Nat) (d : Nat)
  | dict (ks : List Int)
  | exc (c : Nat)
  | const (vs : List AV)
  deriving DecidableEq

abbrev HP := List AO
abbrev LOC := List (Option AV)

inductive R (α : Type) where
  | ok (a : α) (h : HP)
  | exc (c : Nat) (h : HP)
  | err


noncomputable def R.bind {α β : Type} : R α → (α → HP → R β) → R β
  | .ok a h, f => f a h
  | .exc c h, _ => .exc c h
  | .err, _ => .err

inductive Op where | add | sub | mul | fdiv | mod
  deriving DecidableEq
inductive COp where | eq | ne | lt | le | gt | ge
  deriving DecidableEq
inductive IK where | range1 | range3 | val | enum | rev
  deriving DecidableEq
inductive BM where | append | insert | popAt | index | clear | dpop
  deriving DecidableEq
inductive BF where | len | list | listRange | sorted | int | min | max | max1 | all
  deriving DecidableEq
inductive TY where | int | bool | list | tup | valueError | own (c : Nat)
  deriving DecidableEq

mutual
inductive CE where
  | none | bool (b : Bool) | int (i : Int)
  | pow (a n : Nat)
  | loc (k : Nat)
  | bin (op : Op) (a b : CE)
  | neg (a : CE) | not (a : CE)
  | and (a b : CE) | or (a b : CE)
  | cmp (op : COp) (a b : CE)
  | isC (neg : Bool) (a : CE) (c : Option Bool)
  | isin (neg : Bool) (a b : CE)
  | chain (a : CE) (o₁ : COp) (b : CE) (o₂ : COp) (c : CE)
  | attr (a : CE) (n : Nat)
  | item (a i : CE)
  | slice (a lo hi : CE) (st : Nat)
  | list (es : CEs) | tup (es : CEs) | dict0
  | call (f : Nat) (es : CEs)
  | meth (a : CE) (m : Nat) (es : CEs)
  | new (c : Nat) (es : CEs)
  | bm (m : BM) (a : CE) (es : CEs)
  | bf (f : BF) (es : CEs)
  | isinst (a : CE) (t : TY)
  | comp (elt : CE) (ik : IK) (es : CEs) (cond : CE)
inductive CEs where
  | nil | cons (e : CE) (es : CEs)
end

mutual
inductive CS where
  | skip
  | seq (a b : CS)
  | asg (k : Nat) (e : CE)
  | asg2 (k₁ k₂ : Nat) (e : CE)
  | setAttr (a : CE) (n : Nat) (e : CE)
  | setItem (a i e : CE)
  | ex (e : CE)
  | ite (t : CE) (a b : CS)
  | whil (t : CE) (b : CS)
  | for1 (k : Nat) (ik : IK) (es : CEs) (b : CS)
  | for2 (k₁ k₂ : Nat) (e : CE) (b : CS)
  | ret (e : CE)
  | raise (c : Nat) (msg : Str)
  | tr (b : CS) (hs : CHs)
  | dead
inductive CHs where
  | nil | cons (c : Nat) (as_ : Option Nat) (b : CS) (hs : CHs)
end

structure Fn where
  np : Nat
  ns : Nat
  code : CS

structure Gl where
  fns : Nat → Option Fn
  /-- class, method name: the function -/
  meth : Nat → Nat → Option Nat
  init : Nat → Option Nat
  /-- own exception classes: the first is the second or lies under it -/
  sub : Nat → Nat → Bool

abbrev CallO := Nat → List AV → HP → R AV

/-! values -/
noncomputable def mulOk (a b : Int) : Bool := decide (a.natAbs < 2 ^ 64 ∨ b.natAbs < 2 ^ 64)

/-- sizes that the model's line admits -/
noncomputable def szOk (n : Nat) : Bool := decide (n ≤ 100000)
noncomputable def divOk (b : Int) : Bool := decide (b ≠ 0 ∧ b.natAbs < 2 ^ 200)

noncomputable def addL (i j : Nat) (h : HP) : R AV := match h[i]?, h[j]? with
  | some (.list xs), some (.list ys) => if szOk (xs.length + ys.length) then .ok (.ref h.length) (h ++ [.list (xs ++ ys)]) else .err
  | _, _ => .err

noncomputable def binop (op : Op) (x y : AV) (h : HP) : R AV := match x, y with
  | .int a, .int b => match op with
    | .add => .ok (.int (a + b)) h
    | .sub => .ok (.int (a - b)) h
    | .mul => if mulOk a b then .ok (.int (a * b)) h else .err
    | .fdiv => if divOk b then .ok (.int (a.fdiv b)) h else .err
    | .mod => if divOk b then .ok (.int (a.fmod b)) h else .err
  | .ref i, .ref j => match op with
    | .add => addL i j h
    | _ => .err
  | _, _ => .err

noncomputable def allEq : List (Option Bool) → Option Bool
  | [] => some true
  | some a :: r => (allEq r).map (a && ·)
  | Option.none :: _ => Option.none

/-- nested data, equal as Python's == says; nothing where a bool meets an int or the depth ends -/
noncomputable def eqv : Nat → HP → AV → AV → Option Bool
  | 0, _, _, _ => Option.none
  | n + 1, h, a, b => match a, b with
    | .none, .none => some true
    | .int i, .int j => some (decide (i = j))
    | .bool x, .bool y => some (decide (x = y))
    | .none, .int _ => some false
    | .int _, .none => some false
    | .ref i, .ref j => match h[i]?, h[j]? with
      | some (.list xs), some (.list ys) => if xs.length = ys.length then allEq (List.zipWith (eqv n h) xs ys) else some false
      | some (.tup xs), some (.tup ys) => if xs.length = ys.length then allEq (List.zipWith (eqv n h) xs ys) else Option.none
      | _, _ => Option.none
    | _, _ => Option.none

noncomputable def cmpI (op : COp) (a b : Int) : Bool := match op with
  | .eq => decide (a = b) | .ne => decide (a ≠ b) | .lt => decide (a < b) | .le => decide (a ≤ b) | .gt => decide (b < a) | .ge => decide (b ≤ a)

noncomputable def cmpop (op : COp) (a b : AV) (h : HP) : R AV := match op with
  | .eq => match eqv 6 h a b with | some r => .ok (.bool r) h | Option.none => .err
  | .ne => match eqv 6 h a b with | some r => .ok (.bool (!r)) h | Option.none => .err
  | op => match a, b with
    | .int x, .int y => .ok (.bool (cmpI op x y)) h
    | _, _ => .err

noncomputable def intsOf : List AV → Option (List Int)
  | [] => some []
  | .int i :: r => (intsOf r).map (i :: ·)
  | _ => Option.none
noncomputable def boolsOf : List AV → Option (List Bool)
  | [] => some []
  | .bool i :: r => (boolsOf r).map (i :: ·)
  | _ => Option.none

noncomputable def isinop (neg : Bool) (a b : AV) (h : HP) : R AV := match a, b with
  | .int i, .ref j => match h[j]? with
    | some (.list vs) => match intsOf vs with
      | some ns => .ok (.bool (neg ^^ decide (i ∈ ns))) h
      | Option.none => .err
    | some (.dict ks) => .ok (.bool (neg ^^ decide (i ∈ ks))) h
    | _ => .err
  | _, _ => .err

noncomputable def isop (neg : Bool) (a : AV) (c : Option Bool) (h : HP) : R AV := match a, c with
  | .none, Option.none => .ok (.bool (neg ^^ true)) h
  | .bool b, some c => .ok (.bool (neg ^^ decide (b = c))) h
  | .int _, Option.none | .ref _, Option.none | .bool _, Option.none => .ok (.bool (neg ^^ false)) h
  | _, _ => .err

noncomputable def attrop (n : Nat) (a : AV) (h : HP) : R AV := match a with
  | .ref i => match h[i]? with
    | some (.inst _ d) => match h[d]? with
      | some (.fields fs) => match fs.lookup n with
        | some v => .ok v h
        | Option.none => .err
      | _ => .err
    | _ => .err
  | _ => .err

noncomputable def putF (n : Nat) (v : AV) : List (Nat × AV) → List (Nat × AV)
  | [] => [(n, v)]
  | p :: r => if p.1 = n then (n, v) :: r else p :: putF n v r

noncomputable def setAttrOp (n : Nat) (a v : AV) (h : HP) : R Unit := match a with
  | .ref i => match h[i]? with
    | some (.inst _ d) => match h[d]? with
      | some (.fields fs) => if fs.length < 100 then .ok () (h.set d (.fields (putF n v fs))) else .err
      | _ => .err
    | _ => .err
  | _ => .err

/-- the place that an index means -/
noncomputable def place (i : Int) (len : Nat) : Option Nat :=
  let j := if i < 0 then i + len else i
  if 0 ≤ j ∧ j < len then some j.toNat else Option.none

noncomputable def itemop (a i : AV) (h : HP) : R AV := match a, i with
  | .ref r, .int k => match h[r]? with
    | some (.list vs) | some (.tup vs) | some (.const vs) => match place k vs.length with
      | some j => match vs[j]? with
        | some v => .ok v h
        | Option.none => .err
      | Option.none => .err
    | _ => .err
  | _, _ => .err

noncomputable def putKey (k : Int) (ks : List Int) : List Int := if k ∈ ks then ks else ks ++ [k]

noncomputable def setItemOp (a i v : AV) (h : HP) : R Unit := match a, i with
  | .ref r, .int k => match h[r]? with
    | some (.list vs) => match place k vs.length with
      | some j => if 0 ≤ k then .ok () (h.set r (.list (vs.set j v))) else .err
      | Option.none => .err
    | some (.dict ks) => if v = .bool true ∧ szOk ks.length then .ok () (h.set r (.dict (putKey k ks))) else .err
    | _ => .err
  | _, _ => .err

/-- the places that a slice picks; a step of 0 stands for none -/
noncomputable def sliceIdx (lo hi : Option Int) (st : Nat) (len : Nat) : List Nat :=
  PySem.sliceRange (PySem.sliceBounds lo hi (if st = 0 then Option.none else some (st : Int)) len).1 (PySem.sliceBounds lo hi (if st = 0 then Option.none else some (st : Int)) len).2.1 (PySem.sliceBounds lo hi (if st = 0 then Option.none else some (st : Int)) len).2.2
noncomputable def partOf : AV → Option (Option Int)
  | .none => some Option.none
  | .int i => some (some i)
  | _ => Option.none
noncomputable def sliceL (vs : List AV) (lo hi : AV) (st : Nat) : Option (List AV) := match partOf lo, partOf hi with
  | some a, some b => some ((sliceIdx a b st vs.length).filterMap (vs[·]?))
  | _, _ => Option.none
noncomputable def sliceop (a lo hi : AV) (st : Nat) (h : HP) : R AV := match a with
  | .ref r => match h[r]? with
    | some (.list vs) | some (.const vs) => match sliceL vs lo hi st with
      | some ws => if szOk ws.length then .ok (.ref h.length) (h ++ [.list ws]) else .err
      | Option.none => .err
    | _ => .err
  | _ => .err

noncomputable def truthy : AV → Option Bool
  | .bool b => some b
  | _ => Option.none

noncomputable def insI (n : Int) : List Int → List Int
  | [] => [n]
  | x :: r => if n ≤ x then n :: x :: r else x :: insI n r
noncomputable def sortI : List Int → List Int
  | [] => []
  | x :: r => insI x (sortI r)

noncomputable def bfop (f : BF) (args : List AV) (h : HP) : R AV := match f, args with
  | .len, [.ref i] => match h[i]? with
    | some (.list vs) | some (.tup vs) => .ok (.int vs.length) h
    | some (.dict ks) => .ok (.int ks.length) h
    | some (.const vs) => .ok (.int vs.length) h
    | _ => .err
  | .list, [.ref i] => match h[i]? with
    | some (.list vs) => .ok (.ref h.length) (h ++ [.list vs])
    | some (.dict ks) => .ok (.ref h.length) (h ++ [.list (ks.map .int)])
    | _ => .err
  | .listRange, [.int n] => if szOk n.natAbs then .ok (.ref h.length) (h ++ [.list ((List.range n.toNat).map fun (k : Nat) => .int (k : Int))]) else .err
  | .sorted, [.ref i] => match h[i]? with
    | some (.list vs) => match intsOf vs with
      | some ns => if ns.length < 64 then .ok (.ref h.length) (h ++ [.list ((sortI ns).map .int)]) else .err
      | Option.none => .err
    | some (.dict ks) => if ks.length < 64 then .ok (.ref h.length) (h ++ [.list ((sortI ks).map .int)]) else .err
    | _ => .err
  | .int, [.bool b] => .ok (.int (if b then 1 else 0)) h
  | .min, [.int a, .int b] => .ok (.int (if b < a then b else a)) h
  | .max, [.int a, .int b] => .ok (.int (if a < b then b else a)) h
  | .max1, [.ref i] => match h[i]? with
    | some (.list vs) => match intsOf vs with
      | some (n :: ns) => .ok (.int (ns.foldl (fun a b => if a < b then b else a) n)) h
      | _ => .err
    | _ => .err
  | .all, [.ref i] => match h[i]? with
    | some (.list vs) => match boolsOf vs with
      | some bs => .ok (.bool (bs.all id)) h
      | Option.none => .err
    | _ => .err
  | _, _ => .err

noncomputable def bmop (m : BM) (a : AV) (args : List AV) (h : HP) : R AV := match a with
  | .ref i => match h[i]?, m, args with
    | some (.list vs), .append, [v] => if szOk vs.length then .ok .none (h.set i (.list (vs ++ [v]))) else .err
    | some (.list vs), .insert, [.int k, v] => if (0 ≤ k ∧ k ≤ vs.length) ∧ szOk vs.length then .ok .none (h.set i (.list (vs.take k.toNat ++ v :: vs.drop k.toNat))) else .err
    | some (.list vs), .popAt, [.int k] => if 0 ≤ k ∧ k < vs.length then (match vs[k.toNat]? with
      | some v => .ok v (h.set i (.list (vs.eraseIdx k.toNat)))
      | Option.none => .err) else .err
    | some (.list vs), .index, [.int n] => match intsOf vs with
      | some ns => if n ∈ ns then .ok (.int (ns.idxOf n : Nat)) h else .err
      | Option.none => .err
    | some (.list _), .clear, [] => .ok .none (h.set i (.list []))
    | some (.dict ks), .dpop, [.int k] => if k ∈ ks then .ok (.bool true) (h.set i (.dict (ks.filter fun x => decide (x ≠ k)))) else .err
    | _, _, _ => .err
  | _ => .err

noncomputable def isinstop (sub : Nat → Nat → Bool) (t : TY) (a : AV) (h : HP) : R AV := match a, t with
  | .bool _, .bool => .ok (.bool true) h
  | .int _, .int => .ok (.bool true) h
  | .int _, .bool => .ok (.bool false) h
  | .ref i, t => match h[i]?, t with
    | some (.list _), .list => .ok (.bool true) h
    | some (.tup _), .tup => .ok (.bool true) h
    | some (.exc _), .valueError => .ok (.bool true) h
    | some (.exc c), .own d => .ok (.bool (sub c d)) h
    | _, _ => .err
  | _, _ => .err

/-- the kind of object that a built-in method wants -/
noncomputable def bmKind (m : BM) (a : AV) (h : HP) : Bool := match a with
  | .ref i => match m, h[i]? with
    | .dpop, some (.dict _) => true
    | .dpop, _ => false
    | _, some (.list _) => true
    | _, _ => false
  | _ => false

/-- what must stand at each turn of a loop -/
abbrev Grd := Option (Nat × AO)
noncomputable def okG : Grd → HP → Bool
  | Option.none, _ => true
  | some (i, o), h => decide (h[i]? = some o)

/-- the items of a loop, and what must stand at each turn -/
noncomputable def itemsOf (ik : IK) (args : List AV) (h : HP) : Option (List AV × Grd) := match ik, args with
  | .range1, [.int n] => if n.natAbs < 2 ^ 62 then some ((List.range n.toNat).map fun (k : Nat) => .int (k : Int), Option.none) else Option.none
  | .range3, [.int a, .int b, .int c] => if a.natAbs < 2 ^ 60 ∧ b.natAbs < 2 ^ 60 ∧ 0 < c ∧ c.natAbs < 2 ^ 60 then some ((List.range (if a < b then (b - a - 1) / c + 1 else 0).toNat).map fun (k : Nat) => .int (a + (k : Int) * c), Option.none) else Option.none
  | .val, [.ref i] => match h[i]? with
    | some (.list vs) => some (vs, some (i, .list vs))
    | some (.tup vs) => some (vs, some (i, .tup vs))
    | _ => Option.none
  | .enum, [.ref i] => match h[i]? with
    | some (.list vs) => some (vs, some (i, .list vs))
    | _ => Option.none
  | .rev, [.ref i] => match h[i]? with
    | some (.list vs) => some (vs.reverse, some (i, .list vs))
    | _ => Option.none
  | _, _ => Option.none

/-- no raise may leave a comprehension -/
noncomputable def R.noexc {α : Type} : R α → R α
  | .ok a h => .ok a h
  | _ => .err
/-- the elements of a comprehension -/
noncomputable def compL (g : Grd) (cond elt : AV → HP → R AV) : List AV → HP → R (List AV)
  | [], h => if okG g h then .ok [] h else .err
  | v :: r, h => if okG g h then (cond v h).noexc.bind fun c h₁ => match truthy c with
      | some true => (elt v h₁).noexc.bind fun x h₂ => (compL g cond elt r h₂).bind fun xs h₃ => .ok (x :: xs) h₃
      | some false => compL g cond elt r h₁
      | Option.none => .err
    else .err

section
variable (G : Gl) (cl : CallO)
mutual
noncomputable def ev : CE → LOC → HP → R AV
  | .none, _, h => .ok .none h
  | .bool b, _, h => .ok (.bool b) h
  | .int i, _, h => .ok (.int i) h
  | .pow a n, _, h => .ok (.int ((a : Int) ^ n)) h
  | .loc k, l, h => match l[k]? with | some (some v) => .ok v h | _ => .err
  | .bin op a b, l, h => (ev a l h).bind fun x h₁ => (ev b l h₁).bind fun y h₂ => binop op x y h₂
  | .neg a, l, h => (ev a l h).bind fun x h₁ => match x with | .int i => .ok (.int (-i)) h₁ | _ => .err
  | .not a, l, h => (ev a l h).bind fun x h₁ => match truthy x with | some b => .ok (.bool (!b)) h₁ | Option.none => .err
  | .and a b, l, h => (ev a l h).bind fun x h₁ => match truthy x with | some true => ev b l h₁ | some false => .ok x h₁ | Option.none => .err
  | .or a b, l, h => (ev a l h).bind fun x h₁ => match truthy x with | some false => ev b l h₁ | some true => .ok x h₁ | Option.none => .err
  | .cmp op a b, l, h => (ev a l h).bind fun x h₁ => (ev b l h₁).bind fun y h₂ => cmpop op x y h₂
  | .isC neg a c, l, h => (ev a l h).bind fun x h₁ => isop neg x c h₁
  | .isin neg a b, l, h => (ev a l h).bind fun x h₁ => (ev b l h₁).bind fun y h₂ => isinop neg x y h₂
  | .chain a o₁ b o₂ c, l, h => (ev a l h).bind fun x h₁ => (ev b l h₁).bind fun y h₂ => (cmpop o₁ x y h₂).bind fun r h₃ => match truthy r with
      | some true => (ev c l h₃).bind fun z h₄ => cmpop o₂ y z h₄
      | some false => .ok r h₃
      | Option.none => .err
  | .attr a n, l, h => (ev a l h).bind fun x h₁ => attrop n x h₁
  | .item a i, l, h => (ev a l h).bind fun x h₁ => (ev i l h₁).bind fun y h₂ => itemop x y h₂
  | .slice a lo hi st, l, h => (ev a l h).bind fun x h₁ => (ev lo l h₁).bind fun y h₂ => (ev hi l h₂).bind fun z h₃ => sliceop x y z st h₃
  | .list es, l, h => (evs es l h).bind fun vs h₁ => if szOk vs.length then .ok (.ref h₁.length) (h₁ ++ [.list vs]) else .err
  | .tup es, l, h => (evs es l h).bind fun vs h₁ => if szOk vs.length then .ok (.ref h₁.length) (h₁ ++ [.tup vs]) else .err
  | .dict0, _, h => .ok (.ref h.length) (h ++ [.dict []])
  | .call f es, l, h => (evs es l h).bind fun vs h₁ => cl f vs h₁
  | .meth a m es, l, h => (ev a l h).bind fun x h₁ => match x with
      | .ref i => match h₁[i]? with
        | some (.inst c d) => match G.meth c m, h₁[d]? with
          | some f, some (.fields _) => (evs es l h₁).bind fun vs h₂ => cl f (.ref i :: vs) h₂
          | _, _ => .err
        | _ => .err
      | _ => .err
  | .new c es, l, h => match G.init c with
      | some f => (evs es l h).bind fun vs h₁ => (cl f (.ref (h₁.length + 1) :: vs) (h₁ ++ [.fields [], .inst c h₁.length])).bind fun r h₂ => match r with
        | .none => .ok (.ref (h₁.length + 1)) h₂
        | _ => .err
      | Option.none => .err
  | .bm m a es, l, h => (ev a l h).bind fun x h₁ => if bmKind m x h₁ then (evs es l h₁).bind fun vs h₂ => bmop m x vs h₂ else .err
  | .bf f es, l, h => (evs es l h).bind fun vs h₁ => bfop f vs h₁
  | .isinst a t, l, h => (ev a l h).bind fun x h₁ => isinstop G.sub t x h₁
  | .comp elt ik es cond, l, h => (evs es l h).bind fun vs h₁ => match itemsOf ik vs h₁ with
      | some (items, g) => if szOk items.length then (compL g (fun v h' => ev cond (l ++ [some v]) h') (fun v h' => ev elt (l ++ [some v]) h') items h₁).bind fun xs h₂ =>
          .ok (.ref h₂.length) (h₂ ++ [.list xs]) else .err
      | Option.none => .err
noncomputable def evs : CEs → LOC → HP → R (List AV)
  | .nil, _, h => .ok [] h
  | .cons e es, l, h => (ev e l h).bind fun v h₁ => (evs es l h₁).bind fun vs h₂ => .ok (v :: vs) h₂
end
end

inductive RS where
  | next (l : LOC) (h : HP)
  | ret (v : AV) (h : HP)
  | exc (c : Nat) (l : LOC) (h : HP)
  | err


noncomputable def R.thn {α : Type} (l : LOC) : R α → (α → HP → RS) → RS
  | .ok a h, f => f a h
  | .exc c h, _ => .exc c l h
  | .err, _ => .err
noncomputable def RS.thn : RS → (LOC → HP → RS) → RS
  | .next l h, f => f l h
  | r, _ => r

noncomputable def forL (g : Grd) (step : AV → Nat → LOC → HP → RS) : List AV → Nat → LOC → HP → RS
  | [], _, l, h => if okG g h then .next l h else .err
  | v :: r, k, l, h => if okG g h then (step v k l h).thn fun l' h' => forL g step r (k + 1) l' h' else .err

noncomputable def whileL (test : LOC → HP → R AV) (body : LOC → HP → RS) : Nat → LOC → HP → RS
  | 0, _, _ => .err
  | n + 1, l, h => (test l h).thn l fun b h₁ => match truthy b with
    | some true => (body l h₁).thn fun l' h' => whileL test body n l' h'
    | some false => .next l h₁
    | Option.none => .err

section
variable (G : Gl) (cl : CallO) (W : Nat)
mutual
noncomputable def exec : CS → LOC → HP → RS
  | .skip, l, h => .next l h
  | .seq a b, l, h => (exec a l h).thn fun l' h' => exec b l' h'
  | .asg k e, l, h => (ev G cl e l h).thn l fun v h₁ => .next (l.set k (some v)) h₁
  | .asg2 k₁ k₂ e, l, h => (ev G cl e l h).thn l fun v h₁ => match v with
      | .ref i => match h₁[i]? with
        | some (.tup [x, y]) => .next ((l.set k₁ (some x)).set k₂ (some y)) h₁
        | _ => .err
      | _ => .err
  | .setAttr a n e, l, h => (ev G cl e l h).thn l fun v h₁ => (ev G cl a l h₁).thn l fun x h₂ => (setAttrOp n x v h₂).thn l fun _ h₃ => .next l h₃
  | .setItem a i e, l, h => (ev G cl e l h).thn l fun v h₁ => (ev G cl a l h₁).thn l fun x h₂ => (ev G cl i l h₂).thn l fun y h₃ => (setItemOp x y v h₃).thn l fun _ h₄ => .next l h₄
  | .ex e, l, h => (ev G cl e l h).thn l fun _ h₁ => .next l h₁
  | .ite t a b, l, h => (ev G cl t l h).thn l fun v h₁ => match truthy v with
      | some true => exec a l h₁
      | some false => exec b l h₁
      | Option.none => .err
  | .whil t b, l, h => whileL (fun l' h' => ev G cl t l' h') (fun l' h' => exec b l' h') W l h
  | .for1 k ik es b, l, h => (evs G cl es l h).thn l fun vs h₁ => match itemsOf ik vs h₁ with
      | some (items, g) => forL g (fun v _ l' h' => exec b (l'.set k (some v)) h') items 0 l h₁
      | Option.none => .err
  | .for2 k₁ k₂ e b, l, h => (ev G cl e l h).thn l fun v h₁ => match itemsOf .enum [v] h₁ with
      | some (items, g) => forL g (fun v n l' h' => exec b ((l'.set k₁ (some (.int n))).set k₂ (some v)) h') items 0 l h₁
      | Option.none => .err
  | .ret e, l, h => (ev G cl e l h).thn l fun v h₁ => .ret v h₁
  | .raise c _, l, h => .exc c l h
  | .tr b hs, l, h => match exec b l h with
      | .exc c l' h' => hand hs c l' h'
      | r => r
  | .dead, _, _ => .err
noncomputable def hand : CHs → Nat → LOC → HP → RS
  | .nil, c, l, h => .exc c l h
  | .cons d as_ b hs, c, l, h => if G.sub c d then (match as_ with
      | Option.none => exec b l h
      | some k => (exec b (l.set k (some (.ref h.length))) (h ++ [.exc c])).thn fun l' h' => .next (l'.set k Option.none) h')
    else hand hs c l h
end
end

noncomputable def Fn.run (G : Gl) (cl : CallO) (W : Nat) (f : Fn) (args : List AV) (h : HP) : R AV :=
  if args.length = f.np then match exec G cl W f.code (args.map some ++ List.replicate (f.ns - f.np) Option.none) h with
    | .next _ h' => .ok .none h'
    | .ret v h' => .ok v h'
    | .exc c _ h' => .exc c h'
    | .err => .err
  else .err

noncomputable def callN (G : Gl) (W : Nat) : Nat → CallO
  | 0 => fun _ _ _ => .err
  | n + 1 => fun f args h => match G.fns f with
    | some fn => fn.run G (callN G W n) W args h
    | Option.none => .err

end Sk


namespace Sk
open PySem PySem.Calls PySem.W PyProof.Rows PySem.Spec

/-! ## what the mini-language's things are in the model -/

/-- the text's own things, by number -/
structure Tx where
  fnName : Nat → Option Str
  fnAddr : Nat → Option Addr
  clsName : Nat → Option Str
  clsAddr : Nat → Option Addr
  attr : Nat → Option Str
  mth : Nat → Option Str
  /-- may the text raise -/
  exc : Bool

noncomputable def VR (ρ : List Addr) : AV → Value → Prop
  | .none, v => v = Value.none
  | .bool b, v => v = Value.bool b
  | .int i, v => ∃ t, v = Value.int i t
  | .str x, v => ∃ t, v = Value.str x t
  | .ref a, v => ∃ c, ρ[a]? = some c ∧ v = Value.ref c

inductive VRs (ρ : List Addr) : List AV → List Value → Prop
  | nil : VRs ρ [] []
  | cons {a : AV} {v : Value} {as : List AV} {vs : List Value} : VR ρ a v → VRs ρ as vs → VRs ρ (a :: as) (v :: vs)

theorem getElem?_pre {α : Type} {a b : List α} {i : Nat} {x : α} (p : a <+: b) (h : a[i]? = some x) : b[i]? = some x := by
  obtain ⟨t, rfl⟩ := p
  rw [List.getElem?_append_left (List.getElem?_eq_some_iff.mp h).1]
  exact h

theorem VR.mono {ρ ρ' : List Addr} (p : ρ <+: ρ') {a : AV} {v : Value} (h : VR ρ a v) : VR ρ' a v := by
  cases a with
  | ref _ => obtain ⟨c, h, e⟩ := h; exact ⟨c, getElem?_pre p h, e⟩
  | _ => exact h
theorem VRs.mono {ρ ρ' : List Addr} (p : ρ <+: ρ') {as : List AV} {vs : List Value} (h : VRs ρ as vs) : VRs ρ' as vs := by
  induction h with
  | nil => exact .nil
  | cons a _ ih => exact .cons (a.mono p) ih
theorem VRs.length {ρ : List Addr} {as : List AV} {vs : List Value} (h : VRs ρ as vs) : vs.length = as.length := by
  induction h with
  | nil => rfl
  | cons _ _ ih => simp [ih]
theorem VRs.get {ρ : List Addr} {as : List AV} {vs : List Value} (h : VRs ρ as vs) {i : Nat} {a : AV} (e : as[i]? = some a) : ∃ v, vs[i]? = some v ∧ VR ρ a v := by
  induction h generalizing i with
  | nil => simp at e
  | cons x _ ih =>
    cases i with
    | zero => simp at e; subst e; exact ⟨_, rfl, x⟩
    | succ i => simp at e; obtain ⟨v, h1, h2⟩ := ih e; exact ⟨v, by simpa using h1, h2⟩
theorem VRs.append {ρ : List Addr} {as bs : List AV} {vs ws : List Value} (h : VRs ρ as vs) (k : VRs ρ bs ws) : VRs ρ (as ++ bs) (vs ++ ws) := by
  induction h with
  | nil => exact k
  | cons a _ ih => exact .cons a ih
theorem VRs.take {ρ : List Addr} {as : List AV} {vs : List Value} (h : VRs ρ as vs) (n : Nat) : VRs ρ (as.take n) (vs.take n) := by
  induction h generalizing n with
  | nil => simp; exact .nil
  | cons a _ ih => cases n with
    | zero => exact .nil
    | succ n => exact .cons a (ih n)
theorem VRs.drop {ρ : List Addr} {as : List AV} {vs : List Value} (h : VRs ρ as vs) (n : Nat) : VRs ρ (as.drop n) (vs.drop n) := by
  induction h generalizing n with
  | nil => simp; exact .nil
  | cons a h ih => cases n with
    | zero => exact .cons a h
    | succ n => exact ih n
theorem VRs.set {ρ : List Addr} {as : List AV} {vs : List Value} (h : VRs ρ as vs) (n : Nat) {a : AV} {v : Value} (x : VR ρ a v) : VRs ρ (as.set n a) (vs.set n v) := by
  induction h generalizing n with
  | nil => exact .nil
  | cons b h ih => cases n with
    | zero => exact .cons x h
    | succ n => exact .cons b (ih n)
theorem VRs.eraseIdx {ρ : List Addr} {as : List AV} {vs : List Value} (h : VRs ρ as vs) (n : Nat) : VRs ρ (as.eraseIdx n) (vs.eraseIdx n) := by
  induction h generalizing n with
  | nil => exact .nil
  | cons b h ih => cases n with
    | zero => exact h
    | succ n => exact .cons b (ih n)
theorem VRs.reverse {ρ : List Addr} {as : List AV} {vs : List Value} (h : VRs ρ as vs) : VRs ρ as.reverse vs.reverse := by
  induction h with
  | nil => exact .nil
  | cons b h ih => simp only [List.reverse_cons]; exact ih.append (.cons b .nil)
theorem VRs.ints {ρ : List Addr} {as : List AV} {vs : List Value} {ns : List Int} (h : VRs ρ as vs) (e : intsOf as = some ns) : IntsAre vs ns := by
  induction h generalizing ns with
  | nil => simp only [intsOf, Option.some.injEq] at e; subst e; exact .nil
  | @cons a v as vs ha _ ih =>
    cases a with
    | int i =>
      simp only [intsOf, Option.map_eq_some_iff] at e
      obtain ⟨ms, e1, rfl⟩ := e
      obtain ⟨t, rfl⟩ := ha
      exact .cons _ _ (ih e1)
    | _ => simp [intsOf] at e
theorem VRs.of_ints {ρ : List Addr} {vs : List Value} {ns : List Int} (h : IntsAre vs ns) : VRs ρ (ns.map .int) vs := by
  induction h with
  | nil => exact .nil
  | cons n t _ ih => exact .cons ⟨_, rfl⟩ ih


/-- a text, its world and its ground -/
structure Cx where
  prog : Program
  w : World
  base : Heap
  s₀ : Shared
  K : Frag
  tx : Tx
  G : Gl
  mg : Str → Option Value
  mb : Str → Option Value
  /-- the object that the call was handed -/
  scr : Option Obj

structure Fm where
  env : Env
  A : Around
  slots : List (Option Str)
  cells : List (Str × Addr)
  /-- the frames below, as they were laid -/
  fr0 : List (Addr × Obj)
  outer : List Env

noncomputable def FieldsR (tx : Tx) (P : Params) (ρ : List Addr) : List (Nat × AV) → List DictEntry → Prop
  | [], [] => True
  | (n, v) :: r, e :: es => (∃ x t, tx.attr n = some x ∧ e.key = .str x t ∧ e.hash = PyData.keyHash P x ∧ VR ρ v e.val) ∧ FieldsR tx P ρ r es
  | _, _ => False
theorem FieldsR.mono {tx : Tx} {P : Params} {ρ ρ' : List Addr} (p : ρ <+: ρ') {fs : List (Nat × AV)} {es : List DictEntry} (h : FieldsR tx P ρ fs es) : FieldsR tx P ρ' fs es := by
  induction fs generalizing es with
  | nil => cases es with
    | nil => exact trivial
    | cons _ _ => exact h.elim
  | cons q fs ih => cases es with
    | nil => exact h.elim
    | cons e es =>
      obtain ⟨⟨x, t, a, b, c, d⟩, r⟩ := h
      exact ⟨⟨x, t, a, b, c, d.mono p⟩, ih r⟩

noncomputable def ObjR (Γ : Cx) (ρ : List Addr) : AO → Obj → Prop
  | .list vs, o => ∃ vs' n, o = listOf vs'.toArray n ∧ VRs ρ vs vs' ∧ vs.length ≤ 200000
  | .tup vs, o => ∃ vs' n, o = { cls := .type "tuple", data := .seq vs'.toArray n } ∧ VRs ρ vs vs' ∧ vs.length ≤ 200000
  | .fields fs, o => ∃ es n, o = dictOf es n ∧ FieldsR Γ.tx Γ.w.params ρ fs es
  | .inst c d, o => ∃ C dx, (c = 0 ∧ Γ.tx.clsAddr c = some C) ∧ ρ[d]? = some dx ∧ o = instObj C dx
  | .dict ks, o => o.IsDictOf (intKind Γ.prog Γ.w) (ks.map fun k => (k, Value.bool true)) ∧ ks.length ≤ 200000
  | .exc c, o => ∃ C, Γ.tx.exc = true ∧ Γ.tx.clsAddr c = some C ∧ o.cls = .ref C ∧ notCls o = true
  | .const vs, o => ∃ vs' n, o.cls = .type "list" ∧ o.data = .seq vs'.toArray n ∧ VRs ρ vs vs' ∧ vs.length ≤ 200000 ∧ Γ.scr = some o
theorem ObjR.mono {Γ : Cx} {ρ ρ' : List Addr} (p : ρ <+: ρ') {a : AO} {o : Obj} (h : ObjR Γ ρ a o) : ObjR Γ ρ' a o := by
  cases a with
  | list _ => obtain ⟨vs, n, e, h, z⟩ := h; exact ⟨vs, n, e, h.mono p, z⟩
  | tup _ => obtain ⟨vs, n, e, h, z⟩ := h; exact ⟨vs, n, e, h.mono p, z⟩
  | fields _ => obtain ⟨es, n, e, h⟩ := h; exact ⟨es, n, e, h.mono p⟩
  | inst _ _ => obtain ⟨C, dx, a, b, c⟩ := h; exact ⟨C, dx, a, getElem?_pre p b, c⟩
  | dict _ => exact h
  | exc _ => exact h
  | const _ => obtain ⟨vs, n, a, b, h, z⟩ := h; exact ⟨vs, n, a, b, h.mono p, z⟩

noncomputable def Fm.adr (f : Fm) (hid : List (Addr × Obj)) (ρ : List Addr) : List Addr := ρ ++ (f.cells.map (·.2) ++ (hid.map (·.1) ++ (f.fr0.map (·.1) ++ [f.env.locals])))

structure At (Γ : Cx) (f : Fm) (hid : List (Addr × Obj)) (ρ : List Addr) (l : LOC) (h : HP) (s : Shared) : Prop where
  sh : s = { Γ.s₀ with heap := s.heap, toks := s.toks }
  frm : ∃ m, Fr Γ.base f.env.locals s.heap m ∧ l.length = f.slots.length ∧ ∀ (k : Nat) (x : Str) (v : AV), f.slots[k]? = some (some x) → l[k]? = some (some v) →
    ∃ v', VR ρ v v' ∧ ((f.env.kindOf x = some .local ∧ m x = some v') ∨ (f.env.kindOf x ≠ some .local ∧ ∃ c, f.cells.lookup x = some c ∧ s.heap.IsCell c (some v')))
  cel : ∀ p ∈ f.cells, ∃ v, s.heap.IsCell p.2 v
  len : ρ.length = h.length
  obj : ∀ (i : Nat) (ao : AO) (c : Addr), h[i]? = some ao → ρ[i]? = some c → ∃ o, s.heap.get? c = some o ∧ ObjR Γ ρ ao o
  nodup : (f.adr hid ρ).Nodup
  fresh : ∀ c ∈ f.adr hid ρ, Γ.base.get? c = none
  hidden : ∀ p ∈ hid, s.heap.get? p.1 = some p.2
  below : ∀ p ∈ f.fr0, ∃ sl, s.heap.get? p.1 = some { p.2 with slots := sl }


section
variable {Γ : Cx} {f : Fm} {hid : List (Addr × Obj)} {ρ : List Addr} {l : LOC} {h : HP} {s : Shared}

theorem At.lt (x : At Γ f hid ρ l h s) {i : Nat} {c : Addr} (e : ρ[i]? = some c) : i < h.length := by
  rw [← x.len]; exact (List.getElem?_eq_some_iff.mp e).1
theorem At.has (x : At Γ f hid ρ l h s) {i : Nat} {ao : AO} (e : h[i]? = some ao) : ∃ c o, ρ[i]? = some c ∧ s.heap.get? c = some o ∧ ObjR Γ ρ ao o := by
  have hi : i < ρ.length := by rw [x.len]; exact (List.getElem?_eq_some_iff.mp e).1
  obtain ⟨o, h1, h2⟩ := x.obj i ao ρ[i] e (List.getElem?_eq_getElem hi)
  exact ⟨ρ[i], o, List.getElem?_eq_getElem hi, h1, h2⟩
theorem At.mem (x : At Γ f hid ρ l h s) {i : Nat} {c : Addr} (e : ρ[i]? = some c) : c ∈ f.adr hid ρ := List.mem_append_left _ (List.mem_of_getElem? e)
theorem At.keepBase (x : At Γ f hid ρ l h s) : ∀ b o, Γ.base.get? b = some o → s.heap.get? b = some o := let ⟨_, F, _⟩ := x.frm; F.keep

/-- the heap goes on, all that stood stands -/
theorem At.grow (x : At Γ f hid ρ l h s) {s' : Shared} (hs : s' = { Γ.s₀ with heap := s'.heap, toks := s'.toks }) (k : ∀ b o, s.heap.get? b = some o → s'.heap.get? b = some o) : At Γ f hid ρ l h s' := by
  obtain ⟨m, F, hl, hm⟩ := x.frm
  refine ⟨hs, ⟨m, ⟨F.ns.keeps k, fun b o e => k b o (F.keep b o e), F.above⟩, hl, fun i y v a b => ?_⟩, fun p hp => ?_, x.len, fun i ao c a b => ?_, x.nodup, x.fresh, fun p hp => k _ _ (x.hidden p hp), fun p hp => ?_⟩
  · obtain ⟨v', h1, h2⟩ := hm i y v a b
    exact ⟨v', h1, h2.imp id fun ⟨h3, c, h4, h5⟩ => ⟨h3, c, h4, h5.keeps k⟩⟩
  · obtain ⟨v, hv⟩ := x.cel p hp; exact ⟨v, hv.keeps k⟩
  · obtain ⟨o, h1, h2⟩ := x.obj i ao c a b; exact ⟨o, k _ _ h1, h2⟩
  · obtain ⟨sl, e⟩ := x.below p hp; exact ⟨sl, k _ _ e⟩
theorem At.toks (x : At Γ f hid ρ l h s) (t : Nat) : At Γ f hid ρ l h { s with toks := t } :=
  x.grow (by have := x.sh; rw [this]) fun _ _ e => e

theorem fresh_size {h₀ hp : Heap} {L : Addr} {m : Str → Option Value} (F : Fr h₀ L hp m) : h₀.get? hp.objs.size = none := by
  cases q : h₀.get? hp.objs.size with
  | none => rfl
  | some o => exact absurd (Heap.lt_size (F.keep _ _ q)) (Nat.lt_irrefl _)
theorem At.all_lt (x : At Γ f hid ρ l h s) : ∀ c ∈ f.adr hid ρ, c < s.heap.objs.size := by
  intro c hc
  unfold Fm.adr at hc
  simp only [List.mem_append] at hc
  rcases hc with hc | hc | hc | hc | hc
  · obtain ⟨i, hi, rfl⟩ := List.mem_iff_getElem.mp hc
    have hi' : i < h.length := by rw [← x.len]; exact hi
    obtain ⟨o, h1, _⟩ := x.obj i h[i] ρ[i] (List.getElem?_eq_getElem hi') (List.getElem?_eq_getElem hi)
    exact Heap.lt_size h1
  · obtain ⟨p, hp, rfl⟩ := List.mem_map.mp hc
    obtain ⟨v, o, e, _⟩ := x.cel p hp
    exact Heap.lt_size e
  · obtain ⟨p, hp, rfl⟩ := List.mem_map.mp hc
    exact Heap.lt_size (x.hidden p hp)
  · obtain ⟨p, hp, rfl⟩ := List.mem_map.mp hc
    obtain ⟨sl, e⟩ := x.below p hp
    exact Heap.lt_size e
  · obtain ⟨m, F, _⟩ := x.frm
    rw [List.mem_singleton.mp hc]; exact F.ns.lt

theorem mem_of_lookup {β : Type} {x : Str} {c : β} : ∀ {l : List (Str × β)}, l.lookup x = some c → (x, c) ∈ l
  | [], e => by cases e
  | (y, d) :: r, e => by
    rw [List.lookup_cons] at e
    by_cases q : (x == y) = true
    · rw [q] at e; cases e; rw [eq_of_beq q]; exact .head _
    · rw [Bool.eq_false_iff.mpr q] at e; exact .tail _ (mem_of_lookup e)

/-- a new object, at the heap's end -/
theorem At.alloc (x : At Γ f hid ρ l h s) {s' : Shared} {c : Addr} {o : Obj} {ao : AO} (hs : s' = { Γ.s₀ with heap := s'.heap, toks := s'.toks }) (k : ∀ b o, s.heap.get? b = some o → s'.heap.get? b = some o)
    (hc : s.heap.objs.size ≤ c) (ho : s'.heap.get? c = some o) (hr : ObjR Γ (ρ ++ [c]) ao o) : At Γ f hid (ρ ++ [c]) l (h ++ [ao]) s' := by
  have y := x.grow hs k
  have p : ρ <+: ρ ++ [c] := List.prefix_append _ _
  obtain ⟨m, F, hl, hm⟩ := y.frm
  have hnew : ∀ d ∈ f.adr hid ρ, d ≠ c := fun d hd e => absurd (Nat.lt_of_lt_of_le (x.all_lt d hd) hc) (e ▸ Nat.lt_irrefl _)
  have hb : Γ.base.get? c = none := by
    cases q : Γ.base.get? c with
    | none => rfl
    | some o => exact absurd (Nat.lt_of_lt_of_le (Heap.lt_size (x.keepBase _ _ q)) hc) (Nat.lt_irrefl _)
  refine ⟨hs, ⟨m, F, hl, fun i z v a b => ?_⟩, y.cel, by simp [x.len], fun i ao' d a b => ?_, ?_, ?_, y.hidden, y.below⟩
  · obtain ⟨v', h1, h2⟩ := hm i z v a b
    exact ⟨v', h1.mono p, h2⟩
  · by_cases hi : i < h.length
    · rw [List.getElem?_append_left hi] at a
      rw [List.getElem?_append_left (by rw [x.len]; exact hi)] at b
      obtain ⟨o', h1, h2⟩ := y.obj i ao' d a b
      exact ⟨o', h1, h2.mono p⟩
    · have hi' : i = h.length := by
        have := (List.getElem?_eq_some_iff.mp a).1
        simp at this; omega
      subst hi'
      have e1 : ao' = ao := by simpa using a.symm
      have e2 : d = c := by rw [← x.len] at b; simpa using b.symm
      subst e1; subst e2
      exact ⟨o, ho, hr⟩
  · unfold Fm.adr
    rw [List.append_assoc]
    have hn := x.nodup
    unfold Fm.adr at hn hnew
    rw [List.nodup_append] at hn ⊢
    refine ⟨hn.1, ?_, fun a ha b hb' => ?_⟩
    · rw [List.singleton_append, List.nodup_cons]
      exact ⟨fun hm => hnew _ (List.mem_append_right _ hm) rfl, hn.2.1⟩
    · rcases List.mem_append.mp hb' with e | e
      · rw [List.mem_singleton.mp e]; exact hnew a (List.mem_append_left _ ha)
      · exact hn.2.2 a ha b e
  · intro d hd
    unfold Fm.adr at hd
    rw [List.append_assoc, List.mem_append] at hd
    rcases hd with hd | hd
    · exact x.fresh d (List.mem_append_left _ hd)
    · rcases List.mem_append.mp hd with hd | hd
      · rw [List.mem_singleton.mp hd]; exact hb
      · exact x.fresh d (List.mem_append_right _ hd)

theorem At.neLoc (x : At Γ f hid ρ l h s) {i : Nat} {c : Addr} (e : ρ[i]? = some c) : c ≠ f.env.locals := by
  have hn := x.nodup
  unfold Fm.adr at hn
  rw [List.nodup_append] at hn
  exact hn.2.2 c (List.mem_of_getElem? e) _ (by simp)
theorem At.apart (x : At Γ f hid ρ l h s) {i j : Nat} {c d : Addr} (e : ρ[i]? = some c) (e' : ρ[j]? = some d) (hij : i ≠ j) : c ≠ d := by
  have hn := (List.nodup_append.mp x.nodup).1
  obtain ⟨hi, rfl⟩ := List.getElem?_eq_some_iff.mp e
  obtain ⟨hj, rfl⟩ := List.getElem?_eq_some_iff.mp e'
  intro q
  have := List.pairwise_iff_getElem.mp hn
  rcases Nat.lt_or_gt_of_ne hij with hlt | hlt
  · exact this i j hi hj hlt q
  · exact this j i hj hi hlt q.symm
theorem At.apartRest (x : At Γ f hid ρ l h s) {i : Nat} {c d : Addr} (e : ρ[i]? = some c) (hd : d ∈ f.cells.map (·.2) ++ (hid.map (·.1) ++ (f.fr0.map (·.1) ++ [f.env.locals]))) : d ≠ c := by
  have hn := x.nodup
  unfold Fm.adr at hn
  rw [List.nodup_append] at hn
  exact fun q => hn.2.2 c (List.mem_of_getElem? e) d hd q.symm

/-- one object is changed -/
theorem At.put (x : At Γ f hid ρ l h s) {s' : Shared} {i : Nat} {c : Addr} {o : Obj} {ao : AO} (hs : s' = { Γ.s₀ with heap := s'.heap, toks := s'.toks }) (hi : ρ[i]? = some c) (k : ∀ b o, b ≠ c → s.heap.get? b = some o → s'.heap.get? b = some o)
    (ho : s'.heap.get? c = some o) (hr : ObjR Γ ρ ao o) : At Γ f hid ρ l (h.set i ao) s' := by
  obtain ⟨m, F, hl, hm⟩ := x.frm
  have hb : Γ.base.get? c = none := x.fresh c (x.mem hi)
  have kb : ∀ b o, Γ.base.get? b = some o → s'.heap.get? b = some o := fun b o e => k b o (fun q => by rw [q, hb] at e; cases e) (F.keep b o e)
  have cellk : ∀ p ∈ f.cells, ∀ v, s.heap.IsCell p.2 v → s'.heap.IsCell p.2 v := fun p hp v ⟨oc, e1, e2⟩ => ⟨oc, k _ _ (x.apartRest hi (List.mem_append_left _ (List.mem_map_of_mem hp))) e1, e2⟩
  refine ⟨hs, ⟨m, ⟨?_, kb, F.above⟩, hl, fun j z v a b => ?_⟩, fun p hp => ?_, by simp [x.len], fun j ao' d a b => ?_, x.nodup, x.fresh, fun p hp => k _ _ (x.apartRest hi (by simp only [List.mem_append]; exact .inr (.inl (List.mem_map_of_mem hp)))) (x.hidden p hp), fun p hp => ?_⟩
  · obtain ⟨oL, es, ep, e1, e2⟩ := F.ns
    exact ⟨oL, es, ep, k _ _ (x.neLoc hi).symm e1, e2⟩
  · obtain ⟨v', h1, h2⟩ := hm j z v a b
    exact ⟨v', h1, h2.imp id fun ⟨h3, d, h4, h5⟩ => ⟨h3, d, h4, cellk _ (mem_of_lookup h4) _ h5⟩⟩
  · obtain ⟨v, hv⟩ := x.cel p hp; exact ⟨v, cellk p hp v hv⟩
  · by_cases q : j = i
    · subst q
      have e1 : d = c := Option.some.inj (b.symm.trans hi)
      have hj : j < h.length := x.lt hi
      have e2 : ao' = ao := by rw [List.getElem?_set_self hj] at a; exact (Option.some.inj a).symm
      subst e1; subst e2
      exact ⟨o, ho, hr⟩
    · rw [List.getElem?_set_ne (Ne.symm q)] at a
      obtain ⟨o', h1, h2⟩ := x.obj j ao' d a b
      exact ⟨o', k _ _ (x.apart b hi q) h1, h2⟩
  · obtain ⟨sl, e⟩ := x.below p hp
    exact ⟨sl, k _ _ (x.apartRest hi (by simp only [List.mem_append]; exact .inr (.inr (.inl (List.mem_map_of_mem hp))))) e⟩
end
end Sk


namespace Sk
open PySem PySem.Calls PySem.W PyProof.Rows PySem.Spec

structure FmOk (f : Fm) : Prop where
  kind : f.env.scope.kind = .function
  glob : f.env.globals = mainGlobals
  blt : f.env.builtins = builtinsNs
  nd : ∀ (i j : Nat) (x : Str), f.slots[i]? = some (some x) → f.slots[j]? = some (some x) → i = j
  acc : ∀ (k : Nat) (x : Str), f.slots[k]? = some (some x) → f.env.kindOf x = some .local ∨ (f.env.kindOf x = some .cell ∧ ∃ c, f.cells.lookup x = some c ∧ f.env.cells.lookup x = some c)
  cel : ∀ x, f.env.kindOf x = some .cell → ∃ c, f.cells.lookup x = some c ∧ f.env.cells.lookup x = some c
  cnd : (f.cells.map (·.1)).Nodup
  hand : f.A.handled = none

section
variable {Γ : Cx} {f : Fm} {hid : List (Addr × Obj)} {ρ : List Addr} {l : LOC} {h : HP} {s : Shared} {M : Model} {E : Value → Shared → Prop}

theorem At.read (x : At Γ f hid ρ l h s) (ok : FmOk f) {k : Nat} {y : Str} {v : AV} {Q : Value → Shared → Prop} (hk : f.slots[k]? = some (some y)) (hv : l[k]? = some (some v))
    (hq : ∀ v', VR ρ v v' → Q v' s) : wpAny M f.A (loadName f.env y) Q E s := by
  obtain ⟨m, F, hl, hm⟩ := x.frm
  obtain ⟨v', h1, h2⟩ := hm k y v hk hv
  rcases h2 with ⟨h3, h4⟩ | ⟨h3, c, h4, h5⟩
  · exact wpAny_loadName_local ok.kind h3 F.ns h4 (hq v' h1)
  · rcases ok.acc k y hk with q | ⟨q, d, e1, e2⟩
    · exact absurd q h3
    · have : c = d := Option.some.inj (h4.symm.trans e1)
      subst this
      exact wpAny_loadName_cell ok.kind q e2 h5 (hq v' h1)

theorem At.cellApart (x : At Γ f hid ρ l h s) {p : Str × Addr} (hp : p ∈ f.cells) {d : Addr} (hd : d ∈ ρ ++ (hid.map (·.1) ++ (f.fr0.map (·.1) ++ [f.env.locals]))) : d ≠ p.2 := by
  have hn := x.nodup
  unfold Fm.adr at hn
  rw [List.nodup_append] at hn
  obtain ⟨_, h2, h3⟩ := hn
  rw [List.nodup_append] at h2
  rcases List.mem_append.mp hd with hd | hd
  · exact h3 d hd p.2 (List.mem_append_left _ (List.mem_map_of_mem hp))
  · exact (h2.2.2 p.2 (List.mem_map_of_mem hp) d hd).symm
theorem At.cellInj (x : At Γ f hid ρ l h s) {y z : Str} {c : Addr} (hy : (y, c) ∈ f.cells) (hz : (z, c) ∈ f.cells) : y = z := by
  have hn := x.nodup
  unfold Fm.adr at hn
  rw [List.nodup_append] at hn
  have h2 := (List.nodup_append.mp hn.2.1).1
  obtain ⟨i, hi, e1⟩ := List.mem_iff_getElem.mp hy
  obtain ⟨j, hj, e2⟩ := List.mem_iff_getElem.mp hz
  have := List.pairwise_iff_getElem.mp h2
  rcases Nat.lt_trichotomy i j with q | q | q
  · exact absurd (by rw [List.getElem_map, List.getElem_map, e1, e2]) (this i j (by simpa using hi) (by simpa using hj) q)
  · subst q; rw [e1] at e2; exact (Prod.mk.inj e2).1
  · exact absurd (by rw [List.getElem_map, List.getElem_map, e1, e2]) (this j i (by simpa using hj) (by simpa using hi) q)

theorem At.store (x : At Γ f hid ρ l h s) (ok : FmOk f) {k : Nat} {y : Str} {v : AV} {v' : Value} {Q : Unit → Shared → Prop} (hk : f.slots[k]? = some (some y)) (hv : VR ρ v v')
    (hq : ∀ s', At Γ f hid ρ (l.set k (some v)) h s' → Q () s') : wpAny M f.A (storeName f.env y v') Q E s := by
  obtain ⟨m, F, hl, hm⟩ := x.frm
  have hkl : k < l.length := by rw [hl]; exact (List.getElem?_eq_some_iff.mp hk).1
  rcases ok.acc k y hk with q | ⟨q, c, e1, e2⟩
  · refine wpAny_storeName_local q F.ns (fun h' hn hs => hq _ ?_) (by rw [ok.kind]; rfl)
    have hloc : ∀ b, b ∈ f.adr hid ρ → b ≠ f.env.locals → h'.get? b = s.heap.get? b := fun b _ hb => hs.2 b hb
    have rest : ∀ d, d ∈ ρ ++ (f.cells.map (·.2) ++ (hid.map (·.1) ++ f.fr0.map (·.1))) → d ≠ f.env.locals := by
      have hn := x.nodup
      unfold Fm.adr at hn
      rw [show ρ ++ (f.cells.map (·.2) ++ (hid.map (·.1) ++ (f.fr0.map (·.1) ++ [f.env.locals]))) = (ρ ++ (f.cells.map (·.2) ++ (hid.map (·.1) ++ f.fr0.map (·.1)))) ++ [f.env.locals] by simp [List.append_assoc]] at hn
      exact fun d hd => (List.nodup_append.mp hn).2.2 d hd _ (.head _)
    refine ⟨by rw [x.sh], ⟨_, F.set hn hs, by simpa using hl, fun j z w a b => ?_⟩, fun p hp => ?_, x.len, fun i ao c a b => ?_, x.nodup, x.fresh, fun p hp => ?_, fun p hp => ?_⟩
    · by_cases hj : j = k
      · subst hj
        have ez : z = y := Option.some.inj (Option.some.inj (a.symm.trans hk))
        subst ez
        rw [List.getElem?_set_self hkl] at b
        have ew : w = v := (Option.some.inj (Option.some.inj b)).symm
        subst ew
        exact ⟨v', hv, .inl ⟨q, by simp⟩⟩
      · rw [List.getElem?_set_ne (Ne.symm hj)] at b
        obtain ⟨w', h1, h2⟩ := hm j z w a b
        refine ⟨w', h1, h2.imp (fun ⟨h3, h4⟩ => ⟨h3, ?_⟩) fun ⟨h3, d, h4, od, h5, h6⟩ => ⟨h3, d, h4, od, ?_, h6⟩⟩
        · have : z ≠ y := fun e => hj (ok.nd j k z a (e ▸ hk))
          simp [this, h4]
        · exact (hs.2 d (rest d (by simp only [List.mem_append, List.mem_map]; exact .inr (.inl ⟨_, mem_of_lookup h4, rfl⟩)))).trans h5
    · obtain ⟨w, od, h5, h6⟩ := x.cel p hp
      exact ⟨w, od, (hs.2 _ (rest _ (by simp only [List.mem_append]; exact .inr (.inl (List.mem_map_of_mem hp))))).trans h5, h6⟩
    · obtain ⟨o, h1, h2⟩ := x.obj i ao c a b
      exact ⟨o, (hs.2 _ (x.neLoc b)).trans h1, h2⟩
    · exact (hs.2 _ (rest _ (by simp only [List.mem_append]; exact .inr (.inr (.inl (List.mem_map_of_mem hp)))))).trans (x.hidden p hp)
    · obtain ⟨sl, e⟩ := x.below p hp
      exact ⟨sl, (hs.2 _ (rest _ (by simp only [List.mem_append]; exact .inr (.inr (.inr (List.mem_map_of_mem hp)))))).trans e⟩
  · have hcm := mem_of_lookup e1
    obtain ⟨v₀, hv₀⟩ := x.cel _ hcm
    have hnl : f.env.kindOf y ≠ some .local := by rw [q]; decide
    refine wpAny_storeName_cell ok.kind q e2 hv₀ fun h' hn hs => hq _ ?_
    have ne : ∀ d, d ∈ ρ ++ (hid.map (·.1) ++ (f.fr0.map (·.1) ++ [f.env.locals])) → d ≠ c := fun d hd => x.cellApart hcm hd
    have hb : Γ.base.get? c = none := x.fresh c (by unfold Fm.adr; simp only [List.mem_append]; exact .inr (.inl (List.mem_map.mpr ⟨_, hcm, rfl⟩)))
    refine ⟨by rw [x.sh], ⟨m, ⟨F.ns.sameBut hs (ne _ (by simp)), fun b o e => (hs.2 b (fun z => by rw [z, hb] at e; cases e)).trans (F.keep b o e), F.above⟩, by simpa using hl, fun j z w a b => ?_⟩, fun p hp => ?_, x.len, fun i ao d a b => ?_, x.nodup, x.fresh, fun p hp => ?_, fun p hp => ?_⟩
    · by_cases hj : j = k
      · subst hj
        have ez : z = y := Option.some.inj (Option.some.inj (a.symm.trans hk))
        subst ez
        rw [List.getElem?_set_self hkl] at b
        have ew : w = v := (Option.some.inj (Option.some.inj b)).symm
        subst ew
        exact ⟨v', hv, .inr ⟨hnl, c, e1, hn⟩⟩
      · rw [List.getElem?_set_ne (Ne.symm hj)] at b
        obtain ⟨w', h1, h2⟩ := hm j z w a b
        refine ⟨w', h1, h2.imp id fun ⟨h3, d, h4, h5⟩ => ⟨h3, d, h4, h5.sameBut hs fun e => ?_⟩⟩
        subst e
        exact hj (ok.nd j k z a (x.cellInj (mem_of_lookup h4) hcm ▸ hk))
    · by_cases e : p.2 = c
      · rw [e]; exact ⟨_, hn⟩
      · obtain ⟨w, h5⟩ := x.cel p hp
        exact ⟨w, h5.sameBut hs e⟩
    · obtain ⟨o, h1, h2⟩ := x.obj i ao d a b
      exact ⟨o, (hs.2 _ (ne _ (List.mem_append_left _ (List.mem_of_getElem? b)))).trans h1, h2⟩
    · exact (hs.2 _ (ne _ (by simp only [List.mem_append]; exact .inr (.inl (List.mem_map_of_mem hp))))).trans (x.hidden p hp)
    · obtain ⟨sl, e⟩ := x.below p hp
      exact ⟨sl, (hs.2 _ (ne _ (by simp only [List.mem_append]; exact .inr (.inr (.inl (List.mem_map_of_mem hp)))))).trans e⟩
end
end Sk


namespace Sk
open PySem PySem.Calls PySem.W PyProof.Rows PySem.Spec

/-! ## the ledger of a state, for the library's rules -/
noncomputable def ledOf (hp : Heap) (adr : List Addr) : List (Addr × Obj) := adr.filterMap fun c => (hp.get? c).map fun o => (c, o)
theorem mem_ledOf {hp : Heap} {adr : List Addr} {c : Addr} {o : Obj} (hc : c ∈ adr) (e : hp.get? c = some o) : (c, o) ∈ ledOf hp adr :=
  List.mem_filterMap.mpr ⟨c, hc, by rw [e]; rfl⟩
theorem of_mem_ledOf {hp : Heap} {adr : List Addr} {p : Addr × Obj} (h : p ∈ ledOf hp adr) : p.1 ∈ adr ∧ hp.get? p.1 = some p.2 := by
  obtain ⟨c, hc, e⟩ := List.mem_filterMap.mp h
  obtain ⟨o, ho, rfl⟩ := Option.map_eq_some_iff.mp e
  exact ⟨hc, ho⟩

noncomputable def Fm.adr' (f : Fm) (hid : List (Addr × Obj)) (ρ : List Addr) : List Addr := ρ ++ (f.cells.map (·.2) ++ (hid.map (·.1) ++ f.fr0.map (·.1)))
theorem Fm.adr_eq (f : Fm) (hid : List (Addr × Obj)) (ρ : List Addr) : f.adr hid ρ = f.adr' hid ρ ++ [f.env.locals] := by simp [Fm.adr, Fm.adr', List.append_assoc]

section
variable {Γ : Cx} {f : Fm} {hid : List (Addr × Obj)} {ρ : List Addr} {l : LOC} {h : HP} {s : Shared} {M : Model} {E : Value → Shared → Prop}

theorem At.neL (x : At Γ f hid ρ l h s) {c : Addr} (hc : c ∈ f.adr' hid ρ) : c ≠ f.env.locals := by
  have hn := x.nodup
  rw [Fm.adr_eq, List.nodup_append] at hn
  exact hn.2.2 c hc _ (.head _)

/-- what the library asks of a state; and how one comes back -/
theorem At.led (x : At Γ f hid ρ l h s) : ∃ m, Fr Γ.base f.env.locals s.heap m ∧ News Γ.base f.env.locals s.heap (ledOf s.heap (f.adr' hid ρ)) ∧
    ∀ h' tk news, (∀ p ∈ ledOf s.heap (f.adr' hid ρ), p ∈ news) → Fr Γ.base f.env.locals h' m → News Γ.base f.env.locals h' news → At Γ f hid ρ l h { s with heap := h', toks := tk } := by
  obtain ⟨m, F, hl, hm⟩ := x.frm
  refine ⟨m, F, fun p hp => ?_, fun h' tk news hin F' N => ?_⟩
  · obtain ⟨h1, h2⟩ := of_mem_ledOf hp
    exact ⟨h2, x.neL h1, x.fresh _ (by rw [Fm.adr_eq]; exact List.mem_append_left _ h1)⟩
  · have k : ∀ c ∈ f.adr' hid ρ, ∀ o, s.heap.get? c = some o → h'.get? c = some o := fun c hc o e => (N _ (hin _ (mem_ledOf hc e))).1
    refine ⟨by rw [x.sh], ⟨m, F', hl, fun i y v a b => ?_⟩, fun p hp => ?_, x.len, fun i ao c a b => ?_, x.nodup, x.fresh, fun p hp => ?_, fun p hp => ?_⟩
    · obtain ⟨v', h1, h2⟩ := hm i y v a b
      refine ⟨v', h1, h2.imp id fun ⟨h3, c, h4, o, h5, h6⟩ => ⟨h3, c, h4, o, k c ?_ o h5, h6⟩⟩
      simp only [Fm.adr', List.mem_append, List.mem_map]
      exact .inr (.inl ⟨_, mem_of_lookup h4, rfl⟩)
    · obtain ⟨v, o, h5, h6⟩ := x.cel p hp
      refine ⟨v, o, k _ ?_ o h5, h6⟩
      simp only [Fm.adr', List.mem_append]
      exact .inr (.inl (List.mem_map_of_mem hp))
    · obtain ⟨o, h1, h2⟩ := x.obj i ao c a b
      exact ⟨o, k c (List.mem_append_left _ (List.mem_of_getElem? b)) o h1, h2⟩
    · refine k _ ?_ _ (x.hidden p hp)
      simp only [Fm.adr', List.mem_append]
      exact .inr (.inr (.inl (List.mem_map_of_mem hp)))
    · obtain ⟨sl, e⟩ := x.below p hp
      refine ⟨sl, k _ ?_ _ e⟩
      simp only [Fm.adr', List.mem_append]
      exact .inr (.inr (.inr (List.mem_map_of_mem hp)))

/-- a new object by the library's ledger -/
theorem At.allocN (x : At Γ f hid ρ l h s) {m : Str → Option Value} {h' : Heap} {tk : Nat} {c : Addr} {o : Obj} {ao : AO}
    (back : ∀ h' tk news, (∀ p ∈ ledOf s.heap (f.adr' hid ρ), p ∈ news) → Fr Γ.base f.env.locals h' m → News Γ.base f.env.locals h' news → At Γ f hid ρ l h { s with heap := h', toks := tk })
    (F' : Fr Γ.base f.env.locals h' m) (N' : News Γ.base f.env.locals h' ((c, o) :: ledOf s.heap (f.adr' hid ρ))) (hc : s.heap.objs.size ≤ c) (hr : ObjR Γ (ρ ++ [c]) ao o) :
    At Γ f hid (ρ ++ [c]) l (h ++ [ao]) { s with heap := h', toks := tk } := by
  have y := back h' tk _ (fun p hp => List.mem_cons_of_mem _ hp) F' N'
  have p : ρ <+: ρ ++ [c] := List.prefix_append _ _
  obtain ⟨m, F, hl, hm⟩ := y.frm
  have hnew : ∀ d ∈ f.adr hid ρ, d ≠ c := fun d hd e => absurd (Nat.lt_of_lt_of_le (x.all_lt d hd) hc) (e ▸ Nat.lt_irrefl _)
  have hb : Γ.base.get? c = none := (N' _ (.head _)).2.2
  have ho : h'.get? c = some o := (N' _ (.head _)).1
  refine ⟨y.sh, ⟨m, F, hl, fun i z v a b => ?_⟩, y.cel, by simp [x.len], fun i ao' d a b => ?_, ?_, ?_, y.hidden, y.below⟩
  · obtain ⟨v', h1, h2⟩ := hm i z v a b
    exact ⟨v', h1.mono p, h2⟩
  · by_cases hi : i < h.length
    · rw [List.getElem?_append_left hi] at a
      rw [List.getElem?_append_left (by rw [x.len]; exact hi)] at b
      obtain ⟨o', h1, h2⟩ := y.obj i ao' d a b
      exact ⟨o', h1, h2.mono p⟩
    · have hi' : i = h.length := by
        have := (List.getElem?_eq_some_iff.mp a).1
        simp at this; omega
      subst hi'
      have e1 : ao' = ao := by simpa using a.symm
      have e2 : d = c := by rw [← x.len] at b; simpa using b.symm
      subst e1; subst e2
      exact ⟨o, ho, hr⟩
  · unfold Fm.adr
    rw [List.append_assoc]
    have hn := x.nodup
    unfold Fm.adr at hn hnew
    rw [List.nodup_append] at hn ⊢
    refine ⟨hn.1, ?_, fun a ha b hb' => ?_⟩
    · rw [List.singleton_append, List.nodup_cons]
      exact ⟨fun hm => hnew _ (List.mem_append_right _ hm) rfl, hn.2.1⟩
    · rcases List.mem_append.mp hb' with e | e
      · rw [List.mem_singleton.mp e]; exact hnew a (List.mem_append_left _ ha)
      · exact hn.2.2 a ha b e
  · intro d hd
    unfold Fm.adr at hd
    rw [List.append_assoc, List.mem_append] at hd
    rcases hd with hd | hd
    · exact x.fresh d (List.mem_append_left _ hd)
    · rcases List.mem_append.mp hd with hd | hd
      · rw [List.mem_singleton.mp hd]; exact hb
      · exact x.fresh d (List.mem_append_right _ hd)
end

/-! ## what a result must bring -/
noncomputable def Post {α : Type} (r : R α) (ok : α → HP → Prop) (ex : Nat → HP → Prop) : Prop := match r with
  | .ok a h => ok a h
  | .exc c h => ex c h
  | .err => False
theorem Post_bind {α β : Type} {r : R α} {k : α → HP → R β} {ok : β → HP → Prop} {ex : Nat → HP → Prop} : Post (r.bind k) ok ex ↔ Post r (fun a h => Post (k a h) ok ex) ex := by cases r <;> exact Iff.rfl
theorem Post.mono {α : Type} {r : R α} {ok ok' : α → HP → Prop} {ex ex' : Nat → HP → Prop} (p : Post r ok ex) (h1 : ∀ a h, ok a h → ok' a h) (h2 : ∀ c h, ex c h → ex' c h) : Post r ok' ex' := by
  cases r with
  | ok a h => exact h1 a h p
  | exc c h => exact h2 c h p
  | err => exact p

/-- how a raise stands in a state: left to the exceptions' part -/
abbrev Rise := Fm → List (Addr × Obj) → List Addr → LOC → HP → Nat → Value → Shared → Prop

noncomputable def OKQ (Γ : Cx) (f : Fm) (hid : List (Addr × Obj)) (ρ : List Addr) (l : LOC) (Q : Value → Shared → Prop) : AV → HP → Prop :=
  fun v h' => ∀ v' ρ' s', ρ <+: ρ' → At Γ f hid ρ' l h' s' → VR ρ' v v' → Q v' s'
noncomputable def OKB (Γ : Cx) (f : Fm) (hid : List (Addr × Obj)) (ρ : List Addr) (l : LOC) (Q : Bool → Shared → Prop) : AV → HP → Prop :=
  fun v h' => ∃ b, truthy v = some b ∧ ∀ ρ' s', ρ <+: ρ' → At Γ f hid ρ' l h' s' → Q b s'
noncomputable def OKL (Γ : Cx) (f : Fm) (hid : List (Addr × Obj)) (ρ : List Addr) (l : LOC) (Q : List Value → Shared → Prop) : List AV → HP → Prop :=
  fun vs h' => ∀ vs' ρ' s', ρ <+: ρ' → At Γ f hid ρ' l h' s' → VRs ρ' vs vs' → Q vs' s'
noncomputable def EXQ (Rz : Rise) (f : Fm) (hid : List (Addr × Obj)) (ρ : List Addr) (l : LOC) (E : Value → Shared → Prop) : Nat → HP → Prop :=
  fun c h' => ∀ e ρ' s', ρ <+: ρ' → Rz f hid ρ' l h' c e s' → E e s'
theorem EXQ.ext {Rz : Rise} {f : Fm} {hid : List (Addr × Obj)} {ρ ρ' : List Addr} {l : LOC} {E : Value → Shared → Prop} {c : Nat} {h : HP} (p : ρ <+: ρ') (x : EXQ Rz f hid ρ l E c h) : EXQ Rz f hid ρ' l E c h :=
  fun e ρ'' s' q r => x e ρ'' s' (p.trans q) r
theorem OKQ.ext {Γ : Cx} {f : Fm} {hid : List (Addr × Obj)} {ρ ρ' : List Addr} {l : LOC} {Q : Value → Shared → Prop} {v : AV} {h : HP} (p : ρ <+: ρ') (x : OKQ Γ f hid ρ l Q v h) : OKQ Γ f hid ρ' l Q v h :=
  fun v' ρ'' s' q r t => x v' ρ'' s' (p.trans q) r t

/-! ## the operators -/
noncomputable def pyOp : Op → Operator
  | .add => .Add | .sub => .Sub | .mul => .Mult | .fdiv => .FloorDiv | .mod => .Mod
noncomputable def pyCmp : COp → CmpOp
  | .eq => .Eq | .ne => .NotEq | .lt => .Lt | .le => .LtE | .gt => .Gt | .ge => .GtE

theorem VR.int_of {ρ : List Addr} {i : Int} {v : Value} (h : VR ρ (.int i) v) : ∃ t, v = .int i t := h
theorem isList_of {Γ : Cx} {ρ : List Addr} {vs : List AV} {o : Obj} {hp : Heap} {c : Addr} (e : hp.get? c = some o) (r : ObjR Γ ρ (.list vs) o) : ∃ vs', hp.IsList c vs'.toArray ∧ VRs ρ vs vs' := by
  obtain ⟨vs', n, rfl, h, _⟩ := r
  exact ⟨vs', ⟨_, e, rfl, n, rfl⟩, h⟩
theorem isTup_of {Γ : Cx} {ρ : List Addr} {vs : List AV} {o : Obj} {hp : Heap} {c : Addr} (e : hp.get? c = some o) (r : ObjR Γ ρ (.tup vs) o) : ∃ vs', hp.IsTuple c vs'.toArray ∧ IsTup hp c vs'.toArray ∧ VRs ρ vs vs' := by
  obtain ⟨vs', n, rfl, h, _⟩ := r
  exact ⟨vs', ⟨_, e, rfl, n, rfl⟩, ⟨_, e, rfl, n, rfl⟩, h⟩

section
variable {Γ : Cx} {f : Fm} {hid : List (Addr × Obj)} {ρ : List Addr} {l : LOC} {h : HP} {s : Shared} {E : Value → Shared → Prop} {Q : Value → Shared → Prop} {ex : Nat → HP → Prop}

theorem natAbs_bits {a : Int} (h : a.natAbs < 2 ^ 64) : Builtin.Int.intBits a ≤ 64 := by
  unfold Builtin.Int.intBits
  split
  · exact Nat.zero_le _
  · rename_i q
    have h0 : a.natAbs ≠ 0 := by simpa using q
    exact (Nat.log2_lt h0).mpr h
theorem noPylong_div {a b : Int} (h : b.natAbs < 2 ^ 200) : Builtin.divisionGoesByPylong a b = false := by
  refine PyProof.noPylong_of_log2 ?_
  by_cases h0 : b.natAbs = 0
  · rw [h0]; decide +kernel
  · have := (Nat.log2_lt h0).mpr h
    omega
theorem szOk_le {n : Nat} (h : szOk n = true) : n ≤ sizeLine := by
  have : n ≤ 100000 := of_decide_eq_true h
  exact Nat.le_trans this (by decide)

theorem sim_bin {op : Op} {x y : AV} {x' y' : Value} (t : At Γ f hid ρ l h s) (vx : VR ρ x x') (vy : VR ρ y y')
    (p : Post (binop op x y h) (OKQ Γ f hid ρ l Q) ex) : wpAny (model Γ.prog Γ.w) f.A (binaryOp (pyOp op) x' y') Q E s := by
  cases x with
  | int a =>
    cases y with
    | int b =>
      obtain ⟨t1, rfl⟩ := vx
      obtain ⟨t2, rfl⟩ := vy
      cases op with
      | add => exact add_int (p _ _ _ (List.prefix_refl _) (t.toks _) ⟨_, rfl⟩)
      | sub => exact sub_int' (p _ _ _ (List.prefix_refl _) (t.toks _) ⟨_, rfl⟩)
      | mul =>
        simp only [binop] at p
        split at p
        · rename_i hm
          refine PyProof.Rows.mul_int (p _ _ _ (List.prefix_refl _) (t.toks _) ⟨_, rfl⟩) ?_
          simp only [mulOk, decide_eq_true_eq] at hm
          exact hm.elim (fun h => .of_left (natAbs_bits h)) fun h => .of_right (natAbs_bits h)
        · exact p.elim
      | fdiv =>
        simp only [binop] at p
        split at p
        · rename_i hm
          have hm := of_decide_eq_true hm
          exact floordiv_int hm.1 (p _ _ _ (List.prefix_refl _) (t.toks _) ⟨_, rfl⟩) (.inl (noPylong_div hm.2))
        · exact p.elim
      | mod =>
        simp only [binop] at p
        split at p
        · rename_i hm
          have hm := of_decide_eq_true hm
          exact mod_int' hm.1 (p _ _ _ (List.prefix_refl _) (t.toks _) ⟨_, rfl⟩)
        · exact p.elim
    | _ => exact p.elim
  | ref i =>
    cases y with
    | ref j =>
      cases op with
      | add =>
        simp only [binop, addL] at p
        split at p
        · rename_i xs ys e1 e2
          split at p
          · rename_i hz
            obtain ⟨c, hc, rfl⟩ := vx
            obtain ⟨d, hd, rfl⟩ := vy
            obtain ⟨o1, g1, r1⟩ := t.obj i _ c e1 hc
            obtain ⟨o2, g2, r2⟩ := t.obj j _ d e2 hd
            obtain ⟨vs1, l1, v1⟩ := isList_of g1 r1
            obtain ⟨vs2, l2, v2⟩ := isList_of g2 r2
            obtain ⟨m, F, N, back⟩ := t.led
            refine add_arrays F N l1 l2 (fun h' F' N' => ?_) (by have := szOk_le hz; simpa [v1.length, v2.length] using this)
            have pre : ρ <+: ρ ++ [s.heap.objs.size] := List.prefix_append _ _
            refine p _ _ _ pre (t.allocN back F' N' (Nat.le_refl _) ⟨_, 0, rfl, (v1.append v2).mono pre, ?_⟩) ⟨_, by rw [← t.len]; simp, rfl⟩
            have := of_decide_eq_true hz
            simp; omega
          · exact p.elim
        · exact p.elim
      | _ => exact p.elim
    | _ => exact p.elim
  | _ => cases y <;> exact p.elim

/-! ### comparisons -/
noncomputable def eAt (n : Nat) (h : HP) (xs ys : List AV) (j : Nat) : Bool := match xs[j]?, ys[j]? with
  | some x, some y => (eqv n h x y).getD false
  | _, _ => false
theorem allEq_at {n : Nat} {h : HP} : ∀ {xs ys : List AV} {b : Bool}, xs.length = ys.length → allEq (List.zipWith (eqv n h) xs ys) = some b →
    b = (List.range xs.length).all (eAt n h xs ys) ∧ ∀ (j : Nat) x y, xs[j]? = some x → ys[j]? = some y → eqv n h x y = some (eAt n h xs ys j)
  | [], [], b, _, e => by
    simp only [List.zipWith_nil_left, allEq, Option.some.injEq] at e
    subst e
    exact ⟨rfl, fun j x y h1 => by simp at h1⟩
  | x :: xs, y :: ys, b, hl, e => by
    simp only [List.zipWith_cons_cons] at e
    cases q : eqv n h x y with
    | none => rw [q] at e; simp [allEq] at e
    | some c =>
      rw [q] at e
      simp only [allEq, Option.map_eq_some_iff] at e
      obtain ⟨d, e1, rfl⟩ := e
      obtain ⟨h1, h2⟩ := allEq_at (by simpa using hl) e1
      have e0 : eAt n h (x :: xs) (y :: ys) 0 = c := by simp [eAt, q]
      have es : ∀ j, eAt n h (x :: xs) (y :: ys) (j + 1) = eAt n h xs ys j := fun j => by simp [eAt]
      refine ⟨?_, fun j => ?_⟩
      · rw [List.length_cons, List.range_succ_eq_map, List.all_cons, List.all_map, e0, h1]
        congr 1
      · cases j with
        | zero =>
          intro x' y' a1 a2
          simp at a1 a2
          subst a1; subst a2
          rw [e0, q]
        | succ j =>
          intro x' y' a1 a2
          rw [es j]
          exact h2 j x' y' (by simpa using a1) (by simpa using a2)
theorem eqv_refl {h : HP} : ∀ {n : Nat} {a : AV} {b : Bool}, eqv n h a a = some b → b = true
  | 0, _, _, e => by simp [eqv] at e
  | n + 1, a, b, e => by
    have all : ∀ {xs : List AV} {b : Bool}, allEq (List.zipWith (eqv n h) xs xs) = some b → b = true := by
      intro xs
      induction xs with
      | nil => intro b e; simp [allEq] at e; first | exact e.symm | exact e
      | cons x xs ih =>
        intro b e
        simp only [List.zipWith_cons_cons] at e
        cases q : eqv n h x x with
        | none => rw [q] at e; simp [allEq] at e
        | some c =>
          rw [q] at e
          simp only [allEq, Option.map_eq_some_iff] at e
          obtain ⟨d, e1, rfl⟩ := e
          rw [eqv_refl q, ih e1]; rfl
    cases a with
    | none => simp [eqv] at e; first | exact e.symm | exact e
    | bool _ => simp [eqv] at e; first | exact e.symm | exact e
    | int _ => simp [eqv] at e; first | exact e.symm | exact e
    | str _ => simp [eqv] at e
    | ref i =>
      simp only [eqv] at e
      split at e
      · rename_i xs ys e1 e2
        have : xs = ys := by rw [e1] at e2; cases e2; rfl
        subst this
        rw [if_pos rfl] at e
        exact all e
      · rename_i xs ys e1 e2
        have : xs = ys := by rw [e1] at e2; cases e2; rfl
        subst this
        rw [if_pos rfl] at e
        exact all e
      · cases e

theorem dec_beq {α : Type} [DecidableEq α] (a b : α) : decide (a = b) = (a == b) := by
  by_cases h : a = b <;> simp [h]
theorem sim_eqAt {x y : AV} {x' y' : Value} {b : Bool} (t : At Γ f hid ρ l h s) : ∀ (n : Nat) (A : Around) {x y : AV} {x' y' : Value} {b : Bool}, A.units + n < cLine → VR ρ x x' → VR ρ y y' → eqv n h x y = some b →
    SeqAt.RcAt A s x' y' b ∧ SeqAt.RcNeAt A s x' y' (!b) ∧ SeqAt.EqAt A s x' y' b
  | 0, _, _, _, _, _, _, _, _, _, e => by simp [eqv] at e
  | n + 1, A, x, y, x', y', b, hu, vx, vy, e => by
    cases x with
    | none =>
      cases vx
      cases y with
      | none => cases vy; simp [eqv] at e; subst e; exact ⟨.none_none, .none_none, .same _⟩
      | int j => obtain ⟨u, rfl⟩ := vy; simp [eqv] at e; subst e; exact ⟨.none_int _ _, .none_int _ _, .none_int _ _⟩
      | _ => simp [eqv] at e
    | bool c =>
      cases vx
      cases y with
      | bool d => cases vy; simp only [eqv, Option.some.injEq] at e; subst e; rw [dec_beq]; exact ⟨.bool_bool _ _, .bool_bool _ _, .bool_bool _ _⟩
      | _ => simp [eqv] at e
    | int i =>
      obtain ⟨u, rfl⟩ := vx
      cases y with
      | none => cases vy; simp [eqv] at e; subst e; exact ⟨.int_none _ _, .int_none _ _, .int_none _ _⟩
      | int j => obtain ⟨u', rfl⟩ := vy; simp only [eqv, Option.some.injEq] at e; subst e; rw [dec_beq]; exact ⟨.int_int _ _ _ _, .int_int _ _ _ _, .int_int _ _ _ _⟩
      | _ => simp [eqv] at e
    | str _ => cases y <;> simp [eqv] at e
    | ref i =>
      cases y with
      | ref j =>
        have e0 := e
        simp only [eqv] at e
        obtain ⟨c, hc, rfl⟩ := vx
        obtain ⟨d, hd, rfl⟩ := vy
        have fin : SeqAt.RcAt A s (.ref c) (.ref d) b → SeqAt.EqAt A s (.ref c) (.ref d) b := fun rc => by
          by_cases q : c = d
          · subst q
            have hij : i = j := by
              by_cases hij : i = j
              · exact hij
              · exact absurd rfl (t.apart hc hd hij)
            subst hij
            rw [eqv_refl e0]
            exact .same _
          · exact .of_refs q rc
        have hu1 : A.units < cLine := by omega
        split at e
        · rename_i xs ys e1 e2
          obtain ⟨o1, g1, r1⟩ := t.obj i _ c e1 hc
          obtain ⟨o2, g2, r2⟩ := t.obj j _ d e2 hd
          obtain ⟨vs1, l1, v1⟩ := isList_of g1 r1
          obtain ⟨vs2, l2, v2⟩ := isList_of g2 r2
          split at e
          · rename_i hl
            obtain ⟨h1, h2⟩ := allEq_at hl e
            have he : ∀ k (a1 : k < vs1.toArray.size) (a2 : k < vs2.toArray.size), SeqAt.EqAt A.in1 s vs1.toArray[k] vs2.toArray[k] (eAt n h xs ys k) := by
              intro k a1 a2
              simp only [List.size_toArray] at a1 a2
              have b1 : k < xs.length := by rw [← v1.length]; exact a1
              have b2 : k < ys.length := by rw [← v2.length]; exact a2
              obtain ⟨w1, g1, w1'⟩ := v1.get (List.getElem?_eq_getElem b1)
              obtain ⟨w2, g2, w2'⟩ := v2.get (List.getElem?_eq_getElem b2)
              have := sim_eqAt (x := x) (y := y) (x' := x') (y' := y') (b := b) t n A.in1 (by simp; omega) w1' w2' (h2 k _ _ (List.getElem?_eq_getElem b1) (List.getElem?_eq_getElem b2))
              have q1 : vs1[k] = w1 := by rw [List.getElem?_eq_getElem a1] at g1; exact Option.some.inj g1
              have q2 : vs2[k] = w2 := by rw [List.getElem?_eq_getElem a2] at g2; exact Option.some.inj g2
              simp only [List.getElem_toArray, q1, q2]
              exact this.2.2
            have hs : vs1.toArray.size = vs2.toArray.size := by simp [v1.length, v2.length, hl]
            have q : b = (List.range vs1.toArray.size).all (eAt n h xs ys) := by rw [h1]; simp [v1.length]
            rw [q]
            rw [q] at fin
            exact ⟨.lists l1 l2 hs hu1 he, .lists l1 l2 hs hu1 he, fin (.lists l1 l2 hs hu1 he)⟩
          · rename_i hl
            cases e
            have hs : (vs1.toArray.size != vs2.toArray.size) = true := by simp [v1.length, v2.length, hl]
            exact ⟨.lists_lengths l1 l2 hs hu1, .lists_lengths l1 l2 hs hu1, fin (.lists_lengths l1 l2 hs hu1)⟩
        · rename_i xs ys e1 e2
          obtain ⟨o1, g1, r1⟩ := t.obj i _ c e1 hc
          obtain ⟨o2, g2, r2⟩ := t.obj j _ d e2 hd
          obtain ⟨vs1, l1, _, v1⟩ := isTup_of g1 r1
          obtain ⟨vs2, l2, _, v2⟩ := isTup_of g2 r2
          split at e
          · rename_i hl
            obtain ⟨h1, h2⟩ := allEq_at hl e
            have he : ∀ k (a1 : k < vs1.toArray.size) (a2 : k < vs2.toArray.size), SeqAt.EqAt A.in1 s vs1.toArray[k] vs2.toArray[k] (eAt n h xs ys k) := by
              intro k a1 a2
              simp only [List.size_toArray] at a1 a2
              have b1 : k < xs.length := by rw [← v1.length]; exact a1
              have b2 : k < ys.length := by rw [← v2.length]; exact a2
              obtain ⟨w1, g1, w1'⟩ := v1.get (List.getElem?_eq_getElem b1)
              obtain ⟨w2, g2, w2'⟩ := v2.get (List.getElem?_eq_getElem b2)
              have := sim_eqAt (x := x) (y := y) (x' := x') (y' := y') (b := b) t n A.in1 (by simp; omega) w1' w2' (h2 k _ _ (List.getElem?_eq_getElem b1) (List.getElem?_eq_getElem b2))
              have q1 : vs1[k] = w1 := by rw [List.getElem?_eq_getElem a1] at g1; exact Option.some.inj g1
              have q2 : vs2[k] = w2 := by rw [List.getElem?_eq_getElem a2] at g2; exact Option.some.inj g2
              simp only [List.getElem_toArray, q1, q2]
              exact this.2.2
            have q : b = ((List.range (min vs1.toArray.size vs2.toArray.size)).all (eAt n h xs ys) && vs1.toArray.size == vs2.toArray.size) := by rw [h1]; simp [v1.length, v2.length, hl]
            rw [q]
            rw [q] at fin
            exact ⟨.tuples l1 l2 hu1 he, .tuples l1 l2 hu1 he, fin (.tuples l1 l2 hu1 he)⟩
          · cases e
        · cases e
      | _ => simp [eqv] at e
end
end Sk


namespace Sk
open PySem PySem.Calls PySem.W PyProof.Rows PySem.Spec

structure CxOk (Γ : Cx) : Prop where
  X : Γ.K.In Γ.base
  g : Γ.base.Ns mainGlobals Γ.mg
  b : Γ.base.Ns builtinsNs Γ.mb
  nolimit : Γ.base.NoLimit
  bts : ∀ x : Str, x ≠ ("__name__" : Str) → Γ.mb x = bootBuiltins x
  attrInj : ∀ i j x, Γ.tx.attr i = some x → Γ.tx.attr j = some x → i = j
  inst : ∀ C, Γ.tx.clsAddr 0 = some C → hasDictIn Γ.K C = true ∧ findIn Γ.K (.ref C) "__getattribute__" = some (some (.builtin "object.__getattribute__")) ∧ findIn Γ.K (.ref C) "__getattr__" = some none ∧
    findIn Γ.K (.ref C) "__setattr__" = some (some (.builtin "object.__setattr__")) ∧ plainOver Γ.K C = true ∧ ∀ n x, Γ.tx.attr n = some x → findIn Γ.K (.ref C) x = some none ∧ takerIn Γ.K C x = some none

/-- the built-in names that the mini-language knows -/
noncomputable def bltNames : List Str := ["len", "list", "sorted", "int", "min", "max", "all", "range", "reversed", "enumerate", "isinstance", "bool", "tuple", "ValueError"]

structure CxFn (Γ : Cx) : Prop where
  fnG : ∀ i x, Γ.tx.fnName i = some x → ∃ a, Γ.tx.fnAddr i = some a ∧ Γ.mg x = some (.ref a) ∧ keepIn Γ.K (.ref a) = true
  clsG : ∀ c x, Γ.tx.clsName c = some x → ∃ C, Γ.tx.clsAddr c = some C ∧ Γ.mg x = some (.ref C)
  blt : ∀ x ∈ bltNames, Γ.mg x = Option.none
  mthG : ∀ c m fi, Γ.G.meth c m = some fi → c = 0 ∧ ∃ C x a, Γ.tx.clsAddr 0 = some C ∧ Γ.tx.mth m = some x ∧ Γ.tx.fnAddr fi = some a ∧ findIn Γ.K (.ref C) x = some (some (.ref a)) ∧ isFn Γ.K (.ref a) = true ∧ keepIn Γ.K (.ref a) = true ∧ ∀ n, Γ.tx.attr n ≠ some x
  initG : ∀ c fi, Γ.G.init c = some fi → c = 0 ∧ ∃ C a, Γ.tx.clsAddr 0 = some C ∧ Γ.tx.fnAddr fi = some a ∧ makesIn Γ.K C = true ∧ findIn Γ.K (.ref C) "__init__" = some (some (.ref a)) ∧ isFn Γ.K (.ref a) = true ∧ keepIn Γ.K (.ref C) = true
  sysm : ∃ o, Γ.base.get? sysModules = some o

theorem FieldsR.refKey {tx : Tx} {P : Params} {ρ : List Addr} {fs : List (Nat × AV)} {es : List DictEntry} (h : FieldsR tx P ρ fs es) : es.any (·.refKey) = false := by
  induction fs generalizing es with
  | nil => cases es with
    | nil => rfl
    | cons _ _ => exact h.elim
  | cons q fs ih => cases es with
    | nil => exact h.elim
    | cons e es =>
      obtain ⟨⟨x, t, _, b, _, _⟩, r⟩ := h
      rw [List.any_cons, ih r]
      simp [DictEntry.refKey, b]
theorem FieldsR.length {tx : Tx} {P : Params} {ρ : List Addr} {fs : List (Nat × AV)} {es : List DictEntry} (h : FieldsR tx P ρ fs es) : es.length = fs.length := by
  induction fs generalizing es with
  | nil => cases es with
    | nil => rfl
    | cons _ _ => exact h.elim
  | cons q fs ih => cases es with
    | nil => exact h.elim
    | cons e es => obtain ⟨_, r⟩ := h; rw [List.length_cons, List.length_cons, ih r]
theorem FieldsR.get {tx : Tx} {P : Params} {ρ : List Addr} (inj : ∀ i j x, tx.attr i = some x → tx.attr j = some x → i = j) {n : Nat} {x : Str} (hx : tx.attr n = some x)
    {fs : List (Nat × AV)} {es : List DictEntry} {v : AV} (h : FieldsR tx P ρ fs es) (e : fs.lookup n = some v) : ∃ v', getL x es = some (some v') ∧ VR ρ v v' := by
  induction fs generalizing es with
  | nil => cases e
  | cons q fs ih => cases es with
    | nil => exact h.elim
    | cons en es =>
      obtain ⟨k, w⟩ := q
      obtain ⟨⟨y, t, a, b, c, d⟩, r⟩ := h
      rw [List.lookup_cons] at e
      by_cases q : (n == k) = true
      · rw [q] at e
        cases e
        have : k = n := (eq_of_beq q).symm
        subst this
        have : y = x := Option.some.inj (a.symm.trans hx)
        subst this
        refine ⟨en.val, ?_, d⟩
        unfold getL
        simp [List.find?_cons, b, Value.isStr]
      · rw [Bool.eq_false_iff.mpr q] at e
        obtain ⟨v', h1, h2⟩ := ih r e
        refine ⟨v', ?_, h2⟩
        have ne : y ≠ x := fun z => q (by rw [inj k n y a (z ▸ hx)]; simp)
        have : en.key.isStr x = false := by rw [b]; simp [Value.isStr, ne]
        unfold getL at h1 ⊢
        rw [List.find?_cons, this]
        split at h1
        · rename_i e1; rw [e1]; exact h1
        · rename_i e1; split at h1 <;> cases h1
theorem FieldsR.none {tx : Tx} {P : Params} {ρ : List Addr} {x : Str} (hx : ∀ n, tx.attr n ≠ some x) : ∀ {fs : List (Nat × AV)} {es : List DictEntry}, FieldsR tx P ρ fs es → getL x es = some Option.none := by
  intro fs es h
  have hf : es.find? (·.key.isStr x) = Option.none := by
    induction es generalizing fs with
    | nil => rfl
    | cons e es ih =>
      cases fs with
      | nil => exact h.elim
      | cons p fs =>
        obtain ⟨⟨y, t, a, b, c, d⟩, r⟩ := h
        have ne : y ≠ x := fun z => hx p.1 (z ▸ a)
        rw [List.find?_cons, show e.key.isStr x = false by rw [b]; simp [Value.isStr, ne]]
        exact ih r
  unfold getL
  rw [hf]
  simp only [h.refKey]
  rfl
theorem FieldsR.getSome {tx : Tx} {P : Params} {ρ : List Addr} {x : Str} {fs : List (Nat × AV)} {es : List DictEntry} (h : FieldsR tx P ρ fs es) : (getL x es).isSome = true := by
  unfold getL
  split
  · rfl
  · simp [h.refKey]
theorem FieldsR.put {tx : Tx} {P : Params} {ρ : List Addr} (inj : ∀ i j x, tx.attr i = some x → tx.attr j = some x → i = j) {n : Nat} {x : Str} {t : Tok} (hx : tx.attr n = some x) {v : AV} {v' : Value} (hv : VR ρ v v')
    {fs : List (Nat × AV)} {es : List DictEntry} (h : FieldsR tx P ρ fs es) : FieldsR tx P ρ (putF n v fs) (putL x (PyData.keyHash P x) (.str x t) v' es) := by
  induction fs generalizing es with
  | nil => cases es with
    | nil => exact ⟨⟨x, t, hx, rfl, rfl, hv⟩, trivial⟩
    | cons _ _ => exact h.elim
  | cons q fs ih => cases es with
    | nil => exact h.elim
    | cons en es =>
      obtain ⟨k, w⟩ := q
      obtain ⟨⟨y, u, a, b, c, d⟩, r⟩ := h
      unfold putF putL
      by_cases q : k = n
      · subst q
        have : y = x := Option.some.inj (a.symm.trans hx)
        subst this
        rw [if_pos rfl, if_pos (by rw [b]; simp [Value.isStr])]
        exact ⟨⟨y, u, a, b, c, hv⟩, r⟩
      · rw [if_neg q, if_neg (by rw [b]; simp [Value.isStr]; exact fun z => q (inj k n y a (z ▸ hx)))]
        exact ⟨⟨y, u, a, b, c, d⟩, ih r⟩
theorem putF_length (n : Nat) (v : AV) : ∀ fs : List (Nat × AV), (putF n v fs).length ≤ fs.length + 1
  | [] => by simp [putF]
  | p :: r => by
    unfold putF
    split
    · simp
    · simp; exact putF_length n v r

section
variable {Γ : Cx} {f : Fm} {hid : List (Addr × Obj)} {ρ : List Addr} {l : LOC} {h : HP} {s : Shared} {E : Value → Shared → Prop} {Q : Value → Shared → Prop} {ex : Nat → HP → Prop}

theorem sim_cmp {op : COp} {x y : AV} {x' y' : Value} (t : At Γ f hid ρ l h s) (hu : f.A.units + 6 < cLine) (vx : VR ρ x x') (vy : VR ρ y y')
    (p : Post (cmpop op x y h) (OKQ Γ f hid ρ l Q) ex) : wpAny (model Γ.prog Γ.w) f.A (compareOp (pyCmp op) x' y') Q E s := by
  cases op with
  | eq =>
    simp only [cmpop] at p
    split at p
    · rename_i r e
      exact EqBoolInt.of_rc (sim_eqAt (x := x) (y := y) (x' := x') (y' := y') (b := r) t 6 f.A hu vx vy e).1 (p _ _ _ (List.prefix_refl _) t rfl)
    · exact p.elim
  | ne =>
    simp only [cmpop] at p
    split at p
    · rename_i r e
      exact EqBoolInt.of_rcne (sim_eqAt (x := x) (y := y) (x' := x') (y' := y') (b := r) t 6 f.A hu vx vy e).2.1 (p _ _ _ (List.prefix_refl _) t rfl)
    · exact p.elim
  | lt =>
    cases x <;> cases y <;> try exact p.elim
    obtain ⟨_, rfl⟩ := vx; obtain ⟨_, rfl⟩ := vy
    exact lt_int (p _ _ _ (List.prefix_refl _) t rfl)
  | le =>
    cases x <;> cases y <;> try exact p.elim
    obtain ⟨_, rfl⟩ := vx; obtain ⟨_, rfl⟩ := vy
    exact le_int (p _ _ _ (List.prefix_refl _) t rfl)
  | gt =>
    cases x <;> cases y <;> try exact p.elim
    obtain ⟨_, rfl⟩ := vx; obtain ⟨_, rfl⟩ := vy
    exact gt_int (p _ _ _ (List.prefix_refl _) t rfl)
  | ge =>
    cases x <;> cases y <;> try exact p.elim
    obtain ⟨_, rfl⟩ := vx; obtain ⟨_, rfl⟩ := vy
    exact ge_int (p _ _ _ (List.prefix_refl _) t rfl)

theorem sim_is {neg : Bool} {x : AV} {x' : Value} {c : Option Bool} (t : At Γ f hid ρ l h s) (vx : VR ρ x x')
    (p : Post (isop neg x c h) (OKQ Γ f hid ρ l Q) ex) : wpAny (model Γ.prog Γ.w) f.A (compareOp (if neg then .IsNot else .Is) x' (match c with | Option.none => .none | some b => .bool b)) Q E s := by
  have go : ∀ {v : Value} {b : Bool}, plainIs x' v = true → (x' == v) = b → Q (.bool (neg ^^ b)) s → wpAny (model Γ.prog Γ.w) f.A (compareOp (if neg then .IsNot else .Is) x' v) Q E s := by
    intro v b h1 h2 h3
    cases neg
    · exact wpAny_is_plain h1 (by rw [h2]; simpa using h3)
    · exact wpAny_isNot_plain h1 (by rw [h2]; simpa using h3)
  cases c with
  | none =>
    cases x with
    | none => cases vx; exact go rfl rfl (p _ _ _ (List.prefix_refl _) t rfl)
    | bool b => cases vx; exact go rfl rfl (p _ _ _ (List.prefix_refl _) t rfl)
    | int i => obtain ⟨_, rfl⟩ := vx; exact go rfl rfl (p _ _ _ (List.prefix_refl _) t rfl)
    | str _ => exact p.elim
    | ref a => obtain ⟨c, _, rfl⟩ := vx; exact go rfl rfl (p _ _ _ (List.prefix_refl _) t rfl)
  | some d =>
    cases x with
    | bool b => cases vx; exact go rfl (b := decide (b = d)) (by cases b <;> cases d <;> rfl) (p _ _ _ (List.prefix_refl _) t rfl)
    | _ => exact p.elim

theorem any_ints_mem {vs : List Value} {ns : List Int} (h : IntsAre vs ns) (k : Int) : (vs.toArray.any fun y => match y with | .int i _ => i == k | _ => false) = decide (k ∈ ns) := by
  rw [List.any_toArray]
  induction h with
  | nil => simp
  | cons n t _ ih =>
    rw [List.any_cons, ih]
    by_cases q : n = k
    · subst q; simp
    · have : ¬ k = n := fun e => q e.symm
      simp [q, this]
theorem ints_mem {vs : List Value} {ns : List Int} (h : IntsAre vs ns) : ∀ y ∈ vs, ∃ a t, y = Value.int a t := by
  induction h with
  | nil => intro y hy; cases hy
  | cons n t _ ih =>
    intro y hy
    rcases List.mem_cons.mp hy with rfl | hy
    · exact ⟨_, _, rfl⟩
    · exact ih y hy

theorem valueAt_isSome (ks : List Int) (k : Int) : (valueAt (ks.map fun k => (k, Value.bool true)) k).isSome = decide (k ∈ ks) := by
  unfold valueAt
  rw [Option.isSome_map]
  induction ks with
  | nil => simp
  | cons a r ih =>
    rw [List.map_cons, List.find?_cons]
    by_cases q : a = k
    · subst q; simp
    · have : ¬ k = a := fun e => q e.symm
      simp only [q, decide_false, ih]
      simp [this]

theorem notSysM (t : At Γ f hid ρ l h s) (ok : CxOk Γ) (hsm : ∃ o, Γ.base.get? sysModules = some o) {i : Nat} {c : Addr} (hc : ρ[i]? = some c) : (c == sysModules) = false := by
  have := t.fresh c (t.mem hc)
  obtain ⟨o, ho⟩ := hsm
  cases q : c == sysModules with
  | false => rfl
  | true => rw [eq_of_beq q, ho] at this; cases this

theorem sim_in {neg : Bool} {x y : AV} {x' y' : Value} (t : At Γ f hid ρ l h s) (ok : CxOk Γ) (hsm : ∃ o, Γ.base.get? sysModules = some o) (vx : VR ρ x x') (vy : VR ρ y y')
    (p : Post (isinop neg x y h) (OKQ Γ f hid ρ l Q) ex) : wpAny (model Γ.prog Γ.w) f.A (compareOp (if neg then .NotIn else .In) x' y') Q E s := by
  cases x with
  | int i =>
    cases y with
    | ref j =>
      obtain ⟨u, rfl⟩ := vx
      obtain ⟨d, hd, rfl⟩ := vy
      simp only [isinop] at p
      split at p
      · rename_i vs e
        split at p
        · rename_i ns e1
          obtain ⟨o, g, r⟩ := t.obj j _ d e hd
          obtain ⟨vs', l1, v1⟩ := isList_of g r
          have hI := v1.ints e1
          have he : ∀ y, y ∈ vs'.toArray → MeetsSeq.EqGives y (.int i u) (match y with | .int k _ => k == i | _ => false) := fun y hy => by
            obtain ⟨a, w, rfl⟩ := ints_mem hI y (by simpa using hy)
            exact MeetsSeq.EqGives.int a i w u
          cases neg
          · exact SeqInW.in_listW _ he l1 (by rw [any_ints_mem hI]; simpa using p _ _ _ (List.prefix_refl _) t rfl)
          · exact SeqInW.notIn_listW _ he l1 (by rw [any_ints_mem hI]; simpa using p _ _ _ (List.prefix_refl _) t rfl)
        · exact p.elim
      · rename_i ks e
        obtain ⟨o, g, r, _⟩ := t.obj j _ d e hd
        have hm := (Heap.dictOf_iff.mpr ⟨o, g, r⟩).mapOf
        cases neg
        · exact wpAny_in_of (intKind_is _ _ i u) (notSysM t ok hsm hd) hm (by rw [valueAt_isSome]; simpa using p _ _ _ (List.prefix_refl _) (t.toks _) rfl)
        · exact wpAny_notIn_of (intKind_is _ _ i u) (notSysM t ok hsm hd) hm (by rw [valueAt_isSome]; simpa using p _ _ _ (List.prefix_refl _) (t.toks _) rfl)
      · exact p.elim
    | _ => exact p.elim
  | _ => exact p.elim
end
end Sk


namespace Sk
open PySem PySem.Calls PySem.W PyProof.Rows PySem.Spec

theorem ledOf_nodup {hp : Heap} {adr : List Addr} (h : adr.Nodup) : ((ledOf hp adr).map (·.1)).Nodup := by
  unfold ledOf
  rw [List.map_filterMap]
  refine List.Pairwise.filterMap _ (fun a a' hne b hb b' hb' => ?_) h
  obtain ⟨p, e1, e2⟩ := Option.map_eq_some_iff.mp hb
  obtain ⟨q, e3, e4⟩ := Option.map_eq_some_iff.mp hb'
  obtain ⟨o, _, rfl⟩ := Option.map_eq_some_iff.mp e1
  obtain ⟨o', _, rfl⟩ := Option.map_eq_some_iff.mp e3
  simp only at e2 e4
  subst e2; subst e4
  exact hne
theorem upd_of {d : Addr} {o : Obj} (o' : Obj) : ∀ {l : List (Addr × Obj)}, (l.map (·.1)).Nodup → (d, o) ∈ l → ∃ l', Upd d o o' l l' ∧ (d, o') ∈ l' ∧ ∀ p ∈ l, p.1 ≠ d → p ∈ l'
  | [], _, h => by cases h
  | p :: r, hn, h => by
    rw [List.map_cons, List.nodup_cons] at hn
    by_cases q : p.1 = d
    · have hp : p = (d, o) := by
        rcases List.mem_cons.mp h with e | e
        · exact e.symm
        · exact absurd (List.mem_map.mpr ⟨_, e, rfl⟩) (q ▸ hn.1)
      subst hp
      exact ⟨(d, o') :: r, .head fun z hz e => hn.1 (List.mem_map.mpr ⟨z, hz, e⟩), .head _, fun z hz hne => by
        rcases List.mem_cons.mp hz with rfl | hz
        · exact absurd rfl hne
        · exact .tail _ hz⟩
    · have hr : (d, o) ∈ r := by
        rcases List.mem_cons.mp h with e | e
        · exact absurd (congrArg Prod.fst e).symm q
        · exact e
      obtain ⟨l', h1, h2, h3⟩ := upd_of o' hn.2 hr
      exact ⟨p :: l', .tail q h1, .tail _ h2, fun z hz hne => by
        rcases List.mem_cons.mp hz with rfl | hz
        · exact .head _
        · exact .tail _ (h3 z hz hne)⟩

section
variable {Γ : Cx} {f : Fm} {hid : List (Addr × Obj)} {ρ : List Addr} {l : LOC} {h : HP} {s : Shared} {E : Value → Shared → Prop} {Q : Value → Shared → Prop} {ex : Nat → HP → Prop}

theorem At.adrNd (x : At Γ f hid ρ l h s) : (f.adr' hid ρ).Nodup := by
  have hn := x.nodup
  rw [Fm.adr_eq, List.nodup_append] at hn
  exact hn.1
theorem At.inAdr (x : At Γ f hid ρ l h s) {i : Nat} {c : Addr} (e : ρ[i]? = some c) : c ∈ f.adr' hid ρ := List.mem_append_left _ (List.mem_of_getElem? e)

theorem At.ledPut (x : At Γ f hid ρ l h s) {i : Nat} {c : Addr} (hi : ρ[i]? = some c) : ∃ m, Fr Γ.base f.env.locals s.heap m ∧ News Γ.base f.env.locals s.heap (ledOf s.heap (f.adr' hid ρ)) ∧
    ∀ h' tk news' o ao, (∀ p ∈ ledOf s.heap (f.adr' hid ρ), p.1 ≠ c → p ∈ news') → (c, o) ∈ news' → Fr Γ.base f.env.locals h' m → News Γ.base f.env.locals h' news' → ObjR Γ ρ ao o →
      At Γ f hid ρ l (h.set i ao) { s with heap := h', toks := tk } := by
  obtain ⟨m, F, hl, hm⟩ := x.frm
  refine ⟨m, F, fun p hp => ?_, fun h' tk news' o ao hin ho F' N hr => ?_⟩
  · obtain ⟨h1, h2⟩ := of_mem_ledOf hp
    exact ⟨h2, x.neL h1, x.fresh _ (by rw [Fm.adr_eq]; exact List.mem_append_left _ h1)⟩
  · have k : ∀ d ∈ f.adr' hid ρ, d ≠ c → ∀ o, s.heap.get? d = some o → h'.get? d = some o := fun d hd hne o e => (N _ (hin _ (mem_ledOf hd e) hne)).1
    have hne : ∀ d ∈ f.cells.map (·.2) ++ (hid.map (·.1) ++ f.fr0.map (·.1)), d ≠ c := fun d hd => x.apartRest hi (by
      simp only [List.mem_append] at hd ⊢
      rcases hd with hd | hd | hd
      · exact .inl hd
      · exact .inr (.inl hd)
      · exact .inr (.inr (.inl hd)))
    refine ⟨by rw [x.sh], ⟨m, F', hl, fun j y v a b => ?_⟩, fun p hp => ?_, by simp [x.len], fun j ao' d a b => ?_, x.nodup, x.fresh, fun p hp => ?_, fun p hp => ?_⟩
    · obtain ⟨v', h1, h2⟩ := hm j y v a b
      refine ⟨v', h1, h2.imp id fun ⟨h3, d, h4, od, h5, h6⟩ => ⟨h3, d, h4, od, k d ?_ (hne d ?_) od h5, h6⟩⟩
      · simp only [Fm.adr', List.mem_append, List.mem_map]
        exact .inr (.inl ⟨_, mem_of_lookup h4, rfl⟩)
      · simp only [List.mem_append, List.mem_map]
        exact .inl ⟨_, mem_of_lookup h4, rfl⟩
    · obtain ⟨v, od, h5, h6⟩ := x.cel p hp
      refine ⟨v, od, k _ ?_ (hne _ ?_) od h5, h6⟩
      · simp only [Fm.adr', List.mem_append]
        exact .inr (.inl (List.mem_map_of_mem hp))
      · simp only [List.mem_append]
        exact .inl (List.mem_map_of_mem hp)
    · by_cases q : j = i
      · subst q
        have e1 : d = c := Option.some.inj (b.symm.trans hi)
        have e2 : ao' = ao := by rw [List.getElem?_set_self (x.lt hi)] at a; exact (Option.some.inj a).symm
        subst e1; subst e2
        exact ⟨o, (N _ ho).1, hr⟩
      · rw [List.getElem?_set_ne (Ne.symm q)] at a
        obtain ⟨o', h1, h2⟩ := x.obj j ao' d a b
        exact ⟨o', k d (x.inAdr b) (x.apart b hi q) o' h1, h2⟩
    · refine k _ ?_ (hne _ ?_) _ (x.hidden p hp)
      · simp only [Fm.adr', List.mem_append]
        exact .inr (.inr (.inl (List.mem_map_of_mem hp)))
      · simp only [List.mem_append]
        exact .inr (.inl (List.mem_map_of_mem hp))
    · obtain ⟨sl, e⟩ := x.below p hp
      refine ⟨sl, k _ ?_ (hne _ ?_) _ e⟩
      · simp only [Fm.adr', List.mem_append]
        exact .inr (.inr (.inr (List.mem_map_of_mem hp)))
      · simp only [List.mem_append]
        exact .inr (.inr (List.mem_map_of_mem hp))

theorem VR.handed {v : AV} {v' : Value} (h : VR ρ v v') : handedIn v' = true := by
  cases v with
  | none => cases h; rfl
  | bool _ => cases h; rfl
  | int _ => obtain ⟨_, rfl⟩ := h; rfl
  | str _ => obtain ⟨_, rfl⟩ := h; rfl
  | ref _ => obtain ⟨_, _, rfl⟩ := h; rfl

theorem sim_attr {n : Nat} {x : AV} {x' : Value} {y : Str} (t : At Γ f hid ρ l h s) (ok : CxOk Γ) (hy : Γ.tx.attr n = some y) (vx : VR ρ x x')
    (p : Post (attrop n x h) (OKQ Γ f hid ρ l Q) ex) : wpAny (model Γ.prog Γ.w) f.A (getAttr x' y true) Q E s := by
  cases x with
  | ref i =>
    simp only [attrop] at p
    split at p
    · rename_i c d e
      split at p
      · rename_i fs e'
        split at p
        · rename_i v ev
          obtain ⟨a, ha, rfl⟩ := vx
          obtain ⟨o, g1, C, dx, ⟨rfl, hC⟩, hdx, rfl⟩ := t.obj i _ a e ha
          obtain ⟨od, g2, es, m, rfl, hf⟩ := t.obj d _ dx e' hdx
          obtain ⟨v', h1, h2⟩ := hf.get ok.attrInj hy ev
          obtain ⟨k1, k2, k3, k4, k5, k6⟩ := ok.inst C hC
          obtain ⟨mm, F, _⟩ := t.frm
          exact get_own F ok.X ⟨g1, rfl, rfl, g2⟩ (by unfold plainGet; rw [k2, k3]; rfl) k1 (k6 n y hy).1 rfl h1 h2.handed (p _ _ _ (List.prefix_refl _) (t.toks _) h2)
        · exact p.elim
      · exact p.elim
    · exact p.elim
  | _ => exact p.elim

theorem sim_setAttr {n : Nat} {x v : AV} {x' v' : Value} {y : Str} {Q : Unit → Shared → Prop} (t : At Γ f hid ρ l h s) (ok : CxOk Γ) (hy : Γ.tx.attr n = some y) (vx : VR ρ x x') (vv : VR ρ v v')
    (p : Post (setAttrOp n x v h) (fun _ h' => ∀ s', At Γ f hid ρ l h' s' → Q () s') ex) : wpAny (model Γ.prog Γ.w) f.A (setAttr x' y v') Q E s := by
  cases x with
  | ref i =>
    simp only [setAttrOp] at p
    split at p
    · rename_i c d e
      split at p
      · rename_i fs e'
        split at p
        · rename_i hz
          obtain ⟨a, ha, rfl⟩ := vx
          obtain ⟨o, g1, C, dx, ⟨rfl, hC⟩, hdx, rfl⟩ := t.obj i _ a e ha
          obtain ⟨od, g2, es, m, rfl, hf⟩ := t.obj d _ dx e' hdx
          obtain ⟨k1, k2, k3, k4, k5, k6⟩ := ok.inst C hC
          obtain ⟨mm, F, N, back⟩ := t.ledPut hdx
          have hfp := hf.put (t := s.toks + 1) ok.attrInj hy vv
          have hlen : (putL y (PyData.keyHash Γ.w.params y) (.str y (s.toks + 1)) v' es).length ≤ 1000 := by
            rw [hfp.length]
            have := putF_length n v fs
            omega
          obtain ⟨news', U, hin1, hin2⟩ := upd_of (dictOf (putL y (PyData.keyHash Γ.w.params y) (.str y (s.toks + 1)) v' es) (putN y es m)) (ledOf_nodup (hp := s.heap) t.adrNd) (mem_ledOf (t.inAdr hdx) g2)
          refine set_dict F ok.X N ⟨g1, rfl, rfl, g2⟩ rfl k4 k5 (k6 n y hy).2 k1 hf.getSome rfl U hlen fun h' F' N' => p _ ?_
          exact back h' _ news' _ _ hin2 hin1 F' N' ⟨_, _, rfl, hfp⟩
        · exact p.elim
      · exact p.elim
    · exact p.elim
  | _ => exact p.elim
end
end Sk


namespace Sk
open PySem PySem.Calls PySem.W PyProof.Rows PySem.Spec

theorem place_eq (i : Int) (n : Nat) : place i n = seqIndex? i n := by
  unfold place seqIndex?
  simp only [Bool.and_eq_true, decide_eq_true_eq]

theorem place_some {i : Int} {n j : Nat} (h : place i n = some j) : j < n ∧ ((0 ≤ i ∧ i = j) ∨ (i < 0 ∧ i + n = j)) := by
  unfold place at h
  by_cases q2 : i < 0
  · simp only [q2, if_true] at h
    split at h
    · have := Option.some.inj h; omega
    · cases h
  · simp only [q2, if_false] at h
    split at h
    · have := Option.some.inj h; omega
    · cases h

section
variable {Γ : Cx} {f : Fm} {hid : List (Addr × Obj)} {ρ : List Addr} {l : LOC} {h : HP} {s : Shared} {E : Value → Shared → Prop} {Q : Value → Shared → Prop} {ex : Nat → HP → Prop}

theorem sim_item {value slice : Expr} {x y : AV} {x' y' : Value} (t : At Γ f hid ρ l h s) (vx : VR ρ x x') (vy : VR ρ y y') (hs : subscripted slice false x' y' = operate [x', y'] (getItem x' y'))
    (p : Post (itemop x y h) (OKQ Γ f hid ρ l Q) ex) : wpAny (model Γ.prog Γ.w) f.A (subscriptTail value slice x' y') Q E s := by
  cases x with
  | ref i =>
    cases y with
    | int k =>
      obtain ⟨c, hc, rfl⟩ := vx
      obtain ⟨u, rfl⟩ := vy
      simp only [itemop] at p
      split at p
      · rename_i vs e
        split at p
        · rename_i j ej
          split at p
          · rename_i v ev
            obtain ⟨o, g, vs', n, rfl, hv, hz⟩ := t.obj i _ c e hc
            have hl : s.heap.IsList c vs'.toArray := ⟨_, g, rfl, n, rfl⟩
            obtain ⟨v', e1, e2⟩ := hv.get ev
            obtain ⟨hj, hcs⟩ := place_some ej
            have hlen := hv.length
            refine tail_any hl.typeIs slot_list_getitem.lookup ?_ hs
            rcases hcs with ⟨h0, h1⟩ | ⟨h0, h1⟩
            · exact wpAny_getItem_list hl h0 (by omega) (by rw [show k.toNat = j by omega]; simpa using e1) (p _ _ _ (List.prefix_refl _) t e2)
            · exact wpAny_getItem_list_neg hl h0 (by simp; omega) (by omega) (by rw [show (k + (vs'.toArray.size : Int)).toNat = j by simp; omega]; simpa using e1) (p _ _ _ (List.prefix_refl _) t e2)
          · exact p.elim
        · exact p.elim
      · rename_i vs e
        split at p
        · rename_i j ej
          split at p
          · rename_i v ev
            obtain ⟨o, g, vs', n, rfl, hv, hz⟩ := t.obj i _ c e hc
            have hl : IsTup s.heap c vs'.toArray := ⟨_, g, rfl, n, rfl⟩
            obtain ⟨v', e1, e2⟩ := hv.get ev
            obtain ⟨hj, hcs⟩ := place_some ej
            have hlen := hv.length
            refine tail_any hl.typeIs slot_tuple_getitem.lookup (getItem_tuple hl (by omega) (by omega) (by rw [← place_eq]; simpa [hlen] using ej) (by simpa using e1) (p _ _ _ (List.prefix_refl _) t e2)) hs
          · exact p.elim
        · exact p.elim
      · rename_i vs e
        split at p
        · rename_i j ej
          split at p
          · rename_i v ev
            obtain ⟨o, g, vs', n, oc, od, hv, hz⟩ := t.obj i _ c e hc
            have hl : s.heap.IsList c vs'.toArray := ⟨_, g, oc, n, od⟩
            obtain ⟨v', e1, e2⟩ := hv.get ev
            obtain ⟨hj, hcs⟩ := place_some ej
            have hlen := hv.length
            refine tail_any hl.typeIs slot_list_getitem.lookup ?_ hs
            rcases hcs with ⟨h0, h1⟩ | ⟨h0, h1⟩
            · exact wpAny_getItem_list hl h0 (by omega) (by rw [show k.toNat = j by omega]; simpa using e1) (p _ _ _ (List.prefix_refl _) t e2)
            · exact wpAny_getItem_list_neg hl h0 (by simp; omega) (by omega) (by rw [show (k + (vs'.toArray.size : Int)).toNat = j by simp; omega]; simpa using e1) (p _ _ _ (List.prefix_refl _) t e2)
          · exact p.elim
        · exact p.elim
      · exact p.elim
    | _ => exact p.elim
  | _ => exact p.elim

theorem stored_true (ks : List Int) (k : Int) : stored (ks.map fun k => (k, Value.bool true)) k (.bool true) = (putKey k ks).map fun k => (k, Value.bool true) := by
  unfold stored putKey
  have e1 : ((ks.map fun k => (k, Value.bool true)).any fun kv => decide (kv.1 = k)) = decide (k ∈ ks) := by
    rw [List.any_map]
    induction ks with
    | nil => simp
    | cons a r ih =>
      rw [List.any_cons, ih]
      by_cases q : a = k
      · subst q; simp
      · have : ¬ k = a := fun z => q z.symm
        simp [q, this]
  rw [e1]
  by_cases q : k ∈ ks
  · simp only [q, decide_true, if_true]
    rw [List.map_map]
    refine List.map_congr_left fun a _ => ?_
    simp only [Function.comp]
    split <;> rfl
  · simp [q]
theorem putKey_length (k : Int) (ks : List Int) : (putKey k ks).length ≤ ks.length + 1 := by
  unfold putKey; split <;> simp

theorem sim_setItem {x y v : AV} {x' y' v' : Value} {Q : Unit → Shared → Prop} (t : At Γ f hid ρ l h s) (vx : VR ρ x x') (vy : VR ρ y y') (vv : VR ρ v v')
    (p : Post (setItemOp x y v h) (fun _ h' => ∀ s', At Γ f hid ρ l h' s' → Q () s') ex) : wpAny (model Γ.prog Γ.w) f.A (setItem x' y' v') Q E s := by
  cases x with
  | ref i =>
    cases y with
    | int k =>
      obtain ⟨c, hc, rfl⟩ := vx
      obtain ⟨u, rfl⟩ := vy
      simp only [setItemOp] at p
      split at p
      · rename_i vs e
        split at p
        · rename_i j ej
          split at p
          · rename_i hk
            obtain ⟨o, g, vs', n, rfl, hv, hz⟩ := t.obj i _ c e hc
            obtain ⟨hj, hcs⟩ := place_some ej
            have hlen := hv.length
            have hkj : k.toNat = j := by omega
            obtain ⟨mm, F, N, back⟩ := t.ledPut hc
            obtain ⟨news', U, hin1, hin2⟩ := upd_of (listOf (vs'.set k.toNat v').toArray n) (ledOf_nodup (hp := s.heap) t.adrNd) (mem_ledOf (t.inAdr hc) g)
            obtain ⟨pre, post, e1, rfl, a, b⟩ := U.split
            rw [e1] at N
            have z := N (c, listOf vs'.toArray n) (List.mem_append.mpr (.inr (.head _)))
            refine ki_setAt z.1 hk (by omega) (by simp; omega) (p _ ?_)
            refine back _ s.toks _ _ _ hin2 hin1 (F.change (Heap.SameBut.update ..) z.2.1 z.2.2) (ki_turn _ N a b ?_ ?_) ⟨_, n, rfl, ?_, ?_⟩
            · show vs'.toArray.setIfInBounds k.toNat v' = (vs'.set k.toNat v').toArray
              apply Array.toList_inj.mp
              simp
            · simp
            · rw [hkj]; exact hv.set j vv
            · simp; omega
          · exact p.elim
        · exact p.elim
      · rename_i ks e
        split at p
        · rename_i hk
          obtain ⟨o, g, r, hz⟩ := t.obj i _ c e hc
          obtain ⟨rfl, hz2⟩ := hk
          cases vv
          refine wpAny_setItem_pairs (intKind_is _ _ k u) (Heap.dictOf_iff.mpr ⟨o, g, r⟩) (fun h' hm hs => p _ ?_) (by simp; exact Nat.le_trans hz (by decide))
          obtain ⟨o', g', r'⟩ := Heap.dictOf_iff.mp hm
          refine t.put (by rw [t.sh]) hc (fun b ob hb e => (hs.2 b hb).trans e) g' ⟨?_, ?_⟩
          · rw [stored_true] at r'; exact r'
          · have := putKey_length k ks
            have := of_decide_eq_true hz2
            omega
        · exact p.elim
      · exact p.elim
    | _ => exact p.elim
  | _ => exact p.elim
end
end Sk


namespace Sk
open PySem PySem.Calls PySem.W PyProof.Rows PySem.Spec

theorem insI_perm (n : Int) : ∀ l : List Int, (insI n l).Perm (n :: l)
  | [] => .refl _
  | x :: r => by
    unfold insI
    split
    · exact .refl _
    · exact ((insI_perm n r).cons x).trans (.swap n x r)
theorem insI_sorted (n : Int) : ∀ {l : List Int}, l.Pairwise (· ≤ ·) → (insI n l).Pairwise (· ≤ ·)
  | [], _ => by simp [insI]
  | x :: r, h => by
    unfold insI
    obtain ⟨h1, h2⟩ := List.pairwise_cons.mp h
    split
    · rename_i q
      refine .cons (fun y hy => ?_) h
      rcases List.mem_cons.mp hy with rfl | hy
      · exact q
      · exact Int.le_trans q (h1 y hy)
    · rename_i q
      refine .cons (fun y hy => ?_) (insI_sorted n h2)
      rcases List.mem_cons.mp ((insI_perm n r).mem_iff.mp hy) with rfl | hy
      · omega
      · exact h1 y hy
theorem sortI_perm : ∀ l : List Int, (sortI l).Perm l
  | [] => .refl _
  | x :: r => (insI_perm x _).trans ((sortI_perm r).cons x)
theorem sortI_sorted : ∀ l : List Int, (sortI l).Pairwise (· ≤ ·)
  | [] => .nil
  | x :: r => insI_sorted x (sortI_sorted r)
theorem sortI_eq {a b : List Int} (p : a.Perm b) (h : a.Pairwise (· ≤ ·)) : a = sortI b := ksm_same (p.trans (sortI_perm b).symm) h (sortI_sorted b)
theorem sortI_length (l : List Int) : (sortI l).length = l.length := (sortI_perm l).length_eq

noncomputable def bfVal : BF → Value
  | .len => .builtin "len" | .list => .type "list" | .listRange => .none | .sorted => .builtin "sorted" | .int => .type "int" | .min => .builtin "min" | .max => .builtin "max" | .max1 => .builtin "max" | .all => .builtin "all"

section
variable {Γ : Cx} {f : Fm} {hid : List (Addr × Obj)} {ρ : List Addr} {l : LOC} {h : HP} {s : Shared} {E : Value → Shared → Prop} {Q : Value → Shared → Prop} {ex : Nat → HP → Prop}

theorem At.there (x : At Γ f hid ρ l h s) : ∀ c ∈ f.adr hid ρ, ∃ o, s.heap.get? c = some o := by
  intro c hc
  unfold Fm.adr at hc
  simp only [List.mem_append] at hc
  rcases hc with hc | hc | hc | hc | hc
  · obtain ⟨i, hi, rfl⟩ := List.mem_iff_getElem.mp hc
    have hi' : i < h.length := by rw [← x.len]; exact hi
    obtain ⟨o, h1, _⟩ := x.obj i h[i] ρ[i] (List.getElem?_eq_getElem hi') (List.getElem?_eq_getElem hi)
    exact ⟨o, h1⟩
  · obtain ⟨p, hp, rfl⟩ := List.mem_map.mp hc
    obtain ⟨v, o, e, _⟩ := x.cel p hp
    exact ⟨o, e⟩
  · obtain ⟨p, hp, rfl⟩ := List.mem_map.mp hc
    exact ⟨_, x.hidden p hp⟩
  · obtain ⟨p, hp, rfl⟩ := List.mem_map.mp hc
    obtain ⟨sl, e⟩ := x.below p hp
    exact ⟨_, e⟩
  · obtain ⟨m, F, _⟩ := x.frm
    obtain ⟨o, _, _, e, _⟩ := F.ns
    rw [List.mem_singleton.mp hc]; exact ⟨o, e⟩

/-- as allocN, the new address is above the ledger's -/
theorem At.allocL (x : At Γ f hid ρ l h s) {m : Str → Option Value} {h' : Heap} {tk : Nat} {c : Addr} {o : Obj} {ao : AO}
    (back : ∀ h' tk news, (∀ p ∈ ledOf s.heap (f.adr' hid ρ), p ∈ news) → Fr Γ.base f.env.locals h' m → News Γ.base f.env.locals h' news → At Γ f hid ρ l h { s with heap := h', toks := tk })
    (F' : Fr Γ.base f.env.locals h' m) {news : List (Addr × Obj)} (N' : News Γ.base f.env.locals h' news) (hin : ∀ p ∈ ledOf s.heap (f.adr' hid ρ), p ∈ news) (hco : (c, o) ∈ news)
    (hc : ∀ q ∈ ledOf s.heap (f.adr' hid ρ), q.1 < c) (hr : ObjR Γ (ρ ++ [c]) ao o) :
    At Γ f hid (ρ ++ [c]) l (h ++ [ao]) { s with heap := h', toks := tk } := by
  have y := back h' tk news hin F' N'
  have p : ρ <+: ρ ++ [c] := List.prefix_append _ _
  obtain ⟨m, F, hl, hm⟩ := y.frm
  have hb : Γ.base.get? c = none := (N' _ hco).2.2
  have ho : h'.get? c = some o := (N' _ hco).1
  have hnew : ∀ d ∈ f.adr hid ρ, d ≠ c := fun d hd e => by
    rw [Fm.adr_eq] at hd
    rcases List.mem_append.mp hd with hd' | hd'
    · obtain ⟨od, eo⟩ := x.there d (by rw [Fm.adr_eq]; exact hd)
      have := hc _ (mem_ledOf hd' eo)
      exact absurd this (e ▸ Nat.lt_irrefl _)
    · have := (N' _ hco).2.1
      rw [List.mem_singleton.mp hd'] at e
      exact this e.symm
  refine ⟨y.sh, ⟨m, F, hl, fun i z v a b => ?_⟩, y.cel, by simp [x.len], fun i ao' d a b => ?_, ?_, ?_, y.hidden, y.below⟩
  · obtain ⟨v', h1, h2⟩ := hm i z v a b
    exact ⟨v', h1.mono p, h2⟩
  · by_cases hi : i < h.length
    · rw [List.getElem?_append_left hi] at a
      rw [List.getElem?_append_left (by rw [x.len]; exact hi)] at b
      obtain ⟨o', h1, h2⟩ := y.obj i ao' d a b
      exact ⟨o', h1, h2.mono p⟩
    · have hi' : i = h.length := by
        have := (List.getElem?_eq_some_iff.mp a).1
        simp at this; omega
      subst hi'
      have e1 : ao' = ao := by simpa using a.symm
      have e2 : d = c := by rw [← x.len] at b; simpa using b.symm
      subst e1; subst e2
      exact ⟨o, ho, hr⟩
  · unfold Fm.adr
    rw [List.append_assoc]
    have hn := x.nodup
    unfold Fm.adr at hn hnew
    rw [List.nodup_append] at hn ⊢
    refine ⟨hn.1, ?_, fun a ha b hb' => ?_⟩
    · rw [List.singleton_append, List.nodup_cons]
      exact ⟨fun hm => hnew _ (List.mem_append_right _ hm) rfl, hn.2.1⟩
    · rcases List.mem_append.mp hb' with e | e
      · rw [List.mem_singleton.mp e]; exact hnew a (List.mem_append_left _ ha)
      · exact hn.2.2 a ha b e
  · intro d hd
    unfold Fm.adr at hd
    rw [List.append_assoc, List.mem_append] at hd
    rcases hd with hd | hd
    · exact x.fresh d (List.mem_append_left _ hd)
    · rcases List.mem_append.mp hd with hd | hd
      · rw [List.mem_singleton.mp hd]; exact hb
      · exact x.fresh d (List.mem_append_right _ hd)

theorem newRef (t : At Γ f hid ρ l h s) (c : Addr) : VR (ρ ++ [c]) (.ref h.length) (.ref c) := ⟨c, by rw [← t.len]; simp, rfl⟩
theorem ledLt (x : At Γ f hid ρ l h s) {c : Addr} (hc : s.heap.objs.size ≤ c) : ∀ q ∈ ledOf s.heap (f.adr' hid ρ), q.1 < c := fun q hq => by
  obtain ⟨h1, h2⟩ := of_mem_ledOf hq
  exact Nat.lt_of_lt_of_le (Heap.lt_size h2) hc

theorem foldl_max (ns : List Int) : ∀ n : Int, (ns.foldl (fun a b => if a < b then b else a) n ∈ n :: ns) ∧ ∀ x ∈ n :: ns, x ≤ ns.foldl (fun a b => if a < b then b else a) n := by
  induction ns with
  | nil => intro n; simp
  | cons a r ih =>
    intro n
    obtain ⟨h1, h2⟩ := ih (if n < a then a else n)
    rw [List.foldl_cons]
    refine ⟨?_, fun x hx => ?_⟩
    · rcases List.mem_cons.mp h1 with e | e
      · rw [e]; split <;> simp
      · exact .tail _ (.tail _ e)
    · have h3 := h2 _ (.head _)
      rcases List.mem_cons.mp hx with rfl | hx
      · refine Int.le_trans ?_ h3; split <;> omega
      · rcases List.mem_cons.mp hx with rfl | hx
        · refine Int.le_trans ?_ h3; split <;> omega
        · exact h2 x (.tail _ hx)

theorem VRs.bools {ρ : List Addr} : ∀ {as : List AV} {vs : List Value} {bs : List Bool}, VRs ρ as vs → boolsOf as = some bs → vs = bs.map .bool
  | [], _, bs, .nil, e => by simp only [boolsOf, Option.some.injEq] at e; subst e; rfl
  | .bool i :: r, _, bs, .cons a h, e => by
    simp only [boolsOf, Option.map_eq_some_iff] at e
    obtain ⟨ms, e1, rfl⟩ := e
    cases a
    rw [h.bools e1]; rfl
  | .none :: _, _, _, _, e => by simp [boolsOf] at e
  | .int _ :: _, _, _, _, e => by simp [boolsOf] at e
  | .str _ :: _, _, _, _, e => by simp [boolsOf] at e
  | .ref _ :: _, _, _, _, e => by simp [boolsOf] at e

theorem dict_ints {ks : List Int} {vs : List Value} (hl : vs.length = (ks.map fun k => (k, Value.bool true)).length) (hv : ∀ (j : Nat) v, vs[j]? = some v → ∃ k x, (ks.map fun k => (k, Value.bool true))[j]? = some (k, x) ∧ (intKind Γ.prog Γ.w).is k v = true) : IntsAre vs ks := by
  refine kdy_ints (by simpa using hl) fun j v e => ?_
  obtain ⟨k, x, e1, e2⟩ := hv j v e
  obtain ⟨t, rfl⟩ := Value.isInt_shape e2
  rw [List.getElem?_map, Option.map_eq_some_iff] at e1
  obtain ⟨a, ea, eb⟩ := e1
  cases eb
  exact ⟨_, ea, _, rfl⟩

theorem sim_bf {b : BF} {args : List AV} {vals : List Value} (t : At Γ f hid ρ l h s) (ok : CxOk Γ) (hsm : ∃ o, Γ.base.get? sysModules = some o) (hh : f.A.handled = none) (va : VRs ρ args vals) (hb : b ≠ .listRange)
    (p : Post (bfop b args h) (OKQ Γ f hid ρ l Q) ex) : wpAny (model Γ.prog Γ.w) f.A (call (bfVal b) vals) Q E s := by
  have one : ∀ {i : Nat} {vals : List Value}, VRs ρ [.ref i] vals → ∃ c, ρ[i]? = some c ∧ vals = [.ref c] := fun hv => by
    cases hv with
    | cons a r => cases r; obtain ⟨c, hc, rfl⟩ := a; exact ⟨c, hc, rfl⟩
  unfold bfop at p
  split at p
  · -- len
    obtain ⟨c, hc, rfl⟩ := one va
    rename_i i
    split at p
    · rename_i vs e
      obtain ⟨o, g, vs', n, rfl, hv, hz⟩ := t.obj i _ c e hc
      have hlen := hv.length
      exact call_len_list (items := vs'.toArray) ⟨_, g, rfl, n, rfl⟩ (by simp; omega) (p _ _ _ (List.prefix_refl _) (t.toks _) ⟨_, by simp [hlen]; rfl⟩)
    · rename_i vs e
      obtain ⟨o, g, vs', n, rfl, hv, hz⟩ := t.obj i _ c e hc
      have hlen := hv.length
      exact PyProof.Rows.len_tuple (items := vs'.toArray) ⟨_, g, rfl, n, rfl⟩ (by simp; omega) (p _ _ _ (List.prefix_refl _) (t.toks _) ⟨_, by simp [hlen]; rfl⟩)
    · rename_i ks e
      obtain ⟨o, g, r, hz⟩ := t.obj i _ c e hc
      exact call_len_dict (notSysM t ok hsm hc) (Heap.dictOf_iff.mpr ⟨o, g, r⟩) (by simp; omega) (p _ _ _ (List.prefix_refl _) (t.toks _) ⟨_, by simp; rfl⟩)
    · rename_i vs e
      obtain ⟨o, g, vs', n, oc, od, hv, hz, _⟩ := t.obj i _ c e hc
      have hlen := hv.length
      exact call_len_list (items := vs'.toArray) ⟨_, g, oc, n, od⟩ (by simp; omega) (p _ _ _ (List.prefix_refl _) (t.toks _) ⟨_, by simp [hlen]; rfl⟩)
    · exact p.elim
  · -- list
    obtain ⟨c, hc, rfl⟩ := one va
    rename_i i
    split at p
    · rename_i vs e
      obtain ⟨o, g, vs', n, rfl, hv, hz⟩ := t.obj i _ c e hc
      have hlen := hv.length
      refine call_list_seq c (.inl rfl) g rfl rfl (fun h' c' k ho => ?_) (by simp; exact Nat.le_trans (by omega) (show 200000 ≤ sizeLine by decide))
      have pre : ρ <+: ρ ++ [s.heap.objs.size] := List.prefix_append _ _
      exact p _ _ _ pre (t.alloc (by rw [t.sh]) k (Nat.le_refl _) ho ⟨vs', c', rfl, hv.mono pre, hz⟩) (newRef t _)
    · rename_i ks e
      obtain ⟨o, g, r, hz⟩ := t.obj i _ c e hc
      obtain ⟨m, F, N, back⟩ := t.led
      obtain ⟨ep, hat⟩ := (Heap.dictOf_iff.mpr ⟨o, g, r⟩ : s.heap.DictOf _ c _).dictAt
      refine kdl_N (kdl_dict (ep := ep) (notSysM t ok hsm hc)) hh F N hat (by simp; exact Nat.le_trans hz (by decide)) fun B n h' tk vs F' N' l1 hl hv => ?_
      have pre : ρ <+: ρ ++ [B] := List.prefix_append _ _
      exact p _ _ _ pre (t.allocL back F' N' (fun q hq => .tail _ hq) (.head _) l1 ⟨vs, n, rfl, VRs.of_ints (dict_ints (Γ := Γ) hl hv), by simpa using hz⟩) (newRef t _)
    · exact p.elim
  · exact absurd rfl hb
  · -- sorted
    obtain ⟨c, hc, rfl⟩ := one va
    rename_i i
    split at p
    · rename_i vs e
      split at p
      · rename_i ns en
        split at p
        · rename_i hz
          obtain ⟨o, g, r⟩ := t.obj i _ c e hc
          obtain ⟨vs', l1, v1⟩ := isList_of g r
          have hI := v1.ints en
          have hlen := hI.length
          obtain ⟨m, F, N, back⟩ := t.led
          refine sorted_N F N l1 hI (by omega) fun h' vs2 ns2 n F' N' a1 a2 a3 => ?_
          have pre : ρ <+: ρ ++ [s.heap.objs.size + 1] := List.prefix_append _ _
          refine p _ _ _ pre (t.allocL back F' N' (fun q hq => .tail _ hq) (.head _) (ledLt t (Nat.le_succ _)) ⟨vs2, n, rfl, ?_, ?_⟩) (newRef t _)
          · rw [← sortI_eq a2 a3]; exact VRs.of_ints a1
          · rw [List.length_map, sortI_length]; omega
        · exact p.elim
      · exact p.elim
    · rename_i ks e
      split at p
      · rename_i hz
        obtain ⟨o, g, r, hz'⟩ := t.obj i _ c e hc
        obtain ⟨m, F, N, back⟩ := t.led
        obtain ⟨ep, hat⟩ := (Heap.dictOf_iff.mpr ⟨o, g, r⟩ : s.heap.DictOf _ c _).dictAt
        refine kdu_sorted (kdl_dict (ep := ep) (notSysM t ok hsm hc)) hh F N hat (by simp; exact Nat.le_trans hz' (by decide)) fun B h' tk vs F' N' l1 hl hv => ?_
        have hI := dict_ints (Γ := Γ) hl hv
        refine ksk_lsort (its := vs.toArray) (n := 0) (news' := fun o' => (B, o') :: ledOf s.heap (f.adr' hid ρ)) F' N' (fun o' => .head fun q hq => Nat.ne_of_lt (l1 q hq)) (by simp) hI hz fun vs2 ns2 n h2 F2 N2 a1 _ a2 a3 _ => ?_
        have pre : ρ <+: ρ ++ [B] := List.prefix_append _ _
        refine p _ _ _ pre (t.allocL back F2 N2 (fun q hq => .tail _ hq) (.head _) l1 ⟨vs2, n, rfl, ?_, ?_⟩) (newRef t _)
        · rw [← sortI_eq a2 a3]; exact VRs.of_ints a1
        · rw [List.length_map, sortI_length]; omega
      · exact p.elim
    · exact p.elim
  · -- int
    cases va with
    | cons a r =>
      cases r; cases a
      exact call_int_bool (p _ _ _ (List.prefix_refl _) (t.toks _) ⟨_, rfl⟩)
  · -- min
    cases va with
    | cons a r =>
      cases r with
      | cons b r =>
        cases r
        obtain ⟨u1, rfl⟩ := a
        obtain ⟨u2, rfl⟩ := b
        refine min_two_ints hh fun h' tk k => p _ _ _ (List.prefix_refl _) (t.grow (by rw [t.sh]) k) ?_
        split <;> exact ⟨_, rfl⟩
  · -- max
    cases va with
    | cons a r =>
      cases r with
      | cons b r =>
        cases r
        obtain ⟨u1, rfl⟩ := a
        obtain ⟨u2, rfl⟩ := b
        refine max_two_ints hh fun h' tk k => p _ _ _ (List.prefix_refl _) (t.grow (by rw [t.sh]) k) ?_
        simp only [gt_iff_lt]
        split <;> exact ⟨_, rfl⟩
  · -- max of a list
    obtain ⟨c, hc, rfl⟩ := one va
    rename_i i
    split at p
    · rename_i vs e
      split at p
      · rename_i n ns en
        obtain ⟨o, g, r⟩ := t.obj i _ c e hc
        obtain ⟨vs', l1, v1⟩ := isList_of g r
        obtain ⟨m, F, N, back⟩ := t.led
        refine max_list_N hh F N l1 (v1.ints en) (by simp) fun h' M u tk F' N' a1 a2 => p _ _ _ (List.prefix_refl _) (back h' tk _ (fun _ q => q) F' N') ⟨u, ?_⟩
        obtain ⟨b1, b2⟩ := foldl_max ns n
        have : M = ns.foldl (fun a b => if a < b then b else a) n := Int.le_antisymm (b2 M a1) (a2 _ b1)
        rw [this]
      · exact p.elim
    · exact p.elim
  · -- all
    obtain ⟨c, hc, rfl⟩ := one va
    rename_i i
    split at p
    · rename_i vs e
      split at p
      · rename_i bs eb
        obtain ⟨o, g, r⟩ := t.obj i _ c e hc
        obtain ⟨vs', l1, v1⟩ := isList_of g r
        have hvs := v1.bools eb
        have hlt : c < s.heap.objs.size := Heap.lt_size g
        refine call_all_walk (wpAny_pyIter_list l1 ⟨_, _, _, _, _, _, fun k => (bs[k]?).getD false, rfl, Walks.list (A := f.A.in1) (show f.A.in1.handled = none from hh) s.heap.objs.size c (Nat.ne_of_lt hlt) vs'.toArray, ⟨⟨_, Heap.get?_push_size _ rfl, rfl, rfl⟩, l1.at fun o e => Heap.get?_push_of_some _ e⟩, ?_, ?_⟩)
        · intro k v s' Q' E' hP hQ
          subst hvs
          simp only [List.getElem?_toArray, List.getElem?_map, Option.map_eq_some_iff] at hP
          obtain ⟨b, e1, rfl⟩ := hP
          simp only [e1, Option.getD_some] at hQ
          exact wpAny_truthy_bool hQ
        · intro h' tk k
          have keep : ∀ b o, s.heap.get? b = some o → h'.get? b = some o := fun b o e => k b o (fun hm => by
            rw [List.mem_singleton.mp hm] at e; exact absurd (Heap.lt_size e) (Nat.lt_irrefl _)) (Heap.get?_push_of_some _ e)
          have q : (List.range vs'.toArray.size).all (fun k => (bs[k]?).getD false) = bs.all id := by
            subst hvs
            simp only [List.size_toArray, List.length_map]
            rw [Bool.eq_iff_iff]
            simp only [List.all_eq_true, List.mem_range, id]
            constructor
            · intro hb x hx
              obtain ⟨j, hj, rfl⟩ := List.mem_iff_getElem.mp hx
              have := hb j hj
              simpa [List.getElem?_eq_getElem hj] using this
            · intro hb j hj
              simpa [List.getElem?_eq_getElem hj] using hb _ (List.getElem_mem hj)
          rw [q]
          exact p _ _ _ (List.prefix_refl _) (t.grow (by rw [t.sh]) keep) rfl
      · exact p.elim
    · exact p.elim
  · exact p.elim
end
end Sk


namespace Sk
open PySem PySem.Calls PySem.W PyProof.Rows PySem.Spec

noncomputable def bmName : BM → Str
  | .append => "append" | .insert => "insert" | .popAt => "pop" | .index => "index" | .clear => "clear" | .dpop => "pop"
noncomputable def bmId : BM → String
  | .append => "list.append" | .insert => "list.insert" | .popAt => "list.pop" | .index => "list.index" | .clear => "list.clear" | .dpop => "dict.pop"

theorem cut_of {vs : List Value} {k : Nat} {y : Value} (e : vs[k]? = some y) : kl_cut vs k = some (vs.take k, y, vs.drop (k + 1)) := by
  induction vs generalizing k with
  | nil => simp at e
  | cons a r ih =>
    cases k with
    | zero => simp at e; subst e; rfl
    | succ k => simp at e; simp [kl_cut, ih e]

section
variable {Γ : Cx} {f : Fm} {hid : List (Addr × Obj)} {ρ : List Addr} {l : LOC} {h : HP} {s : Shared} {E : Value → Shared → Prop} {Q : Value → Shared → Prop} {ex : Nat → HP → Prop}

theorem sim_bmGet {m : BM} {x : AV} {x' : Value} {pl : Sem Bool} {Q : Value × List Value → Shared → Prop} (t : At Γ f hid ρ l h s) (vx : VR ρ x x') (hk : bmKind m x h = true) (hq : Q (.builtin (bmId m), [x']) s) :
    wpAny (model Γ.prog Γ.w) f.A (getMethod x' (bmName m) pl) Q E s := by
  cases x with
  | ref i =>
    obtain ⟨c, hc, rfl⟩ := vx
    have lst : ∀ {vs : List AV} {name : Str} {id : String}, h[i]? = some (.list vs) → Slot "list" name id → typeOf (.builtin id) = pure (.type "method_descriptor") → Q (.builtin id, [.ref c]) s → wpAny (model Γ.prog Γ.w) f.A (getMethod (.ref c) name pl) Q E s := by
      intro vs name id e slot hty hq
      obtain ⟨o, g, vs', n, rfl, hv, hz⟩ := t.obj i _ c e hc
      exact getMethod_builtin ⟨_, g, rfl⟩ PySem.F.plainAttrs_list slot hty (fun a e => by cases e; exact ⟨_, g, rfl⟩) hq
    have key : (m = .dpop ∧ ∃ ks, h[i]? = some (.dict ks)) ∨ (m ≠ .dpop ∧ ∃ vs, h[i]? = some (.list vs)) := by
      unfold bmKind at hk
      dsimp only at hk
      cases q : h[i]? with
      | none => rw [q] at hk; cases m <;> cases hk
      | some o =>
        rw [q] at hk
        cases o with
        | list vs => exact .inr ⟨fun e => (by subst e; cases hk), vs, rfl⟩
        | dict ks => exact .inl ⟨(by cases m <;> first | rfl | cases hk), ks, rfl⟩
        | _ => cases m <;> cases hk
    rcases key with ⟨rfl, ks, e⟩ | ⟨hm, vs, e⟩
    · obtain ⟨o, g, r, hz⟩ := t.obj i _ c e hc
      obtain ⟨es, ep, hx, hd, _⟩ := r
      exact getMethod_builtin (id := "dict.pop") ⟨_, g, hx.1⟩ PySem.F.plainAttrs_dict PySem.F.slot_dict_pop PySem.F.type_dict_pop (fun a e => by cases e; exact ⟨_, g, hx.2.1⟩) hq
    · cases m with
      | append => exact lst e PySem.F.slot_list_append PySem.F.type_list_append hq
      | insert => exact lst e PySem.F.slot_list_insert PySem.F.type_list_insert hq
      | popAt => exact lst e PySem.F.slot_list_pop PySem.F.type_list_pop hq
      | index => exact lst e PySem.F.slot_list_index PySem.F.type_list_index hq
      | clear => exact lst e PySem.F.slot_list_clear PySem.F.type_list_clear hq
      | dpop => exact absurd rfl hm
  | _ => cases hk

theorem without_filter (ks : List Int) (k : Int) : without (ks.map fun k => (k, Value.bool true)) k = (ks.filter fun x => decide (x ≠ k)).map fun k => (k, Value.bool true) := by
  unfold without
  rw [List.filter_map]
  rfl
theorem valueAt_true {ks : List Int} {k : Int} (h : k ∈ ks) : valueAt (ks.map fun k => (k, Value.bool true)) k = some (.bool true) := by
  have h1 := valueAt_isSome ks k
  rw [decide_eq_true h] at h1
  obtain ⟨v, hv⟩ := Option.isSome_iff_exists.mp h1
  rw [hv]
  unfold valueAt at hv
  obtain ⟨p, e1, e2⟩ := Option.map_eq_some_iff.mp hv
  obtain ⟨a, _, rfl⟩ := List.mem_map.mp (List.mem_of_find?_eq_some e1)
  rw [← e2]

theorem sim_bm {m : BM} {x : AV} {x' : Value} {args : List AV} {vals : List Value} (t : At Γ f hid ρ l h s) (vx : VR ρ x x') (va : VRs ρ args vals)
    (p : Post (bmop m x args h) (OKQ Γ f hid ρ l Q) ex) : wpAny (model Γ.prog Γ.w) f.A (call (.builtin (bmId m)) (x' :: vals)) Q E s := by
  cases x with
  | ref i =>
    obtain ⟨c, hc, rfl⟩ := vx
    unfold bmop at p
    simp only at p
    split at p
    · -- append
      rename_i vs v e
      split at p
      · rename_i hz
        cases va with
        | cons a r =>
          cases r
          obtain ⟨o, g, vs', n, rfl, hv, hz'⟩ := t.obj i _ c e hc
          obtain ⟨mm, F, N, back⟩ := t.ledPut hc
          obtain ⟨news', U, hin1, hin2⟩ := upd_of (listOf (vs'.toArray.push _) (n + 1)) (ledOf_nodup (hp := s.heap) t.adrNd) (mem_ledOf (t.inAdr hc) g)
          have hz := of_decide_eq_true hz
          have hlen := hv.length
          refine append_K F N U (fun h' F' N' => p _ _ _ (List.prefix_refl _) (back h' s.toks news' _ _ hin2 hin1 F' N' ⟨vs' ++ [_], n + 1, by simp, hv.append (.cons a .nil), ?_⟩) rfl) (by simp; exact Nat.le_trans (by omega) (show 200000 ≤ sizeLine by decide))
          simp; omega
      · exact p.elim
    · -- insert
      rename_i vs k v e
      split at p
      · rename_i hz
        cases va with
        | cons a r =>
          cases r with
          | cons b r =>
            cases r
            obtain ⟨u, rfl⟩ := a
            obtain ⟨o, g, vs', n, rfl, hv, hz'⟩ := t.obj i _ c e hc
            obtain ⟨mm, F, N, back⟩ := t.ledPut hc
            rename_i v'
            obtain ⟨news', U, hin1, hin2⟩ := upd_of (listOf (vs'.take k.toNat ++ v' :: vs'.drop k.toNat).toArray (n + 1)) (ledOf_nodup (hp := s.heap) t.adrNd) (mem_ledOf (t.inAdr hc) g)
            obtain ⟨⟨h0, h1⟩, hz⟩ := hz
            have hz := of_decide_eq_true hz
            have hlen := hv.length
            have ek : (if k < 0 then (k + (vs'.length : Int)).toNat else min k.toNat vs'.length) = k.toNat := by
              rw [if_neg (by omega)]; omega
            refine kl_insert (x := k) F N (by unfold Builtin.List.listFitsIndex; simp; omega) (by simp only [kl_ins, ek]) U (by simp; exact Nat.le_trans (by omega) (show 200000 ≤ sizeLine by decide))
              fun h' F' N' => p _ _ _ (List.prefix_refl _) (back h' s.toks news' _ _ hin2 hin1 F' N' ⟨_, n + 1, rfl, (hv.take _).append (.cons b (hv.drop _)), ?_⟩) rfl
            simp; omega
      · exact p.elim
    · -- pop
      rename_i vs k e
      split at p
      · rename_i hk
        split at p
        · rename_i v ev
          cases va with
          | cons a r =>
            cases r
            obtain ⟨u, rfl⟩ := a
            obtain ⟨o, g, vs', n, rfl, hv, hz'⟩ := t.obj i _ c e hc
            obtain ⟨mm, F, N, back⟩ := t.ledPut hc
            obtain ⟨v', e1, e2⟩ := hv.get ev
            obtain ⟨news', U, hin1, hin2⟩ := upd_of (listOf (vs'.take k.toNat ++ vs'.drop (k.toNat + 1)).toArray (n + 1)) (ledOf_nodup (hp := s.heap) t.adrNd) (mem_ledOf (t.inAdr hc) g)
            have hlen := hv.length
            refine kl_popAt (i := k) (k := k.toNat) F N (by unfold Builtin.List.listFitsIndex; simp; omega) ?_ (by simpa using cut_of e1) U (by simp; exact Nat.le_trans (by omega) (show 200000 ≤ sizeLine by decide))
              fun h' F' N' => p _ _ _ (List.prefix_refl _) (back h' s.toks news' _ _ hin2 hin1 F' N' ⟨_, n + 1, rfl, ?_, ?_⟩) e2
            · unfold seqIndex?
              simp only [List.size_toArray]
              rw [if_neg (show ¬ k < 0 by omega), if_pos (by simp; omega)]
            · rw [List.eraseIdx_eq_take_drop_succ]; exact (hv.take _).append (hv.drop _)
            · have := List.length_eraseIdx_le vs k.toNat
              omega
        · exact p.elim
      · exact p.elim
    · -- index
      rename_i vs k e
      split at p
      · rename_i ns en
        split at p
        · rename_i hk
          cases va with
          | cons a r =>
            cases r
            obtain ⟨u, rfl⟩ := a
            obtain ⟨o, g, vs', n, rfl, hv, hz'⟩ := t.obj i _ c e hc
            have hi := hv.ints en
            have hlen := hi.length
            have hlen2 := hv.length
            have hj : ns.idxOf k < ns.length := List.idxOf_lt_length_iff.mpr hk
            refine call_meets PySem.F.slot_list_index ⟨_, g, rfl⟩ PySem.F.entry_list_index (PySem.F.args_list_index_2 _ _)
              (SeqAt.list_indexAt c vs'.toArray n none #[] (.int k u) (isInt k) (ns.idxOf k) (by simpa [hlen] using hj) (by omega) ?_ ?_) ⟨g, fun y hy => (eq_isInt k u hi y (by simpa using hy)).at _ _, p _ _ _ (List.prefix_refl _) (t.toks _) ⟨_, rfl⟩⟩
            · show isInt k vs'[ns.idxOf k] = true
              rw [isInt_at k hi _ (by omega) hj]
              simpa using List.getElem_idxOf hj
            · intro j hjs hlt
              show isInt k vs'[j] = false
              rw [isInt_at k hi j (by simpa using hjs) (by omega)]
              exact ne_of_lt_idxOf hlt _
        · exact p.elim
      · exact p.elim
    · -- clear
      rename_i vs e
      cases va
      obtain ⟨o, g, vs', n, rfl, hv, hz'⟩ := t.obj i _ c e hc
      obtain ⟨mm, F, N, back⟩ := t.ledPut hc
      have hlen := hv.length
      by_cases he : vs' = []
      · subst he
        obtain ⟨news', U, hin1, hin2⟩ := upd_of (listOf #[] n) (ledOf_nodup (hp := s.heap) t.adrNd) (mem_ledOf (t.inAdr hc) g)
        obtain ⟨pre, post, e1, rfl, a, b⟩ := U.split
        rw [e1] at N
        have z := N (c, listOf [].toArray n) (List.mem_append.mpr (.inr (.head _)))
        refine call_meets PySem.F.slot_list_clear ⟨_, z.1, rfl⟩ PySem.F.entry_list_clear (PySem.F.args_list_clear_1 _) (PySem.AutoSeq1.list_clear_list_0 c #[] n (by simp)) ⟨z.1, p _ _ _ (List.prefix_refl _) ?_ rfl⟩
        exact back _ s.toks _ _ _ hin2 hin1 (F.change (Heap.SameBut.update ..) z.2.1 z.2.2) (kl_turn0 (fun _ => #[]) N a b rfl rfl) ⟨[], n, rfl, .nil, by simp⟩
      · obtain ⟨news', U, hin1, hin2⟩ := upd_of (listOf #[] (n + 1)) (ledOf_nodup (hp := s.heap) t.adrNd) (mem_ledOf (t.inAdr hc) g)
        exact kl_clear F N U (by simpa using he) (by simp; exact Nat.le_trans (by omega) (show 200000 ≤ sizeLine by decide)) fun h' F' N' => p _ _ _ (List.prefix_refl _) (back h' s.toks news' _ _ hin2 hin1 F' N' ⟨[], n + 1, rfl, .nil, by simp⟩) rfl
    · -- pop of a dict
      rename_i ks k e
      split at p
      · rename_i hk
        cases va with
        | cons a r =>
          cases r
          obtain ⟨u, rfl⟩ := a
          obtain ⟨o, g, r, hz⟩ := t.obj i _ c e hc
          have hD : s.heap.DictOf (intKind Γ.prog Γ.w) c _ := Heap.dictOf_iff.mpr ⟨o, g, r⟩
          refine call_meetsIn PySem.F.slot_dict_pop hD.typeIs PySem.F.entry_dict_pop (PySem.F.args_dict_pop_2 _ _) (meets_dict_pop_there (intKind Γ.prog Γ.w) c (intKind_is _ _ k u) [] (.inl rfl) rfl)
            ⟨_, _, hD, by simp; exact Nat.le_trans hz (by decide), valueAt_true hk, fun h' hm hs => p _ _ _ (List.prefix_refl _) ?_ rfl⟩
          obtain ⟨o', g', r'⟩ := Heap.dictOf_iff.mp hm
          refine t.put (by rw [t.sh]) hc (fun b ob hb e => (hs.2 b hb).trans e) g' ⟨by rw [without_filter] at r'; exact r', ?_⟩
          exact Nat.le_trans (List.length_filter_le _ _) hz
      · exact p.elim
    · exact p.elim
  | _ => exact p.elim

theorem sim_isinst {sub : Nat → Nat → Bool} {ty : TY} {x : AV} {x' : Value} (t : At Γ f hid ρ l h s) (vx : VR ρ x x') (T : String) (hT : T = "int" ∧ ty = .int ∨ T = "bool" ∧ ty = .bool ∨ T = "list" ∧ ty = .list ∨ T = "tuple" ∧ ty = .tup)
    (p : Post (isinstop sub ty x h) (OKQ Γ f hid ρ l Q) ex) : wpAny (model Γ.prog Γ.w) f.A (call (.builtin "isinstance") [x', .type T]) Q E s := by
  have ref : ∀ {i : Nat}, Post (isinstop sub ty (.ref i) h) (OKQ Γ f hid ρ l Q) ex → (∃ vs, h[i]? = some (.list vs) ∧ ty = .list ∧ OKQ Γ f hid ρ l Q (.bool true) h) ∨ (∃ vs, h[i]? = some (.tup vs) ∧ ty = .tup ∧ OKQ Γ f hid ρ l Q (.bool true) h) ∨ (ty ≠ .int ∧ ty ≠ .bool ∧ ty ≠ .list ∧ ty ≠ .tup) := by
    intro i p
    simp only [isinstop] at p
    cases q : h[i]? with
    | none => rw [q] at p; exact p.elim
    | some o =>
      rw [q] at p
      cases o with
      | list vs => cases ty <;> first | exact p.elim | exact .inl ⟨vs, rfl, rfl, p⟩
      | tup vs => cases ty <;> first | exact p.elim | exact .inr (.inl ⟨vs, rfl, rfl, p⟩)
      | exc c => cases ty <;> first | exact p.elim | exact .inr (.inr ⟨nofun, nofun, nofun, nofun⟩)
      | _ => cases ty <;> exact p.elim
  cases x with
  | int i =>
    obtain ⟨u, rfl⟩ := vx
    rcases hT with ⟨rfl, rfl⟩ | ⟨rfl, rfl⟩ | ⟨rfl, rfl⟩ | ⟨rfl, rfl⟩
    · exact PySem.IsiPair.int_int (p _ _ _ (List.prefix_refl _) t rfl)
    · exact PySem.IsiPair.int_bool (p _ _ _ (List.prefix_refl _) (t.toks _) rfl)
    · exact p.elim
    · exact p.elim
  | bool b =>
    cases vx
    rcases hT with ⟨rfl, rfl⟩ | ⟨rfl, rfl⟩ | ⟨rfl, rfl⟩ | ⟨rfl, rfl⟩
    · exact p.elim
    · exact PySem.IsiPair.bool_bool (p _ _ _ (List.prefix_refl _) t rfl)
    · exact p.elim
    · exact p.elim
  | ref i =>
    obtain ⟨c, hc, rfl⟩ := vx
    rcases ref p with ⟨vs, e, rfl, p'⟩ | ⟨vs, e, rfl, p'⟩ | ⟨n1, n2, n3, n4⟩
    · obtain ⟨o, g, vs', n, rfl, hv, hz'⟩ := t.obj i _ c e hc
      rcases hT with ⟨_, z⟩ | ⟨_, z⟩ | ⟨rfl, _⟩ | ⟨_, z⟩
      · cases z
      · cases z
      · exact PySem.IsiPair.list_list g rfl (p' _ _ _ (List.prefix_refl _) t rfl)
      · cases z
    · obtain ⟨o, g, vs', n, rfl, hv, hz'⟩ := t.obj i _ c e hc
      rcases hT with ⟨_, z⟩ | ⟨_, z⟩ | ⟨_, z⟩ | ⟨rfl, _⟩
      · cases z
      · cases z
      · cases z
      · exact PySem.IsiPair.tuple_tuple g rfl (p' _ _ _ (List.prefix_refl _) t rfl)
    · rcases hT with ⟨_, z⟩ | ⟨_, z⟩ | ⟨_, z⟩ | ⟨_, z⟩
      · exact absurd z n1
      · exact absurd z n2
      · exact absurd z n3
      · exact absurd z n4
  | none => exact p.elim
  | str _ => exact p.elim
end
end Sk


namespace Sk
open PySem PySem.Calls PySem.W PyProof.Rows PySem.Spec

/-! ## which expression a mini-expression stands for -/
structure Sc where
  names : List (Str × NameKind)
  slots : List (Option Str)

noncomputable def glb (sc : Sc) (x : Str) : Bool := sc.names.lookup x == some .globalImplicit && (x == ("__debug__" : Str)) == false
noncomputable def isBase : Expr → Bool
  | .Name .. => true | .Attribute .. => true | .Subscript .. => true | _ => false
noncomputable def bfName : BF → Str
  | .len => "len" | .list => "list" | .listRange => "list" | .sorted => "sorted" | .int => "int" | .min => "min" | .max => "max" | .max1 => "max" | .all => "all"
noncomputable def tyName (tx : Tx) : TY → Option Str
  | .int => some "int" | .bool => some "bool" | .list => some "list" | .tup => some "tuple" | .valueError => some "ValueError" | .own c => tx.clsName c
noncomputable def relNames (sc : Sc) (names : List (Str × NameKind)) : List (Str × NameKind) :=
  names.map fun (n, k) => if k == .free && true && sc.names.lookup n == some .cell then (n, .cell) else (n, k)
noncomputable def innerSc (sc : Sc) (x : Str) (names : List (Str × NameKind)) : Sc :=
  ⟨relNames sc names, sc.slots.map (fun o => o.filter fun y => (relNames sc names).lookup y == some .cell) ++ [some x]⟩
noncomputable def compOk (sc : Sc) (x : Str) (scope : Scope) : Bool :=
  scope.kind == .function && scope.names.lookup x == some .local && (scope.names.all fun p => p.2 != .cell && (p.2 != .local || scope.names.lookup p.1 == some .local) && (p.2 != .free || sc.names.lookup p.1 == some .cell)) && ((scope.names.map (·.1)).Nodup : Bool)

/-- the arguments that stand behind a loop's iterable -/
noncomputable def itArgs (sc : Sc) (ik : IK) (e : Expr) : Option (List Expr) := match ik with
  | .val => some [e]
  | .range1 => (match e with | .Call (.Name x _) args [] _ => if x == "range" && glb sc x && args.length == 1 then some args else Option.none | _ => Option.none)
  | .range3 => (match e with | .Call (.Name x _) args [] _ => if x == "range" && glb sc x && args.length == 3 then some args else Option.none | _ => Option.none)
  | .enum => Option.none
  | .rev => (match e with | .Call (.Name x _) args [] _ => if x == "reversed" && glb sc x && args.length == 1 then some args else Option.none | _ => Option.none)

section
variable (tx : Tx)
mutual
noncomputable def mtE (sc : Sc) : CE → Expr → Bool
  | .none, e => match e with | .Constant .none _ _ => true | _ => false
  | .bool b, e => match e with | .Constant (.bool c) _ _ => b == c | _ => false
  | .int i, e => match e with | .Constant (.int j) _ _ => i == j | _ => false
  | .pow a n, e => match e with | .BinOp (.Constant (.int i) _ _) .Pow (.Constant (.int j) _ _) _ => i == (a : Int) && j == (n : Int) && decide ((Builtin.Int.intBits i : Int) * j ≤ 2 ^ 27) | _ => false
  | .loc k, e => match e with | .Name x _ => sc.slots[k]? == some (some x) && (x == ("__debug__" : Str)) == false | _ => false
  | .bin op a b, e => match e with | .BinOp l o r _ => o == pyOp op && mtE sc a l && mtE sc b r | _ => false
  | .neg a, e => match e with | .UnaryOp .USub x _ => mtE sc a x | _ => false
  | .not a, e => match e with | .UnaryOp .Not x _ => mtE sc a x | _ => false
  | .and a b, e => match e with
    | .BoolOp .And [e₁, e₂] _ => mtE sc a e₁ && mtE sc b e₂
    | .BoolOp .And (e₁ :: e₂ :: e₃ :: rest) pos => mtE sc a e₁ && mtE sc b (.BoolOp .And (e₂ :: e₃ :: rest) pos)
    | _ => false
  | .or a b, e => match e with
    | .BoolOp .Or [e₁, e₂] _ => mtE sc a e₁ && mtE sc b e₂
    | .BoolOp .Or (e₁ :: e₂ :: e₃ :: rest) pos => mtE sc a e₁ && mtE sc b (.BoolOp .Or (e₂ :: e₃ :: rest) pos)
    | _ => false
  | .cmp op a b, e => match e with | .Compare l [o] [r] _ => o == pyCmp op && mtE sc a l && mtE sc b r && behindInMarks o r == false | _ => false
  | .isC neg a c, e => match e with
    | .Compare l [o] [.Constant k _ _] _ => o == (if neg then .IsNot else .Is) && mtE sc a l && (match k, c with | .none, Option.none => true | .bool b, some d => b == d | _, _ => false)
    | _ => false
  | .isin neg a b, e => match e with | .Compare l [o] [r] _ => o == (if neg then .NotIn else .In) && mtE sc a l && mtE sc b r && behindInMarks o r == false | _ => false
  | .chain a o₁ b o₂ c, e => match e with
    | .Compare l [p₁, p₂] [r₁, r₂] _ => p₁ == pyCmp o₁ && p₂ == pyCmp o₂ && mtE sc a l && mtE sc b r₁ && mtE sc c r₂ && lastMarks [p₁, p₂] [r₁, r₂] == false
    | _ => false
  | .attr a n, e => match e with | .Attribute v x _ => tx.attr n == some x && isBase v && mtE sc a v | _ => false
  | .item a i, e => match e with | .Subscript v sl _ => mtE sc a v && mtE sc i sl | _ => false
  | .slice a lo hi st, e => match e with
    | .Subscript v (.Slice l u t _) _ => mtE sc a v && (match l with | Option.none => (match lo with | .none => true | _ => false) | some l => mtE sc lo l) && (match u with | Option.none => (match hi with | .none => true | _ => false) | some u => mtE sc hi u) &&
        (match t with | Option.none => st == 0 | some (.Constant (.int k) _ _) => k == (st : Int) && st != 0 | _ => false)
    | _ => false
  | .list es, e => match e with | .List elts _ => mtEs sc es elts | _ => false
  | .tup es, e => match e with | .Tuple elts _ _ => mtEs sc es elts | _ => false
  | .dict0, e => match e with | .Dict [] [] _ => true | _ => false
  | .call f es, e => match e with | .Call (.Name x _) args [] _ => tx.fnName f == some x && glb sc x && mtEs sc es args | _ => false
  | .new c es, e => match e with | .Call (.Name x _) args [] _ => tx.clsName c == some x && glb sc x && mtEs sc es args | _ => false
  | .meth a m es, e => match e with | .Call (.Attribute o x apos) args [] pos => tx.mth m == some x && isBase o && apos.endLine == pos.line && decide (args.length < 30) && mtE sc a o && mtEs sc es args | _ => false
  | .bm m a es, e => match e with | .Call (.Attribute o x apos) args [] pos => bmName m == x && isBase o && apos.endLine == pos.line && decide (args.length < 30) && mtE sc a o && mtEs sc es args | _ => false
  | .bf b es, e => match e with
    | .Call (.Name x _) args [] _ => bfName b == x && glb sc x && (match b with
      | .listRange => (match args with | [.Call (.Name y _) args' [] _] => y == "range" && glb sc y && mtEs sc es args' | _ => false)
      | _ => mtEs sc es args)
    | _ => false
  | .isinst a t, e => match e with
    | .Call (.Name x _) [v, .Name y _] [] _ => x == "isinstance" && glb sc x && mtE sc a v && tyName tx t == some y && glb sc y
    | _ => false
  | .comp elt ik es cond, e => match e with
    | .ListComp el [⟨.Name x _, iter, ifs, 0⟩] scope _ => compOk sc x scope && (match itArgs sc ik iter with | some args => mtEs sc es args | Option.none => false) && mtE (innerSc sc x scope.names) elt el &&
        (match ifs with | [] => (match cond with | .bool true => true | _ => false) | [c] => mtE (innerSc sc x scope.names) cond c | _ => false)
    | _ => false
noncomputable def mtEs (sc : Sc) : CEs → List Expr → Bool
  | .nil, es => es.isEmpty
  | .cons c cs, es => match es with | e :: r => mtE sc c e && mtEs sc cs r | [] => false
end
noncomputable def mtIter (sc : Sc) (ik : IK) (es : CEs) (e : Expr) : Bool := match itArgs sc ik e with
  | some args => mtEs tx sc es args
  | Option.none => false
end
end Sk


namespace Sk
open PySem PySem.Calls PySem.W PyProof.Rows PySem.Spec

structure FmK (n : Nat) (f : Fm) : Prop extends FmOk f where
  room : f.A.depth + 2 * n + 2 < recursionLimit
  units : f.A.units + 16 * n + 16 < cLine

noncomputable def Fm.sc (f : Fm) : Sc := ⟨f.env.scope.names, f.slots⟩

section
variable (Γ : Cx) (Rz : Rise) (cl : CallO) (n : Nat)
noncomputable def SimV (c : CE) : Prop := ∀ (f : Fm) (e : Expr), FmK n f → mtE Γ.tx f.sc c e = true → ∀ hid ρ l h s Q E, At Γ f hid ρ l h s →
  Post (ev Γ.G cl c l h) (OKQ Γ f hid ρ l Q) (EXQ Rz f hid ρ l E) → wpAny (model Γ.prog Γ.w) f.A (eval e f.env) Q E s
noncomputable def SimT (c : CE) : Prop := ∀ (f : Fm) (e : Expr), FmK n f → mtE Γ.tx f.sc c e = true → ∀ hid ρ l h s Q E, At Γ f hid ρ l h s →
  Post (ev Γ.G cl c l h) (OKB Γ f hid ρ l Q) (EXQ Rz f hid ρ l E) → wpAny (model Γ.prog Γ.w) f.A (isTrue e f.env (eval e f.env)) Q E s
noncomputable def SimL (cs : CEs) : Prop := ∀ (f : Fm) (es : List Expr) (pos : Pos), FmK n f → mtEs Γ.tx f.sc cs es = true → ∀ hid ρ l h s Q E, At Γ f hid ρ l h s →
  Post (evs Γ.G cl cs l h) (OKL Γ f hid ρ l Q) (EXQ Rz f hid ρ l E) → wpAny (model Γ.prog Γ.w) f.A (spliced (backTo pos (starEach es f.env))) Q E s
end

theorem truthy_some {v : AV} {b : Bool} (h : truthy v = some b) : v = .bool b := by
  cases v with
  | bool c => cases h; rfl
  | _ => cases h

section
variable {Γ : Cx} {Rz : Rise} {cl : CallO} {n : Nat} {f : Fm} {hid : List (Addr × Obj)} {ρ ρ' : List Addr} {l : LOC} {h : HP} {s : Shared} {E : Value → Shared → Prop} {M : Model}

theorem OKB.toQ {Q : Bool → Shared → Prop} {v : AV} {h' : HP} (q : OKB Γ f hid ρ l Q v h') : OKQ Γ f hid ρ l (fun v' s' => wpAny M f.A (PySem.truthy v') Q E s') v h' := by
  obtain ⟨b, e, q⟩ := q
  rw [truthy_some e]
  intro v' ρ' s' pre t vr
  cases vr
  exact wpAny_truthy_bool (q ρ' s' pre t)
theorem OKB.ext {Q : Bool → Shared → Prop} {v : AV} {h : HP} (p : ρ <+: ρ') (x : OKB Γ f hid ρ l Q v h) : OKB Γ f hid ρ' l Q v h := by
  obtain ⟨b, e, q⟩ := x
  exact ⟨b, e, fun ρ'' s' q' r => q ρ'' s' (p.trans q') r⟩
theorem OKL.ext {Q : List Value → Shared → Prop} {v : List AV} {h : HP} (p : ρ <+: ρ') (x : OKL Γ f hid ρ l Q v h) : OKL Γ f hid ρ' l Q v h :=
  fun v' ρ'' s' q r t => x v' ρ'' s' (p.trans q) r t

theorem simT_of {c : CE} (hV : SimV Γ Rz cl n c) (hp : ∀ sc e env whole, mtE Γ.tx sc c e = true → isTrue e env whole = (do let v ← whole; standAt e.pos; holding [v] (PySem.truthy v))) : SimT Γ Rz cl n c := by
  intro f e ok hm hid ρ l h s Q E t p
  refine isTrue_plain (hV f e ok hm hid ρ l h s _ E t (p.mono (fun v h' q => ?_) fun _ _ x => x)) (hp f.sc e f.env _ hm)
  exact OKB.toQ q

/-- the join of two parts -/
theorem Post.thenE {α β : Type} {r : R α} {k : α → HP → R β} {okA : α → HP → Prop} {ok : β → HP → Prop} {ex : Nat → HP → Prop} (p : Post (r.bind k) ok ex) (h : ∀ a h', Post (k a h') ok ex → okA a h') : Post r okA ex :=
  (Post_bind.mp p).mono h fun _ _ x => x

theorem sim_none : SimV Γ Rz cl n .none := by
  intro f e ok hm hid ρ l h s Q E t p
  unfold mtE at hm
  split at hm
  · exact Constant_none (p _ _ _ (List.prefix_refl _) t rfl)
  · cases hm
theorem sim_bool {b : Bool} : SimV Γ Rz cl n (.bool b) := by
  intro f e ok hm hid ρ l h s Q E t p
  unfold mtE at hm
  split at hm
  · cases eq_of_beq hm; exact Constant_bool (p _ _ _ (List.prefix_refl _) t rfl)
  · cases hm
theorem sim_int {i : Int} : SimV Γ Rz cl n (.int i) := by
  intro f e ok hm hid ρ l h s Q E t p
  unfold mtE at hm
  split at hm
  · cases eq_of_beq hm; exact wpAny_Constant_int (p _ _ _ (List.prefix_refl _) (t.toks _) ⟨_, rfl⟩)
  · cases hm
theorem sim_pow {a m : Nat} : SimV Γ Rz cl n (.pow a m) := by
  intro f e ok hm hid ρ l h s Q E t p
  unfold mtE at hm
  split at hm
  · simp only [Bool.and_eq_true, decide_eq_true_eq, beq_iff_eq] at hm
    obtain ⟨⟨rfl, rfl⟩, hb⟩ := hm
    exact wpAny_BinOp (wpAny_Constant_int (wpAny_Constant_int (pow_int (by omega) hb (p _ _ _ (List.prefix_refl _) (((t.toks _).toks _).toks _) ⟨_, by simp; rfl⟩))))
  · cases hm
theorem sim_loc {k : Nat} : SimV Γ Rz cl n (.loc k) := by
  intro f e ok hm hid ρ l h s Q E t p
  unfold mtE at hm
  split at hm
  · simp only [Bool.and_eq_true, beq_iff_eq] at hm
    obtain ⟨hk, hd⟩ := hm
    unfold ev at p
    split at p
    · rename_i v hv
      exact wpAny_Name (t.read ok.toFmOk hk hv fun v' vr => p _ _ _ (List.prefix_refl _) t vr) hd
    · exact p.elim
  · cases hm
theorem sim_binE {op : Op} {a b : CE} (ha : SimV Γ Rz cl n a) (hb : SimV Γ Rz cl n b) : SimV Γ Rz cl n (.bin op a b) := by
  intro f e ok hm hid ρ l h s Q E t p
  unfold mtE at hm
  split at hm
  · simp only [Bool.and_eq_true, beq_iff_eq] at hm
    obtain ⟨⟨rfl, m1⟩, m2⟩ := hm
    unfold ev at p
    refine wpAny_BinOp (ha f _ ok m1 hid ρ l h s _ E t (p.thenE fun x h1 p1 v' ρ1 s1 pre1 t1 vr1 => ?_))
    refine hb f _ ok m2 hid ρ1 l h1 s1 _ E t1 ((Post_bind.mp p1).mono (fun y h2 p2 w' ρ2 s2 pre2 t2 vr2 => ?_) fun _ _ x => x.ext pre1)
    exact sim_bin t2 (vr1.mono pre2) vr2 (p2.mono (fun _ _ q => q.ext (pre1.trans pre2)) fun _ _ q => q)
  · cases hm
theorem sim_neg {a : CE} (ha : SimV Γ Rz cl n a) : SimV Γ Rz cl n (.neg a) := by
  intro f e ok hm hid ρ l h s Q E t p
  unfold mtE at hm
  split at hm
  · unfold ev at p
    refine UnaryOp_ (ha f _ ok hm hid ρ l h s _ E t (p.thenE fun x h1 p1 v' ρ1 s1 pre1 t1 vr1 => ?_))
    cases x with
    | int i => obtain ⟨u, rfl⟩ := vr1; exact PyProof.Rows.neg_int (p1 _ _ _ pre1 (t1.toks _) ⟨_, rfl⟩)
    | _ => exact p1.elim
  · cases hm
theorem sim_not {a : CE} (ha : SimT Γ Rz cl n a) (hv : SimV Γ Rz cl n a) : SimV Γ Rz cl n (.not a) ∧ SimT Γ Rz cl n (.not a) := by
  refine ⟨fun f e ok hm hid ρ l h s Q E t p => ?_, fun f e ok hm hid ρ l h s Q E t p => ?_⟩
  · unfold mtE at hm
    split at hm
    · unfold ev at p
      refine UnaryOp_ (hv f _ ok hm hid ρ l h s _ E t (p.thenE fun x h1 p1 v' ρ1 s1 pre1 t1 vr1 => not_of ?_))
      cases x with
      | bool b => cases vr1; exact wpAny_truthy_bool (p1 _ _ _ pre1 t1 rfl)
      | _ => exact p1.elim
    · cases hm
  · unfold mtE at hm
    split at hm
    · unfold ev at p
      refine isTrue_not (ha f _ ok hm hid ρ l h s _ E t (p.thenE fun x h1 p1 => ?_))
      cases hx : truthy x with
      | none => rw [hx] at p1; exact p1.elim
      | some b =>
        rw [hx] at p1
        obtain ⟨c, e1, q⟩ := p1
        cases e1
        exact ⟨b, hx, q⟩
    · cases hm

theorem sim_and {a b : CE} (ha : SimV Γ Rz cl n a ∧ SimT Γ Rz cl n a) (hb : SimV Γ Rz cl n b ∧ SimT Γ Rz cl n b) : SimV Γ Rz cl n (.and a b) ∧ SimT Γ Rz cl n (.and a b) := by
  have goV : ∀ (f : Fm) (e₁ e₂ : Expr) (rest : List Expr) (pos : Pos), FmK n f → mtE Γ.tx f.sc a e₁ = true → (∀ hid ρ l h s Q E, At Γ f hid ρ l h s →
      Post (ev Γ.G cl b l h) (OKQ Γ f hid ρ l Q) (EXQ Rz f hid ρ l E) → wpAny (model Γ.prog Γ.w) f.A (eval (.BoolOp .And (e₂ :: rest) pos) f.env) Q E s) → ∀ hid ρ l h s Q E, At Γ f hid ρ l h s →
      Post (ev Γ.G cl (.and a b) l h) (OKQ Γ f hid ρ l Q) (EXQ Rz f hid ρ l E) → wpAny (model Γ.prog Γ.w) f.A (eval (.BoolOp .And (e₁ :: e₂ :: rest) pos) f.env) Q E s := by
    intro f e₁ e₂ rest pos ok m1 m2 hid ρ l h s Q E t p
    unfold ev at p
    refine BoolOp_and (ha.1 f _ ok m1 hid ρ l h s _ E t (p.thenE fun x h1 p1 v' ρ1 s1 pre1 t1 vr1 => ?_))
    cases x with
    | bool c =>
      cases vr1
      cases c with
      | true => exact wpAny_truthy_bool (by rw [if_pos rfl]; exact m2 hid ρ1 l h1 s1 _ E t1 (Post.mono p1 (fun _ _ q => q.ext pre1) fun _ _ q => q.ext pre1))
      | false => exact wpAny_truthy_bool (by rw [if_neg (by decide)]; exact p1 _ _ _ pre1 t1 rfl)
    | _ => exact p1.elim
  have goT : ∀ (f : Fm) (e₁ : Expr) (rest : List Expr) (pos : Pos) (whole : Sem Value), FmK n f → mtE Γ.tx f.sc a e₁ = true → (∀ hid ρ l h s Q E, At Γ f hid ρ l h s →
      Post (ev Γ.G cl b l h) (OKB Γ f hid ρ l Q) (EXQ Rz f hid ρ l E) → wpAny (model Γ.prog Γ.w) f.A (isTrue (.BoolOp .And rest pos) f.env whole) Q E s) → ∀ hid ρ l h s Q E, At Γ f hid ρ l h s →
      Post (ev Γ.G cl (.and a b) l h) (OKB Γ f hid ρ l Q) (EXQ Rz f hid ρ l E) → wpAny (model Γ.prog Γ.w) f.A (isTrue (.BoolOp .And (e₁ :: rest) pos) f.env whole) Q E s := by
    intro f e₁ rest pos whole ok m1 m2 hid ρ l h s Q E t p
    unfold ev at p
    refine isTrue_and (ha.2 f _ ok m1 hid ρ l h s _ E t (p.thenE fun x h1 p1 => ?_))
    cases hx : truthy x with
    | none => rw [hx] at p1; exact p1.elim
    | some c =>
      rw [hx] at p1
      refine ⟨c, hx, fun ρ1 s1 pre1 t1 => ?_⟩
      cases c with
      | true => rw [if_pos rfl]; exact m2 hid ρ1 l h1 s1 _ E t1 (Post.mono p1 (fun _ _ q => q.ext pre1) fun _ _ q => q.ext pre1)
      | false =>
        rw [if_neg (by decide)]
        obtain ⟨d, e1, q⟩ := p1
        rw [hx] at e1; cases e1
        exact q _ _ pre1 t1
  refine ⟨fun f e ok hm hid ρ l h s Q E t p => ?_, fun f e ok hm hid ρ l h s Q E t p => ?_⟩
  · unfold mtE at hm
    split at hm
    · simp only [Bool.and_eq_true] at hm
      exact goV f _ _ [] _ ok hm.1 (fun hid ρ l h s Q E t p => BoolOp_one (hb.1 f _ ok hm.2 hid ρ l h s Q E t p)) hid ρ l h s Q E t p
    · simp only [Bool.and_eq_true] at hm
      exact goV f _ _ (_ :: _) _ ok hm.1 (fun hid ρ l h s Q E t p => hb.1 f _ ok hm.2 hid ρ l h s Q E t p) hid ρ l h s Q E t p
    · cases hm
  · unfold mtE at hm
    split at hm
    · simp only [Bool.and_eq_true] at hm
      refine goT f _ [_] _ _ ok hm.1 (fun hid ρ l h s Q E t p => isTrue_and (hb.2 f _ ok hm.2 hid ρ l h s _ E t (p.mono (fun v h' q => ?_) fun _ _ x => x))) hid ρ l h s Q E t p
      obtain ⟨c, e1, q⟩ := q
      refine ⟨c, e1, fun ρ1 s1 pre1 t1 => ?_⟩
      cases c with
      | true => rw [if_pos rfl]; exact isTrue_and_nil (q _ _ pre1 t1)
      | false => rw [if_neg (by decide)]; exact q _ _ pre1 t1
    · simp only [Bool.and_eq_true] at hm
      exact goT f _ (_ :: _ :: _) _ _ ok hm.1 (fun hid ρ l h s Q E t p => hb.2 f _ ok hm.2 hid ρ l h s Q E t p) hid ρ l h s Q E t p
    · cases hm

theorem sim_or {a b : CE} (ha : SimV Γ Rz cl n a ∧ SimT Γ Rz cl n a) (hb : SimV Γ Rz cl n b ∧ SimT Γ Rz cl n b) : SimV Γ Rz cl n (.or a b) ∧ SimT Γ Rz cl n (.or a b) := by
  have goV : ∀ (f : Fm) (e₁ e₂ : Expr) (rest : List Expr) (pos : Pos), FmK n f → mtE Γ.tx f.sc a e₁ = true → (∀ hid ρ l h s Q E, At Γ f hid ρ l h s →
      Post (ev Γ.G cl b l h) (OKQ Γ f hid ρ l Q) (EXQ Rz f hid ρ l E) → wpAny (model Γ.prog Γ.w) f.A (eval (.BoolOp .Or (e₂ :: rest) pos) f.env) Q E s) → ∀ hid ρ l h s Q E, At Γ f hid ρ l h s →
      Post (ev Γ.G cl (.or a b) l h) (OKQ Γ f hid ρ l Q) (EXQ Rz f hid ρ l E) → wpAny (model Γ.prog Γ.w) f.A (eval (.BoolOp .Or (e₁ :: e₂ :: rest) pos) f.env) Q E s := by
    intro f e₁ e₂ rest pos ok m1 m2 hid ρ l h s Q E t p
    unfold ev at p
    refine BoolOp_or (ha.1 f _ ok m1 hid ρ l h s _ E t (p.thenE fun x h1 p1 v' ρ1 s1 pre1 t1 vr1 => ?_))
    cases x with
    | bool c =>
      cases vr1
      cases c with
      | false => exact wpAny_truthy_bool (by rw [if_neg (by decide)]; exact m2 hid ρ1 l h1 s1 _ E t1 (Post.mono p1 (fun _ _ q => q.ext pre1) fun _ _ q => q.ext pre1))
      | true => exact wpAny_truthy_bool (by rw [if_pos rfl]; exact p1 _ _ _ pre1 t1 rfl)
    | _ => exact p1.elim
  have goT : ∀ (f : Fm) (e₁ : Expr) (rest : List Expr) (pos : Pos) (whole : Sem Value), FmK n f → mtE Γ.tx f.sc a e₁ = true → (∀ hid ρ l h s Q E, At Γ f hid ρ l h s →
      Post (ev Γ.G cl b l h) (OKB Γ f hid ρ l Q) (EXQ Rz f hid ρ l E) → wpAny (model Γ.prog Γ.w) f.A (isTrue (.BoolOp .Or rest pos) f.env whole) Q E s) → ∀ hid ρ l h s Q E, At Γ f hid ρ l h s →
      Post (ev Γ.G cl (.or a b) l h) (OKB Γ f hid ρ l Q) (EXQ Rz f hid ρ l E) → wpAny (model Γ.prog Γ.w) f.A (isTrue (.BoolOp .Or (e₁ :: rest) pos) f.env whole) Q E s := by
    intro f e₁ rest pos whole ok m1 m2 hid ρ l h s Q E t p
    unfold ev at p
    refine isTrue_or (ha.2 f _ ok m1 hid ρ l h s _ E t (p.thenE fun x h1 p1 => ?_))
    cases hx : truthy x with
    | none => rw [hx] at p1; exact p1.elim
    | some c =>
      rw [hx] at p1
      refine ⟨c, hx, fun ρ1 s1 pre1 t1 => ?_⟩
      cases c with
      | false => rw [if_neg (by decide)]; exact m2 hid ρ1 l h1 s1 _ E t1 (Post.mono p1 (fun _ _ q => q.ext pre1) fun _ _ q => q.ext pre1)
      | true =>
        rw [if_pos rfl]
        obtain ⟨d, e1, q⟩ := p1
        rw [hx] at e1; cases e1
        exact q _ _ pre1 t1
  refine ⟨fun f e ok hm hid ρ l h s Q E t p => ?_, fun f e ok hm hid ρ l h s Q E t p => ?_⟩
  · unfold mtE at hm
    split at hm
    · simp only [Bool.and_eq_true] at hm
      exact goV f _ _ [] _ ok hm.1 (fun hid ρ l h s Q E t p => BoolOp_one (hb.1 f _ ok hm.2 hid ρ l h s Q E t p)) hid ρ l h s Q E t p
    · simp only [Bool.and_eq_true] at hm
      exact goV f _ _ (_ :: _) _ ok hm.1 (fun hid ρ l h s Q E t p => hb.1 f _ ok hm.2 hid ρ l h s Q E t p) hid ρ l h s Q E t p
    · cases hm
  · unfold mtE at hm
    split at hm
    · simp only [Bool.and_eq_true] at hm
      refine goT f _ [_] _ _ ok hm.1 (fun hid ρ l h s Q E t p => isTrue_or (hb.2 f _ ok hm.2 hid ρ l h s _ E t (p.mono (fun v h' q => ?_) fun _ _ x => x))) hid ρ l h s Q E t p
      obtain ⟨c, e1, q⟩ := q
      refine ⟨c, e1, fun ρ1 s1 pre1 t1 => ?_⟩
      cases c with
      | true => rw [if_pos rfl]; exact q _ _ pre1 t1
      | false => rw [if_neg (by decide)]; exact isTrue_or_nil (q _ _ pre1 t1)
    · simp only [Bool.and_eq_true] at hm
      exact goT f _ (_ :: _ :: _) _ _ ok hm.1 (fun hid ρ l h s Q E t p => hb.2 f _ ok hm.2 hid ρ l h s Q E t p) hid ρ l h s Q E t p
    · cases hm
end
end Sk


namespace Sk
open PySem PySem.Calls PySem.W PyProof.Rows PySem.Spec

theorem mt_star {tx : Tx} {sc : Sc} {c : CE} {e : Expr} (h : mtE tx sc c e = true) (r : List Expr) (env : Env) : starEach (e :: r) env = (false, eval e env) :: starEach r env := by
  cases e with
  | Starred v p => cases c <;> simp [mtE] at h
  | _ => rfl
theorem mts_plain {tx : Tx} {sc : Sc} (pos : Pos) (env : Env) : ∀ {cs : CEs} {es : List Expr}, mtEs tx sc cs es = true → (backTo pos (starEach es env)).any (·.1) = false
  | .nil, es, h => by
    unfold mtEs at h
    cases es with
    | nil => rfl
    | cons _ _ => cases h
  | .cons c cs, [], h => by unfold mtEs at h; cases h
  | .cons c cs, e :: r, h => by
    unfold mtEs at h
    simp only [Bool.and_eq_true] at h
    rw [mt_star h.1]
    show (false || (backTo pos (starEach r env)).any (·.1)) = false
    rw [mts_plain pos env h.2]; rfl
theorem mts_length {tx : Tx} {sc : Sc} : ∀ {cs : CEs} {es : List Expr}, mtEs tx sc cs es = true → True := fun _ => trivial

section
variable {Γ : Cx} {Rz : Rise} {cl : CallO} {n : Nat} {f : Fm} {hid : List (Addr × Obj)} {ρ ρ' : List Addr} {l : LOC} {h : HP} {s : Shared} {E : Value → Shared → Prop} {M : Model}

theorem At.glob (t : At Γ f hid ρ l h s) (ok : FmOk f) (cx : CxOk Γ) {x : Str} {v : Value} {pos : Pos} {Q : Value → Shared → Prop} (hg : glb f.sc x = true) (hv : Γ.mg x = some v) (hq : Q v s) : wpAny M f.A (eval (.Name x pos) f.env) Q E s := by
  unfold glb at hg
  simp only [Bool.and_eq_true, beq_iff_eq] at hg
  exact Name_function_global ok.kind hg.1 (loadGlobal_global (by rw [ok.glob]; exact cx.g.keeps t.keepBase) hv hq) (by simpa using hg.2)
theorem At.blt (t : At Γ f hid ρ l h s) (ok : FmOk f) (cx : CxOk Γ) (cf : CxFn Γ) {x : Str} {v : Value} {pos : Pos} {Q : Value → Shared → Prop} (hg : glb f.sc x = true) (hx : x ∈ bltNames) (hn : x ≠ "__name__") (hv : bootBuiltins x = some v) (hq : Q v s) : wpAny M f.A (eval (.Name x pos) f.env) Q E s := by
  unfold glb at hg
  simp only [Bool.and_eq_true, beq_iff_eq] at hg
  exact Name_function_global ok.kind hg.1 (loadGlobal_builtin (by rw [ok.glob]; exact cx.g.keeps t.keepBase) (cf.blt x hx) (by rw [ok.blt]; exact cx.b.keeps t.keepBase) ((cx.bts x hn).trans hv) hq) (by simpa using hg.2)

theorem simL_nil : SimL Γ Rz cl n .nil := by
  intro f es pos ok hm hid ρ l h s Q E t p
  unfold mtEs at hm
  cases es with
  | nil => exact spliced_nil (p _ _ _ (List.prefix_refl _) t .nil)
  | cons _ _ => cases hm
theorem simL_cons {c : CE} {cs : CEs} (hc : SimV Γ Rz cl n c) (hcs : SimL Γ Rz cl n cs) : SimL Γ Rz cl n (.cons c cs) := by
  intro f es pos ok hm hid ρ l h s Q E t p
  cases es with
  | nil => unfold mtEs at hm; cases hm
  | cons e r =>
    unfold mtEs at hm
    simp only [Bool.and_eq_true] at hm
    unfold evs at p
    rw [mt_star hm.1]
    refine spliced_cons (hc f e ok hm.1 hid ρ l h s _ E t (p.thenE fun x h1 p1 v' ρ1 s1 pre1 t1 vr1 => ?_))
    refine hcs f r pos ok hm.2 hid ρ1 l h1 s1 _ E t1 ((Post_bind.mp p1).mono (fun ys h2 p2 ws ρ2 s2 pre2 t2 vr2 => ?_) fun _ _ x => x.ext pre1)
    exact p2 _ _ _ (pre1.trans pre2) t2 (.cons (vr1.mono pre2) vr2)

/-! comparisons -/
theorem sim_cmpE {op : COp} {a b : CE} (ha : SimV Γ Rz cl n a) (hb : SimV Γ Rz cl n b) : SimV Γ Rz cl n (.cmp op a b) ∧ SimT Γ Rz cl n (.cmp op a b) := by
  have core : ∀ (f : Fm) (l₁ r₁ : Expr), FmK n f → mtE Γ.tx f.sc a l₁ = true → mtE Γ.tx f.sc b r₁ = true → ∀ hid ρ l h s Q E, At Γ f hid ρ l h s → Post (ev Γ.G cl (.cmp op a b) l h) (OKQ Γ f hid ρ l Q) (EXQ Rz f hid ρ l E) →
      wpAny (model Γ.prog Γ.w) f.A (eval l₁ f.env) (fun a s₁ => wpAny (model Γ.prog Γ.w) f.A (eval r₁ f.env) (fun b s₂ => wpAny (model Γ.prog Γ.w) f.A (compareOp (pyCmp op) a b) Q E s₂) E s₁) E s := by
    intro f l₁ r₁ ok m1 m2 hid ρ l h s Q E t p
    unfold ev at p
    refine ha f _ ok m1 hid ρ l h s _ E t (p.thenE fun x h1 p1 v' ρ1 s1 pre1 t1 vr1 => ?_)
    refine hb f _ ok m2 hid ρ1 l h1 s1 _ E t1 ((Post_bind.mp p1).mono (fun y h2 p2 w' ρ2 s2 pre2 t2 vr2 => ?_) fun _ _ x => x.ext pre1)
    exact sim_cmp t2 (by have := ok.units; omega) (vr1.mono pre2) vr2 (p2.mono (fun _ _ q => q.ext (pre1.trans pre2)) fun _ _ q => q)
  refine ⟨fun f e ok hm hid ρ l h s Q E t p => ?_, fun f e ok hm hid ρ l h s Q E t p => ?_⟩
  all_goals
    unfold mtE at hm
    split at hm
    · simp only [Bool.and_eq_true, beq_iff_eq] at hm
      obtain ⟨⟨⟨rfl, m1⟩, m2⟩, m3⟩ := hm
      first
        | exact wpAny_Compare1 (core f _ _ ok m1 m2 hid ρ l h s Q E t p) m3
        | exact wpAny_isTrue_Compare1 (core f _ _ ok m1 m2 hid ρ l h s _ E t (p.mono (fun _ _ q => OKB.toQ q) fun _ _ x => x)) m3
    · cases hm

theorem sim_isinE {neg : Bool} {a b : CE} (cx : CxOk Γ) (cf : CxFn Γ) (ha : SimV Γ Rz cl n a) (hb : SimV Γ Rz cl n b) : SimV Γ Rz cl n (.isin neg a b) ∧ SimT Γ Rz cl n (.isin neg a b) := by
  have core : ∀ (f : Fm) (l₁ r₁ : Expr), FmK n f → mtE Γ.tx f.sc a l₁ = true → mtE Γ.tx f.sc b r₁ = true → ∀ hid ρ l h s Q E, At Γ f hid ρ l h s → Post (ev Γ.G cl (.isin neg a b) l h) (OKQ Γ f hid ρ l Q) (EXQ Rz f hid ρ l E) →
      wpAny (model Γ.prog Γ.w) f.A (eval l₁ f.env) (fun a s₁ => wpAny (model Γ.prog Γ.w) f.A (eval r₁ f.env) (fun b s₂ => wpAny (model Γ.prog Γ.w) f.A (compareOp (if neg then .NotIn else .In) a b) Q E s₂) E s₁) E s := by
    intro f l₁ r₁ ok m1 m2 hid ρ l h s Q E t p
    unfold ev at p
    refine ha f _ ok m1 hid ρ l h s _ E t (p.thenE fun x h1 p1 v' ρ1 s1 pre1 t1 vr1 => ?_)
    refine hb f _ ok m2 hid ρ1 l h1 s1 _ E t1 ((Post_bind.mp p1).mono (fun y h2 p2 w' ρ2 s2 pre2 t2 vr2 => ?_) fun _ _ x => x.ext pre1)
    exact sim_in t2 cx cf.sysm (vr1.mono pre2) vr2 (p2.mono (fun _ _ q => q.ext (pre1.trans pre2)) fun _ _ q => q)
  refine ⟨fun f e ok hm hid ρ l h s Q E t p => ?_, fun f e ok hm hid ρ l h s Q E t p => ?_⟩
  all_goals
    unfold mtE at hm
    split at hm
    · simp only [Bool.and_eq_true, beq_iff_eq] at hm
      obtain ⟨⟨⟨rfl, m1⟩, m2⟩, m3⟩ := hm
      first
        | exact wpAny_Compare1 (core f _ _ ok m1 m2 hid ρ l h s Q E t p) m3
        | exact wpAny_isTrue_Compare1 (core f _ _ ok m1 m2 hid ρ l h s _ E t (p.mono (fun _ _ q => OKB.toQ q) fun _ _ x => x)) m3
    · cases hm

theorem sim_isE {neg : Bool} {a : CE} {c : Option Bool} (ha : SimV Γ Rz cl n a) : SimV Γ Rz cl n (.isC neg a c) ∧ SimT Γ Rz cl n (.isC neg a c) := by
  have core : ∀ (f : Fm) (l₁ : Expr) (k : Const) (i : Nat) (pos : Pos), FmK n f → mtE Γ.tx f.sc a l₁ = true → (match k, c with | .none, Option.none => true | .bool b, some d => b == d | _, _ => false) = true → ∀ hid ρ l h s Q E, At Γ f hid ρ l h s → Post (ev Γ.G cl (.isC neg a c) l h) (OKQ Γ f hid ρ l Q) (EXQ Rz f hid ρ l E) →
      wpAny (model Γ.prog Γ.w) f.A (eval l₁ f.env) (fun a s₁ => wpAny (model Γ.prog Γ.w) f.A (eval (.Constant k i pos) f.env) (fun b s₂ => wpAny (model Γ.prog Γ.w) f.A (compareOp (if neg then .IsNot else .Is) a b) Q E s₂) E s₁) E s := by
    intro f l₁ k i pos ok m1 m2 hid ρ l h s Q E t p
    unfold ev at p
    refine ha f _ ok m1 hid ρ l h s _ E t (p.thenE fun x h1 p1 v' ρ1 s1 pre1 t1 vr1 => ?_)
    have q := sim_is (E := E) t1 vr1 (p1.mono (fun _ _ q => OKQ.ext pre1 q) fun _ _ q => q)
    cases c with
    | none =>
      cases k with
      | none => exact Constant_none q
      | _ => cases m2
    | some d =>
      cases k with
      | bool b => cases eq_of_beq m2; exact Constant_bool q
      | _ => cases m2
  refine ⟨fun f e ok hm hid ρ l h s Q E t p => ?_, fun f e ok hm hid ρ l h s Q E t p => ?_⟩
  all_goals
    unfold mtE at hm
    split at hm
    · rw [Bool.and_eq_true, Bool.and_eq_true, beq_iff_eq] at hm
      obtain ⟨⟨rfl, m1⟩, m2⟩ := hm
      first
        | exact wpAny_Compare1 (core f _ _ _ _ ok m1 m2 hid ρ l h s Q E t p) (by cases neg <;> rfl)
        | exact wpAny_isTrue_Compare1 (core f _ _ _ _ ok m1 m2 hid ρ l h s _ E t (p.mono (fun _ _ q => OKB.toQ q) fun _ _ x => x)) (by cases neg <;> rfl)
    · cases hm

theorem sim_chain {a b c : CE} {o₁ o₂ : COp} (ha : SimV Γ Rz cl n a) (hb : SimV Γ Rz cl n b) (hc : SimV Γ Rz cl n c) : SimV Γ Rz cl n (.chain a o₁ b o₂ c) ∧ SimT Γ Rz cl n (.chain a o₁ b o₂ c) := by
  refine ⟨fun f e ok hm hid ρ l h s Q E t p => ?_, fun f e ok hm hid ρ l h s Q E t p => ?_⟩
  all_goals
    unfold mtE at hm
    split at hm
    · simp only [Bool.and_eq_true, beq_iff_eq] at hm
      obtain ⟨⟨⟨⟨⟨rfl, rfl⟩, m1⟩, m2⟩, m3⟩, m4⟩ := hm
      unfold ev at p
      have hu : f.A.units + 6 < cLine := by have := ok.units; omega
      first
        | refine Compare_chain (ha f _ ok m1 hid ρ l h s _ E t (p.thenE fun x h1 p1 v' ρ1 s1 pre1 t1 vr1 => ?_)) m4
          refine chain_link (hb f _ ok m2 hid ρ1 l h1 s1 _ E t1 ((Post_bind.mp p1).mono (fun y h2 p2 w' ρ2 s2 pre2 t2 vr2 => ?_) fun _ _ x => x.ext pre1))
          refine sim_cmp (ex := EXQ Rz f hid ρ l E) t2 hu (vr1.mono pre2) vr2 ((Post_bind.mp p2).mono (fun r h3 p3 r' ρ3 s3 pre3 t3 vr3 => ?_) fun _ _ q => q)
          cases r with
          | bool d =>
            cases vr3
            refine wpAny_truthy_bool ?_
            cases d with
            | true =>
              rw [if_pos rfl]
              have pre := (pre1.trans pre2).trans pre3
              refine chain_last (hc f _ ok m3 hid ρ3 l h3 s3 _ E t3 ((Post_bind.mp p3).mono (fun z h4 p4 z' ρ4 s4 pre4 t4 vr4 => ?_) fun _ _ x => x.ext pre))
              exact sim_cmp t4 hu ((vr2.mono pre3).mono pre4) vr4 (p4.mono (fun _ _ q => q.ext (pre.trans pre4)) fun _ _ q => q)
            | false => rw [if_neg (by decide)]; exact p3 _ _ _ ((pre1.trans pre2).trans pre3) t3 rfl
          | _ => exact p3.elim
        | refine isTrue_chain (ha f _ ok m1 hid ρ l h s _ E t (p.thenE fun x h1 p1 v' ρ1 s1 pre1 t1 vr1 => ?_)) m4
          refine test_link (hb f _ ok m2 hid ρ1 l h1 s1 _ E t1 ((Post_bind.mp p1).mono (fun y h2 p2 w' ρ2 s2 pre2 t2 vr2 => ?_) fun _ _ x => x.ext pre1))
          refine sim_cmp (ex := EXQ Rz f hid ρ l E) t2 hu (vr1.mono pre2) vr2 ((Post_bind.mp p2).mono (fun r h3 p3 r' ρ3 s3 pre3 t3 vr3 => ?_) fun _ _ q => q)
          cases r with
          | bool d =>
            cases vr3
            refine wpAny_truthy_bool ?_
            cases d with
            | true =>
              rw [if_pos rfl]
              have pre := (pre1.trans pre2).trans pre3
              refine test_last (hc f _ ok m3 hid ρ3 l h3 s3 _ E t3 ((Post_bind.mp p3).mono (fun z h4 p4 z' ρ4 s4 pre4 t4 vr4 => ?_) fun _ _ x => x.ext pre))
              exact sim_cmp t4 hu ((vr2.mono pre3).mono pre4) vr4 (p4.mono (fun _ _ q => OKQ.ext (pre.trans pre4) (OKB.toQ q)) fun _ _ q => q)
            | false =>
              rw [if_neg (by decide)]
              obtain ⟨e, e1, q⟩ := p3
              cases e1
              exact q _ _ ((pre1.trans pre2).trans pre3) t3
          | _ => exact p3.elim
    · cases hm
end
end Sk


namespace Sk
open PySem PySem.Calls PySem.W PyProof.Rows PySem.Spec

theorem base_attr {o : Expr} (h : isBase o = true) (x : Str) (env : Env) (whole : Sem Value) : attributeBase o x env whole = whole := by
  cases o <;> first | rfl | cases h
theorem eval_Attr {prog : Program} {w : World} {A : Around} {E : Value → Shared → Prop} {s : Shared} {env : Env} {value : Expr} {attr : Str} {pos : Pos} {Q : Value → Shared → Prop} (hb : isBase value = true)
    (h : wpAny (model prog w) A (eval value env) (fun o s₁ => wpAny (model prog w) A (getAttr o attr true) Q E s₁) E s) : wpAny (model prog w) A (eval (.Attribute value attr pos) env) Q E s := by
  rw [arm_eval_Attribute, base_attr hb]
  refine wpAny_bind (wpAny_mono h (fun o s₁ h₁ => wpAny_bind (wpAny_standAt (wpAny_bind (wpAny_holding (wpAny_mono h₁ (fun r s₂ h₂ => ?_) fun _ _ y => y))))) fun _ _ y => y)
  exact wpAny_bind (wpAny_letTemporaryGo (wpAny_pure h₂))
theorem eval_meth {M : Model} {A : Around} {E : Value → Shared → Prop} {s : Shared} {env : Env} {o : Expr} {x : Str} {apos pos : Pos} {args : List Expr} {Q : Value → Shared → Prop} (hb : isBase o = true)
    (hplain : (backTo pos (starEach args env)).any (·.1) = false) (hfew : args.length < 30) (hline : (apos.endLine == pos.line) = true)
    (h : wpAny M A (eval o env) (fun ov s₁ => wpAny M A (getMethod ov x (do return (← importBound o env).getD true)) (fun fx s₂ => wpAny M A (callWith pos fx.1 fx.2 (backTo pos (starEach args env)) []) Q E s₂) E s₁) E s) :
    wpAny M A (eval (.Call (.Attribute o x apos) args [] pos) env) Q E s := by
  rw [arm_eval_Call, base_attr hb]
  refine wpAny_bind (wpAny_mono h (fun ov s₁ h₁ => wpAny_bind (wpAny_standAt ?_)) fun _ _ y => y)
  have hform : methodCallForm (args.length + ([] : List Keyword).length) (backTo pos (starEach args env)) (backToKw pos (keywordEach [] env)) = true := by
    unfold methodCallForm
    have : (backTo pos (starEach args env)).all (fun x => !x.1) = true := by
      rw [List.all_eq_not_any_not]
      simp only [Bool.not_not]
      rw [hplain]; rfl
    rw [this]
    show (true && true && decide (args.length + 0 + 0 < 30)) = true
    simp; omega
  have hpos : methodCallPos true o env apos pos = pure pos := by unfold methodCallPos; simp [hline]
  unfold methodCall
  rw [hform]
  show wpAny M A (holding [ov] (getMethod ov x (do return (← importBound o env).getD true)) >>= _) Q E s₁
  refine wpAny_bind (wpAny_holding (wpAny_mono h₁ (fun fx s₂ h₂ => ?_) fun _ _ y => y))
  exact wpAny_bind (wpAny_of_eq hpos h₂)

theorem evalArgs_any {M : Model} {A : Around} {E : Value → Shared → Prop} {s : Shared} {g : Value} {trees : List (Bool × Sem Value)} {Q : Args → Shared → Prop} (hplain : trees.any (·.1) = false)
    (h : wpAny M A (spliced trees) (fun vs s' => Q ⟨vs, []⟩ s') E s) : wpAny M A (evalArgs g true trees []) Q E s := by
  cases trees with
  | nil =>
    unfold evalArgs
    show wpAny M A (spliced [] >>= _) Q E s
    refine wpAny_bind (wpAny_mono h (fun vs s' h' => wpAny_bind (wpAny_pure ?_)) fun _ _ x => x)
    refine wpAny_holding ?_
    exact wpAny_bind (wpAny_pure (wpAny_bind (wpAny_pure (wpAny_pure h'))))
  | cons p r =>
    obtain ⟨b, x⟩ := p
    have : b = false := by
      cases b with
      | false => rfl
      | true => simp at hplain
    subst this
    exact evalArgs_plain h

theorem mt_noslice {tx : Tx} {sc : Sc} {c : CE} {e : Expr} (h : mtE tx sc c e = true) (o i : Value) : subscripted e false o i = operate [o, i] (getItem o i) := by
  cases e with
  | Slice a b d p => cases c <;> simp [mtE] at h
  | _ => rfl
theorem filterMap_get {ρ : List Addr} {vs : List AV} {vs' : List Value} (hv : VRs ρ vs vs') : ∀ idx : List Nat, VRs ρ (idx.filterMap (vs[·]?)) (idx.filterMap (vs'[·]?))
  | [] => .nil
  | i :: r => by
    rw [List.filterMap_cons, List.filterMap_cons]
    cases q : vs[i]? with
    | none =>
      have : vs'[i]? = none := by rw [List.getElem?_eq_none_iff] at q ⊢; rw [hv.length]; exact q
      rw [this]; exact filterMap_get hv r
    | some a =>
      obtain ⟨v, e1, e2⟩ := hv.get q
      rw [e1]; exact .cons e2 (filterMap_get hv r)
theorem isPart_of {ρ : List Addr} {v : AV} {v' : Value} {k : Option Int} (h : VR ρ v v') (e : partOf v = some k) : IsPart v' k := by
  cases v with
  | none => cases h; cases e; exact .none
  | int i => obtain ⟨t, rfl⟩ := h; cases e; exact .int _ _
  | _ => cases e

section
variable {Γ : Cx} {Rz : Rise} {cl : CallO} {n : Nat} {f : Fm} {hid : List (Addr × Obj)} {ρ ρ' : List Addr} {l : LOC} {h : HP} {s : Shared} {E : Value → Shared → Prop} {M : Model}

theorem sim_attrE {a : CE} {k : Nat} (cx : CxOk Γ) (ha : SimV Γ Rz cl n a) : SimV Γ Rz cl n (.attr a k) := by
  intro f e ok hm hid ρ l h s Q E t p
  unfold mtE at hm
  split at hm
  · simp only [Bool.and_eq_true, beq_iff_eq] at hm
    obtain ⟨⟨hx, hb⟩, m1⟩ := hm
    unfold ev at p
    refine eval_Attr hb (ha f _ ok m1 hid ρ l h s _ E t (p.thenE fun x h1 p1 v' ρ1 s1 pre1 t1 vr1 => ?_))
    exact sim_attr t1 cx hx vr1 (p1.mono (fun _ _ q => q.ext pre1) fun _ _ q => q)
  · cases hm
theorem sim_itemE {a i : CE} (ha : SimV Γ Rz cl n a) (hi : SimV Γ Rz cl n i) : SimV Γ Rz cl n (.item a i) := by
  intro f e ok hm hid ρ l h s Q E t p
  unfold mtE at hm
  split at hm
  · simp only [Bool.and_eq_true] at hm
    obtain ⟨m1, m2⟩ := hm
    unfold ev at p
    refine Subscript_ (ha f _ ok m1 hid ρ l h s _ E t (p.thenE fun x h1 p1 v' ρ1 s1 pre1 t1 vr1 => ?_))
    refine hi f _ ok m2 hid ρ1 l h1 s1 _ E t1 ((Post_bind.mp p1).mono (fun y h2 p2 w' ρ2 s2 pre2 t2 vr2 => ?_) fun _ _ x => x.ext pre1)
    exact sim_item t2 (vr1.mono pre2) vr2 (mt_noslice m2 _ _) (p2.mono (fun _ _ q => q.ext (pre1.trans pre2)) fun _ _ q => q)
  · cases hm

theorem sim_sliceE {a lo hi : CE} {st : Nat} (ha : SimV Γ Rz cl n a) (hlo : SimV Γ Rz cl n lo) (hhi : SimV Γ Rz cl n hi) : SimV Γ Rz cl n (.slice a lo hi st) := by
  intro f e ok hm hid ρ l h s Q E t p
  unfold mtE at hm
  split at hm
  · rename_i v lx ux tx' ps1 ps2
    rw [Bool.and_eq_true, Bool.and_eq_true, Bool.and_eq_true] at hm
    obtain ⟨⟨⟨m1, m2⟩, m3⟩, m4⟩ := hm
    unfold ev at p
    have part : ∀ (c : CE) (x : Option Expr), SimV Γ Rz cl n c → (match x with | Option.none => (match c with | .none => true | _ => false) | some y => mtE Γ.tx f.sc c y) = true → ∀ hid ρ l h s Q E, At Γ f hid ρ l h s →
        Post (ev Γ.G cl c l h) (OKQ Γ f hid ρ l Q) (EXQ Rz f hid ρ l E) → wpAny (model Γ.prog Γ.w) f.A (evalPart x f.env) Q E s := by
      intro c x hc hx hid ρ l h s Q E t p
      cases x with
      | none =>
        cases c with
        | none => exact wpAny_pure (p _ _ _ (List.prefix_refl _) t rfl)
        | _ => cases hx
      | some y => exact hc f y ok hx hid ρ l h s Q E t p
    refine Subscript_ (ha f _ ok m1 hid ρ l h s _ E t (p.thenE fun x h1 p1 v' ρ1 s1 pre1 t1 vr1 => ?_))
    refine wpAny_Slice (part lo lx hlo m2 hid ρ1 l h1 s1 _ E t1 ((Post_bind.mp p1).mono (fun y h2 p2 w' ρ2 s2 pre2 t2 vr2 => ?_) fun _ _ x => x.ext pre1))
    refine part hi ux hhi m3 hid ρ2 l h2 s2 _ E t2 ((Post_bind.mp p2).mono (fun z h3 p3 z' ρ3 s3 pre3 t3 vr3 => ?_) fun _ _ x => x.ext (pre1.trans pre2))
    have pre := (pre1.trans pre2).trans pre3
    -- the step
    have step : ∃ sv : Value, ∃ tk : Nat, IsPart sv (if st = 0 then Option.none else some (st : Int)) ∧ (∀ (Q' : Value → Shared → Prop), Q' sv { s3 with toks := tk } → wpAny (model Γ.prog Γ.w) f.A (evalPart tx' f.env) Q' E s3) := by
      cases tx' with
      | none =>
        have : st = 0 := eq_of_beq m4
        exact ⟨.none, s3.toks, by rw [if_pos this]; exact .none, fun Q' q => wpAny_pure q⟩
      | some c =>
        cases c with
        | Constant k kk pp =>
          cases k with
          | int k =>
            simp only [Bool.and_eq_true, beq_iff_eq, bne_iff_ne] at m4
            obtain ⟨rfl, h0⟩ := m4
            exact ⟨.int st s3.toks, s3.toks + 1, by rw [if_neg h0]; exact .int _ _, fun Q' q => wpAny_Constant_int (k := kk) (pos := pp) q⟩
          | _ => cases m4
        | _ => cases m4
    obtain ⟨sv, tk, hsv, hstep⟩ := step
    refine hstep _ ?_
    cases x with
    | ref i =>
      obtain ⟨c, hc, rfl⟩ := vr1.mono (pre2.trans pre3)
      simp only [sliceop] at p3
      split at p3
      · rename_i vs ei
        split at p3
        · rename_i ws ew
          split at p3
          · rename_i hz
            obtain ⟨o, g, vs', m, rfl, hv, hz'⟩ := t3.obj i _ c ei hc
            have k1 : ∀ b o, s3.heap.get? b = some o → (s3.heap.push { cls := .type "slice", data := .fields #[w', z', sv] }).get? b = some o := fun b o e => Heap.get?_push_of_some _ e
            have hl : (s3.heap.push { cls := .type "slice", data := .fields #[w', z', sv] }).IsList c vs'.toArray := ⟨_, k1 _ _ g, rfl, m, rfl⟩
            unfold sliceL at ew
            split at ew
            · rename_i la ha' ea eb
              cases ew
              have hs : subscripted (.Slice lx ux tx' ps1) false (.ref c) (.ref s3.heap.objs.size) = operate (match tx' with | Option.none => [.ref s3.heap.objs.size, .ref c] | some _ => [.ref c, .ref s3.heap.objs.size]) (getItem (.ref c) (.ref s3.heap.objs.size)) := by cases tx' <;> rfl
              refine tail_any (s := { s3 with heap := s3.heap.push { cls := .type "slice", data := .fields #[w', z', sv] }, toks := tk }) (T := "list") hl.typeIs slot_list_getitem.lookup ?_ hs
              refine wpAny_getItem_list_slice (s := { s3 with heap := s3.heap.push { cls := .type "slice", data := .fields #[w', z', sv] }, toks := tk }) hl (.new ..) (isPart_of vr2 ea) (isPart_of vr3 eb) hsv ?_ ?_ ?_
              · split
                · nofun
                · rename_i h0; intro q; exact h0 (by simpa using q)
              · have hsize : (s3.heap.push { cls := .type "slice", data := .fields #[w', z', sv] }).objs.size = s3.heap.objs.size + 1 := Heap.size_push ..
                refine p3 _ (ρ3 ++ [_]) _ (pre.trans (List.prefix_append _ _)) (t3.alloc (by rw [t3.sh]) (fun b o e => Heap.get?_push_of_some _ (k1 b o e)) (by rw [hsize]; exact Nat.le_succ _) (Heap.get?_push_size _ rfl) ⟨_, 0, ?_, ((filterMap_get hv _).mono (List.prefix_append _ _)), ?_⟩) (newRef t3 _)
                · show _ = listOf _ 0
                  unfold slicePick
                  simp only [List.size_toArray, hv.length, List.getElem?_toArray]
                  rfl
                · have := of_decide_eq_true hz; omega
              · simp; have := hv.length; exact Nat.le_trans (by omega) (show 200000 ≤ sizeLine by decide)
            · cases ew
          · exact p3.elim
        · exact p3.elim
      · rename_i vs ei
        split at p3
        · rename_i ws ew
          split at p3
          · rename_i hz
            obtain ⟨o, g, vs', m, oc, od, hv, hz', _⟩ := t3.obj i _ c ei hc
            have k1 : ∀ b o, s3.heap.get? b = some o → (s3.heap.push { cls := .type "slice", data := .fields #[w', z', sv] }).get? b = some o := fun b o e => Heap.get?_push_of_some _ e
            have hl : (s3.heap.push { cls := .type "slice", data := .fields #[w', z', sv] }).IsList c vs'.toArray := ⟨_, k1 _ _ g, oc, m, od⟩
            unfold sliceL at ew
            split at ew
            · rename_i la ha' ea eb
              cases ew
              have hs : subscripted (.Slice lx ux tx' ps1) false (.ref c) (.ref s3.heap.objs.size) = operate (match tx' with | Option.none => [.ref s3.heap.objs.size, .ref c] | some _ => [.ref c, .ref s3.heap.objs.size]) (getItem (.ref c) (.ref s3.heap.objs.size)) := by cases tx' <;> rfl
              refine tail_any (s := { s3 with heap := s3.heap.push { cls := .type "slice", data := .fields #[w', z', sv] }, toks := tk }) (T := "list") hl.typeIs slot_list_getitem.lookup ?_ hs
              refine wpAny_getItem_list_slice (s := { s3 with heap := s3.heap.push { cls := .type "slice", data := .fields #[w', z', sv] }, toks := tk }) hl (.new ..) (isPart_of vr2 ea) (isPart_of vr3 eb) hsv ?_ ?_ ?_
              · split
                · nofun
                · rename_i h0; intro q; exact h0 (by simpa using q)
              · have hsize : (s3.heap.push { cls := .type "slice", data := .fields #[w', z', sv] }).objs.size = s3.heap.objs.size + 1 := Heap.size_push ..
                refine p3 _ (ρ3 ++ [_]) _ (pre.trans (List.prefix_append _ _)) (t3.alloc (by rw [t3.sh]) (fun b o e => Heap.get?_push_of_some _ (k1 b o e)) (by rw [hsize]; exact Nat.le_succ _) (Heap.get?_push_size _ rfl) ⟨_, 0, ?_, ((filterMap_get hv _).mono (List.prefix_append _ _)), ?_⟩) (newRef t3 _)
                · show _ = listOf _ 0
                  unfold slicePick
                  simp only [List.size_toArray, hv.length, List.getElem?_toArray]
                  rfl
                · have := of_decide_eq_true hz; omega
              · simp; have := hv.length; exact Nat.le_trans (by omega) (show 200000 ≤ sizeLine by decide)
            · cases ew
          · exact p3.elim
        · exact p3.elim
      · exact p3.elim
    | _ => exact p3.elim
  · cases hm
end
end Sk


namespace Sk
open PySem PySem.Calls PySem.W PyProof.Rows PySem.Spec

section
variable {Γ : Cx} {Rz : Rise} {cl : CallO} {n : Nat} {f : Fm} {hid : List (Addr × Obj)} {ρ ρ' : List Addr} {l : LOC} {h : HP} {s : Shared} {E : Value → Shared → Prop} {M : Model}

/-- an object that stands already is taken into the abstract heap -/
theorem At.adopt (x : At Γ f hid ρ l h s) {c : Addr} {o : Obj} {ao : AO} (ho : s.heap.get? c = some o) (hnew : ∀ d ∈ f.adr hid ρ, d ≠ c) (hb : Γ.base.get? c = none) (hr : ObjR Γ (ρ ++ [c]) ao o) : At Γ f hid (ρ ++ [c]) l (h ++ [ao]) s := by
  have p : ρ <+: ρ ++ [c] := List.prefix_append _ _
  obtain ⟨m, F, hl, hm⟩ := x.frm
  refine ⟨x.sh, ⟨m, F, hl, fun i z v a b => ?_⟩, x.cel, by simp [x.len], fun i ao' d a b => ?_, ?_, ?_, x.hidden, x.below⟩
  · obtain ⟨v', h1, h2⟩ := hm i z v a b
    exact ⟨v', h1.mono p, h2⟩
  · by_cases hi : i < h.length
    · rw [List.getElem?_append_left hi] at a
      rw [List.getElem?_append_left (by rw [x.len]; exact hi)] at b
      obtain ⟨o', h1, h2⟩ := x.obj i ao' d a b
      exact ⟨o', h1, h2.mono p⟩
    · have hi' : i = h.length := by
        have := (List.getElem?_eq_some_iff.mp a).1
        simp at this; omega
      subst hi'
      have e1 : ao' = ao := by simpa using a.symm
      have e2 : d = c := by rw [← x.len] at b; simpa using b.symm
      subst e1; subst e2
      exact ⟨o, ho, hr⟩
  · unfold Fm.adr
    rw [List.append_assoc]
    have hn := x.nodup
    unfold Fm.adr at hn hnew
    rw [List.nodup_append] at hn ⊢
    refine ⟨hn.1, ?_, fun a ha b hb' => ?_⟩
    · rw [List.singleton_append, List.nodup_cons]
      exact ⟨fun hm => hnew _ (List.mem_append_right _ hm) rfl, hn.2.1⟩
    · rcases List.mem_append.mp hb' with e | e
      · rw [List.mem_singleton.mp e]; exact hnew a (List.mem_append_left _ ha)
      · exact hn.2.2 a ha b e
  · intro d hd
    unfold Fm.adr at hd
    rw [List.append_assoc, List.mem_append] at hd
    rcases hd with hd | hd
    · exact x.fresh d (List.mem_append_left _ hd)
    · rcases List.mem_append.mp hd with hd | hd
      · rw [List.mem_singleton.mp hd]; exact hb
      · exact x.fresh d (List.mem_append_right _ hd)

theorem sim_listE {es : CEs} (he : SimL Γ Rz cl n es) : SimV Γ Rz cl n (.list es) := by
  intro f e ok hm hid ρ l h s Q E t p
  unfold mtE at hm
  split at hm
  · unfold ev at p
    refine List_ (he f _ _ ok hm hid ρ l h s _ E t (p.thenE fun vs h1 p1 vs' ρ1 s1 pre1 t1 vr1 => ?_))
    split at p1
    · rename_i hz
      have hz := of_decide_eq_true hz
      obtain ⟨m, F, N, back⟩ := t1.led
      refine newList_N F N (fun h' F' N' => ?_) (by rw [vr1.length]; exact Nat.le_trans hz (by decide))
      have pre : ρ1 <+: ρ1 ++ [s1.heap.objs.size] := List.prefix_append _ _
      exact p1 _ _ _ (pre1.trans pre) (t1.allocN back F' N' (Nat.le_refl _) ⟨vs', 0, rfl, vr1.mono pre, by omega⟩) (newRef t1 _)
    · exact p1.elim
  · cases hm
theorem sim_tupE {es : CEs} (he : SimL Γ Rz cl n es) : SimV Γ Rz cl n (.tup es) := by
  intro f e ok hm hid ρ l h s Q E t p
  unfold mtE at hm
  split at hm
  · unfold ev at p
    refine Tuple_ (he f _ _ ok hm hid ρ l h s _ E t (p.thenE fun vs h1 p1 vs' ρ1 s1 pre1 t1 vr1 => ?_))
    split at p1
    · rename_i hz
      have hz := of_decide_eq_true hz
      obtain ⟨m, F, N, back⟩ := t1.led
      refine newTuple_N F N (fun h' F' N' => ?_) (by rw [vr1.length]; exact Nat.le_trans hz (by decide))
      have pre : ρ1 <+: ρ1 ++ [s1.heap.objs.size] := List.prefix_append _ _
      exact p1 _ _ _ (pre1.trans pre) (t1.allocN back F' N' (Nat.le_refl _) ⟨vs', 0, rfl, vr1.mono pre, by omega⟩) (newRef t1 _)
    · exact p1.elim
  · cases hm
theorem sim_dict0 (cx : CxOk Γ) : SimV Γ Rz cl n .dict0 := by
  intro f e ok hm hid ρ l h s Q E t p
  unfold mtE at hm
  split at hm
  · obtain ⟨m, F, N, back⟩ := t.led
    refine newDict_K F N cx.nolimit fun d h' o F' N' l1 _ _ _ hd _ => ?_
    exact p _ _ _ (List.prefix_append _ _) (t.allocL back F' N' (fun q hq => .tail _ hq) (.head _) l1 ⟨hd, by simp⟩) (newRef t _)
  · cases hm

/-! calls -/
noncomputable def SimC (Γ : Cx) (Rz : Rise) (cl : CallO) (n : Nat) : Prop := ∀ (fi : Nat) (a : Addr), Γ.tx.fnAddr fi = some a → ∀ (f : Fm) (A' : Around), FmOk f → A'.handled = none → A'.frames = f.A.frames → A'.depth + 2 * n + 1 < recursionLimit → A'.units + 16 * n + 10 < cLine →
  ∀ args vals hid ρ l h s Q E, At Γ f hid ρ l h s → VRs ρ args vals → Post (cl fi args h) (OKQ Γ f hid ρ l Q) (EXQ Rz f hid ρ l E) →
    codeAny (model Γ.prog Γ.w) A' (.call (.ref a) ⟨vals, []⟩) (fun r s' => match r with | .ok (.ret v) => Q v s' | .ok _ => False | .error e => E e s') s

theorem keepIn_s (t : At Γ f hid ρ l h s) (cx : CxOk Γ) : Γ.K.In s.heap := cx.X.keeps t.keepBase

theorem sim_callE {fi : Nat} {es : CEs} (cx : CxOk Γ) (cf : CxFn Γ) (hc : SimC Γ Rz cl n) (he : SimL Γ Rz cl n es) : SimV Γ Rz cl n (.call fi es) := by
  intro f e ok hm hid ρ l h s Q E t p
  unfold mtE at hm
  split at hm
  · simp only [Bool.and_eq_true, beq_iff_eq] at hm
    obtain ⟨⟨hx, hg⟩, m1⟩ := hm
    obtain ⟨a, ha, hv, hk⟩ := cf.fnG fi _ hx
    unfold ev at p
    refine Call_Name rfl (t.glob ok.toFmOk cx hg hv ?_)
    refine callWith_of (P := fun hp => Γ.K.In hp) (by rw [mts_plain _ _ m1]; rfl) (keeps_K hk) (evalArgs_any (mts_plain _ _ m1) (he f _ _ ok m1 hid ρ l h s _ E t (p.thenE fun vs h1 p1 vs' ρ1 s1 pre1 t1 vr1 => ⟨keepIn_s t1 cx, ?_⟩)))
    exact wpAny_call (hc fi a ha f f.A ok.toFmOk ok.hand rfl (by have := ok.room; omega) (by have := ok.units; omega) vs vs' hid ρ1 l h1 s1 Q E t1 vr1 (p1.mono (fun _ _ q => q.ext pre1) fun _ _ q => q.ext pre1))
  · cases hm

theorem sim_methE {a : CE} {m : Nat} {es : CEs} (cx : CxOk Γ) (cf : CxFn Γ) (hc : SimC Γ Rz cl n) (ha : SimV Γ Rz cl n a) (he : SimL Γ Rz cl n es) : SimV Γ Rz cl n (.meth a m es) := by
  intro f e ok hm hid ρ l h s Q E t p
  unfold mtE at hm
  split at hm
  · simp only [Bool.and_eq_true, beq_iff_eq, decide_eq_true_eq] at hm
    obtain ⟨⟨⟨⟨⟨hx, hb⟩, hl⟩, hn⟩, m1⟩, m2⟩ := hm
    unfold ev at p
    refine eval_meth hb (mts_plain _ _ m2) hn (by simpa using hl) (ha f _ ok m1 hid ρ l h s _ E t (p.thenE fun x h1 p1 v' ρ1 s1 pre1 t1 vr1 => ?_))
    cases x with
    | ref i =>
      simp only at p1
      split at p1
      · rename_i c d ei
        split at p1
        · rename_i fi fs em ed
          obtain ⟨ad, hc1, rfl⟩ := vr1
          obtain ⟨o, g1, C, dx, ⟨rfl, hC⟩, hdx, rfl⟩ := t1.obj i _ ad ei hc1
          obtain ⟨od, g2, es', k, rfl, hf⟩ := t1.obj d _ dx ed hdx
          obtain ⟨_, C', x', fa, hC', hx', hfa, hfi, hfn, hkp, hna⟩ := cf.mthG _ _ _ em
          rw [hC] at hC'; cases hC'
          rw [hx] at hx'; cases hx'
          obtain ⟨k1, k2, k3, _⟩ := cx.inst C hC
          obtain ⟨mm, F, _⟩ := t1.frm
          refine method_inst F cx.X ⟨g1, rfl, rfl, g2⟩ (by unfold plainGet; rw [k2, k3]; rfl) hfi hfn (hf.none hna) ?_
          refine callWith_of (P := fun hp => Γ.K.In hp) (by rw [mts_plain _ _ m2]; rfl) (keeps_K hkp) (evalArgs_any (mts_plain _ _ m2) (he f _ _ ok m2 hid ρ1 l h1 s1 _ E t1 ((Post_bind.mp p1).mono (fun vs h2 p2 vs' ρ2 s2 pre2 t2 vr2 => ⟨keepIn_s t2 cx, ?_⟩) fun _ _ q => q.ext pre1)))
          have pre := pre1.trans pre2
          exact wpAny_call (hc fi fa hfa f f.A ok.toFmOk ok.hand rfl (by have := ok.room; omega) (by have := ok.units; omega) (.ref i :: vs) (.ref ad :: vs') hid ρ2 l h2 s2 Q E t2 (.cons ⟨ad, getElem?_pre pre2 hc1, rfl⟩ vr2) (p2.mono (fun _ _ q => q.ext pre) fun _ _ q => q.ext pre))
        · exact p1.elim
      · exact p1.elim
    | _ => exact p1.elim
  · cases hm

theorem sim_newE {c : Nat} {es : CEs} (cx : CxOk Γ) (cf : CxFn Γ) (hc : SimC Γ Rz cl n) (he : SimL Γ Rz cl n es) : SimV Γ Rz cl n (.new c es) := by
  intro f e ok hm hid ρ l h s Q E t p
  unfold mtE at hm
  split at hm
  · simp only [Bool.and_eq_true, beq_iff_eq] at hm
    obtain ⟨⟨hx, hg⟩, m1⟩ := hm
    obtain ⟨C, hC, hv⟩ := cf.clsG c _ hx
    unfold ev at p
    split at p
    · rename_i fi hi
      obtain ⟨rfl, C', fa, hC', hfa, hmk, hin, hfn, hkp⟩ := cf.initG c fi hi
      rw [hC] at hC'; cases hC'
      refine Call_Name rfl (t.glob ok.toFmOk cx hg hv ?_)
      refine callWith_of (P := fun hp => Γ.K.In hp) (by rw [mts_plain _ _ m1]; rfl) (keeps_K hkp) (evalArgs_any (mts_plain _ _ m1) (he f _ _ ok m1 hid ρ l h s _ E t (p.thenE fun vs h1 p1 vs' ρ1 s1 pre1 t1 vr1 => ⟨keepIn_s t1 cx, ?_⟩)))
      obtain ⟨mm, F, N, back⟩ := t1.led
      refine call_cls F cx.X N hmk hin hfn fun x dx h' F' N' l1 l2 => ?_
      have ta : At Γ f hid (ρ1 ++ [dx]) l (h1 ++ [.fields []]) { s1 with heap := h', toks := s1.toks } := t1.allocL back F' N' (fun q hq => .tail _ (.tail _ hq)) (.tail _ (.head _)) l1 ⟨[], 0, rfl, trivial⟩
      have hxn : ∀ d ∈ f.adr hid (ρ1 ++ [dx]), d ≠ x := fun d hd => by
        unfold Fm.adr at hd
        rw [List.append_assoc, List.mem_append] at hd
        have old : ∀ d ∈ f.adr hid ρ1, d ≠ x := fun d hd e => by
          rw [Fm.adr_eq] at hd
          rcases List.mem_append.mp hd with hd' | hd'
          · obtain ⟨od, eo⟩ := t1.there d (by rw [Fm.adr_eq]; exact hd)
            exact absurd (Nat.lt_trans (l1 _ (mem_ledOf hd' eo)) l2) (e ▸ Nat.lt_irrefl _)
          · rw [List.mem_singleton.mp hd'] at e
            exact (N' _ (.head _)).2.1 e.symm
        rcases hd with hd | hd
        · exact old d (List.mem_append_left _ hd)
        · rcases List.mem_append.mp hd with hd | hd
          · rw [List.mem_singleton.mp hd]; exact Nat.ne_of_lt l2
          · exact old d (List.mem_append_right _ hd)
      have tb := ta.adopt (c := x) (o := instObj C dx) (ao := .inst 0 h1.length) (N' _ (.head _)).1 hxn (N' _ (.head _)).2.2 ⟨C, dx, ⟨rfl, hC⟩, by rw [← t1.len]; simp, rfl⟩
      have pre : ρ1 <+: (ρ1 ++ [dx]) ++ [x] := (List.prefix_append _ _).trans (List.prefix_append _ _)
      have hlen : (h1 ++ [AO.fields []]) ++ [AO.inst 0 h1.length] = h1 ++ [.fields [], .inst 0 h1.length] := by simp
      rw [hlen] at tb
      have p1 := Post_bind.mp p1
      have vrx : VR ((ρ1 ++ [dx]) ++ [x]) (.ref (h1.length + 1)) (.ref x) := ⟨x, by rw [← t1.len]; simp, rfl⟩
      have := hc fi fa hfa f (f.A.under (.builtin "type.__call__" ⟨.ref C :: vs', []⟩)) ok.toFmOk ok.hand rfl (by rw [depth_under_make]; have := ok.room; omega) (by rw [units_under_make]; have := ok.units; omega)
        (.ref (h1.length + 1) :: vs) (.ref x :: vs') hid ((ρ1 ++ [dx]) ++ [x]) l _ _ (fun v s' => v = .none ∧ Q (.ref x) s') E tb (.cons vrx (vr1.mono pre)) (p1.mono (fun r h2 q r' ρ3 s3 pre3 t3 vr3 => ?_) fun _ _ q => q.ext (pre1.trans pre))
      · refine codeAny_mono this fun r s' q => ?_
        cases r with
        | error e => exact q
        | ok fl =>
          cases fl with
          | ret v => exact q
          | _ => exact q.elim
      · cases r with
        | none => cases vr3; exact ⟨rfl, q _ _ _ ((pre1.trans pre).trans pre3) t3 (vrx.mono pre3)⟩
        | _ => exact q.elim
    · exact p.elim
  · cases hm

theorem sim_bmE {m : BM} {a : CE} {es : CEs} (ha : SimV Γ Rz cl n a) (he : SimL Γ Rz cl n es) : SimV Γ Rz cl n (.bm m a es) := by
  intro f e ok hm hid ρ l h s Q E t p
  unfold mtE at hm
  split at hm
  · simp only [Bool.and_eq_true, beq_iff_eq, decide_eq_true_eq] at hm
    obtain ⟨⟨⟨⟨⟨rfl, hb⟩, hl⟩, hn⟩, m1⟩, m2⟩ := hm
    unfold ev at p
    refine eval_meth hb (mts_plain _ _ m2) hn (by simpa using hl) (ha f _ ok m1 hid ρ l h s _ E t (p.thenE fun x h1 p1 v' ρ1 s1 pre1 t1 vr1 => ?_))
    split at p1
    · rename_i hk
      refine sim_bmGet t1 vr1 hk ?_
      refine callWith_builtin (mts_plain _ _ m2) (evalArgs_any (mts_plain _ _ m2) (he f _ _ ok m2 hid ρ1 l h1 s1 _ E t1 ((Post_bind.mp p1).mono (fun vs h2 p2 vs' ρ2 s2 pre2 t2 vr2 => ?_) fun _ _ q => q.ext pre1)))
      exact sim_bm t2 (vr1.mono pre2) vr2 (p2.mono (fun _ _ q => q.ext (pre1.trans pre2)) fun _ _ q => q)
    · exact p1.elim
  · cases hm
end
end Sk


namespace Sk
open PySem PySem.Calls PySem.W PyProof.Rows PySem.Spec

noncomputable def tyVal (Γ : Cx) : TY → Option Value
  | .int => some (.type "int") | .bool => some (.type "bool") | .list => some (.type "list") | .tup => some (.type "tuple") | .valueError => some (.type "ValueError") | .own c => (Γ.tx.clsAddr c).map .ref

noncomputable def IsiX (Γ : Cx) : Prop := ∀ (f : Fm) hid ρ l h s Q E (i c : Nat) (ty : TY) (tv : Value) (ad : Addr), At Γ f hid ρ l h s → h[i]? = some (.exc c) → ρ[i]? = some ad → tyVal Γ ty = some tv →
  Post (isinstop Γ.G.sub ty (.ref i) h) (fun v h' => ∀ v', VR ρ v v' → h' = h → Q v' s) (fun _ _ => False) → wpAny (model Γ.prog Γ.w) f.A (call (.builtin "isinstance") [.ref ad, tv]) Q E s

theorem bts_of {x : Str} {v : Value} (h : bootBuiltins x = some v) : bootBuiltins x = some v := h

section
variable {Γ : Cx} {Rz : Rise} {cl : CallO} {n : Nat} {f : Fm} {hid : List (Addr × Obj)} {ρ ρ' : List Addr} {l : LOC} {h : HP} {s : Shared} {E : Value → Shared → Prop} {M : Model}

theorem boot_bf {b : BF} (hb : b ≠ .listRange) : bootBuiltins (bfName b) = some (bfVal b) := by
  cases b with
  | len => exact Boot.«len»
  | list => exact Boot.«list»
  | listRange => exact absurd rfl hb
  | sorted => exact Boot.«sorted»
  | int => exact Boot.«int»
  | min => exact Boot.«min»
  | max => exact Boot.«max»
  | max1 => exact Boot.«max»
  | all => exact Boot.«all»
theorem bfName_mem (b : BF) : bfName b ∈ bltNames := by cases b <;> decide
theorem bfName_ne (b : BF) : bfName b ≠ "__name__" := by cases b <;> decide


theorem ints_range {ρ : List Addr} {acc : Array Value} : ∀ {m : Nat}, ItemsOf (fun i v => ∃ t, v = .int (0 + (i : Nat) * 1) t) acc m → VRs ρ ((List.range m).map fun (k : Nat) => .int (k : Int)) acc.toList := by
  intro m ha
  have key : ∀ (vs : List Value) (as : List AV), vs.length = as.length → (∀ (i : Nat) v a, vs[i]? = some v → as[i]? = some a → VR ρ a v) → VRs ρ as vs := by
    intro vs
    induction vs with
    | nil => intro as hl _; cases as with
      | nil => exact .nil
      | cons _ _ => simp at hl
    | cons v vs ih =>
      intro as hl hv
      cases as with
      | nil => simp at hl
      | cons a as => exact .cons (hv 0 v a rfl rfl) (ih as (by simpa using hl) fun i w b h1 h2 => hv (i + 1) w b (by simpa using h1) (by simpa using h2))
  obtain ⟨h1, h2⟩ := ha
  refine key _ _ (by simp [h1]) fun i v a e1 e2 => ?_
  rw [List.getElem?_map] at e2
  obtain ⟨k, ek, rfl⟩ := Option.map_eq_some_iff.mp e2
  have hk : k = i := by
    have := List.getElem?_eq_some_iff.mp ek
    obtain ⟨q, e⟩ := this
    simpa using e.symm
  subst hk
  obtain ⟨t, rfl⟩ := h2 k v (by simpa using e1)
  exact ⟨t, by simp⟩

theorem sim_bfE {b : BF} {es : CEs} (cx : CxOk Γ) (cf : CxFn Γ) (he : SimL Γ Rz cl n es) : SimV Γ Rz cl n (.bf b es) := by
  intro f e ok hm hid ρ l h s Q E t p
  unfold mtE at hm
  split at hm
  · rename_i bx px bargs bpos
    simp only [Bool.and_eq_true, beq_iff_eq] at hm
    obtain ⟨⟨rfl, hg⟩, m1⟩ := hm
    unfold ev at p
    by_cases hb : b = .listRange
    · subst hb
      simp only at m1
      split at m1
      · simp only [Bool.and_eq_true, beq_iff_eq] at m1
        obtain ⟨⟨rfl, hg2⟩, m2⟩ := m1
        refine Call_Name rfl (t.blt ok.toFmOk cx cf hg (by decide) (by decide) Boot.«list» ?_)
        refine PySem.callWith_type (first := []) rfl (evalArgs_any rfl (spliced_cons ?_))
        refine Call_Name rfl (t.blt ok.toFmOk cx cf hg2 (by decide) (by decide) Boot.«range» ?_)
        refine PySem.callWith_type (first := []) (mts_plain _ _ m2) (evalArgs_any (mts_plain _ _ m2) (he f _ _ ok m2 hid ρ l h s _ E t (p.thenE fun vs h1 p1 vs' ρ1 s1 pre1 t1 vr1 => ?_)))
        unfold bfop at p1
        split at p1
        all_goals first | exact p1.elim | skip
        all_goals first | (rename_i q; cases q; done) | skip
        rename_i m _
        split at p1
        · rename_i hz
          cases vr1 with
          | cons v1 r1 =>
            cases r1
            obtain ⟨u, rfl⟩ := v1
            refine call_range_1 (spliced_nil ?_)
            have hz := of_decide_eq_true hz
            have hsz : Builtin.Range.rangeSize 0 m 1 = (m.toNat : Int) := by rw [rangeSize_one]; split <;> omega
            refine call_list_range (n := m.toNat) ok.hand (IsRange.new ..) (small_one (by decide) (by decide) (by omega) (by omega)) hsz (by omega) fun h' tk acc' c' hk hS hacc => ?_
            have hsize : (s1.heap.push { cls := .type "range", data := .fields #[.int 0 s1.toks, .int m u, .int 1 (s1.toks + 1)] }).objs.size = s1.heap.objs.size + 1 := Heap.size_push ..
            refine p1 _ (ρ1 ++ [_]) _ (pre1.trans (List.prefix_append _ _)) (t1.alloc (by rw [t1.sh]) (fun b o e => hk b o (Heap.get?_push_of_some _ e)) (by rw [hsize]; exact Nat.le_succ _) hS ⟨acc'.toList, c', ?_, (ints_range hacc).mono (List.prefix_append _ _), ?_⟩) (newRef t1 _)
            · rfl
            · simp; omega
        · exact p1.elim
      · cases m1
    · have m1 : mtEs Γ.tx f.sc es bargs = true := by cases b <;> first | exact m1 | exact absurd rfl hb
      refine Call_Name rfl (t.blt ok.toFmOk cx cf hg (bfName_mem b) (bfName_ne b) (boot_bf hb) ?_)
      have body : wpAny (model Γ.prog Γ.w) f.A (evalArgs (bfVal b) true (backTo bpos (starEach bargs f.env)) []) (fun a s₁ => wpAny (model Γ.prog Γ.w) f.A (call (bfVal b) ([] ++ a.pos) a.kw) Q E s₁) E s :=
        evalArgs_any (mts_plain _ _ m1) (he f _ _ ok m1 hid ρ l h s _ E t (p.thenE fun vs h1 p1 vs' ρ1 s1 pre1 t1 vr1 => sim_bf t1 cx cf.sysm ok.hand vr1 hb (p1.mono (fun _ _ q => q.ext pre1) fun _ _ q => q)))
      cases b with
      | list => exact PySem.callWith_type (mts_plain _ _ m1) body
      | int => exact PySem.callWith_type (mts_plain _ _ m1) body
      | listRange => exact absurd rfl hb
      | _ => exact callWith_builtin (mts_plain _ _ m1) body
  · cases hm

theorem mt_starN {x : Str} {pos : Pos} (r : List Expr) (env : Env) : starEach (.Name x pos :: r) env = (false, eval (.Name x pos) env) :: starEach r env := rfl

theorem sim_isinstE {a : CE} {ty : TY} (cx : CxOk Γ) (cf : CxFn Γ) (ix : IsiX Γ) (ha : SimV Γ Rz cl n a) : SimV Γ Rz cl n (.isinst a ty) := by
  intro f e ok hm hid ρ l h s Q E t p
  unfold mtE at hm
  split at hm
  · simp only [Bool.and_eq_true, beq_iff_eq] at hm
    obtain ⟨⟨⟨⟨rfl, hg⟩, m1⟩, hy⟩, hg2⟩ := hm
    unfold ev at p
    refine Call_Name rfl (t.blt ok.toFmOk cx cf hg (by decide) (by decide) Boot.«isinstance» ?_)
    rename_i px v y py pos
    have hpl : (backTo pos (starEach [v, .Name y py] f.env)).any (·.1) = false := by
      rw [mt_star m1]; rfl
    refine callWith_builtin (first := []) hpl (evalArgs_any hpl ?_)
    rw [mt_star m1]
    refine spliced_cons (ha f v ok m1 hid ρ l h s _ E t (p.thenE fun x h1 p1 v' ρ1 s1 pre1 t1 vr1 => ?_))
    have p1 := p1.mono (fun _ _ q => OKQ.ext pre1 q) (ex' := fun _ _ => True) fun _ _ _ => trivial
    have go : ∀ tv, (wpAny (model Γ.prog Γ.w) f.A (call (.builtin "isinstance") [v', tv]) Q E s1) → ∀ (hb : ∀ Q', Q' tv s1 → wpAny (model Γ.prog Γ.w) f.A (eval (.Name y py) f.env) Q' E s1),
        wpAny (model Γ.prog Γ.w) f.A (spliced (backTo pos (starEach [.Name y py] f.env))) (fun vs s' => wpAny (model Γ.prog Γ.w) f.A (call (.builtin "isinstance") ([] ++ (v' :: vs))) Q E s') E s1 := fun tv q hb =>
      spliced_cons (hb _ (spliced_nil q))
    have exc : ∀ tv, tyVal Γ ty = some tv → (∃ i c, x = .ref i ∧ h1[i]? = some (.exc c)) → wpAny (model Γ.prog Γ.w) f.A (call (.builtin "isinstance") [v', tv]) Q E s1 := by
      rintro tv htv ⟨i, c, rfl, hi⟩
      obtain ⟨ad, had, rfl⟩ := vr1
      refine ix f hid ρ1 l h1 s1 Q E i c ty tv ad t1 hi had htv ?_
      cases ty <;> simp only [isinstop, hi] at p1 ⊢ <;> first | exact p1.elim | exact fun v' vr _ => p1 _ _ _ (List.prefix_refl _) t1 vr
    have notExc : (∃ T, tyVal Γ ty = some (.type T) ∧ (T = "int" ∧ ty = .int ∨ T = "bool" ∧ ty = .bool ∨ T = "list" ∧ ty = .list ∨ T = "tuple" ∧ ty = .tup)) → ∃ tv, tyVal Γ ty = some tv ∧ wpAny (model Γ.prog Γ.w) f.A (call (.builtin "isinstance") [v', tv]) Q E s1 := by
      rintro ⟨T, e1, e2⟩
      exact ⟨_, e1, sim_isinst t1 vr1 T e2 p1⟩
    have isExc : ty = .valueError ∨ (∃ d, ty = .own d) → ∃ i c, x = .ref i ∧ h1[i]? = some (.exc c) := by
      intro q
      cases x with
      | ref i =>
        cases qi : h1[i]? with
        | none => rcases q with rfl | ⟨d, rfl⟩ <;> (simp only [isinstop, qi] at p1; exact p1.elim)
        | some o =>
          cases o with
          | exc c => exact ⟨i, c, rfl, qi⟩
          | _ => rcases q with rfl | ⟨d, rfl⟩ <;> (simp only [isinstop, qi] at p1; exact p1.elim)
      | _ => rcases q with rfl | ⟨d, rfl⟩ <;> exact p1.elim
    cases ty with
    | int => obtain ⟨tv, e1, q⟩ := notExc ⟨"int", rfl, .inl ⟨rfl, rfl⟩⟩; cases e1; cases hy; exact go _ q fun Q' q' => t1.blt ok.toFmOk cx cf hg2 (by decide) (by decide) Boot.«int» q'
    | bool => obtain ⟨tv, e1, q⟩ := notExc ⟨"bool", rfl, .inr (.inl ⟨rfl, rfl⟩)⟩; cases e1; cases hy; exact go _ q fun Q' q' => t1.blt ok.toFmOk cx cf hg2 (by decide) (by decide) Boot.«bool» q'
    | list => obtain ⟨tv, e1, q⟩ := notExc ⟨"list", rfl, .inr (.inr (.inl ⟨rfl, rfl⟩))⟩; cases e1; cases hy; exact go _ q fun Q' q' => t1.blt ok.toFmOk cx cf hg2 (by decide) (by decide) Boot.«list» q'
    | tup => obtain ⟨tv, e1, q⟩ := notExc ⟨"tuple", rfl, .inr (.inr (.inr ⟨rfl, rfl⟩))⟩; cases e1; cases hy; exact go _ q fun Q' q' => t1.blt ok.toFmOk cx cf hg2 (by decide) (by decide) Boot.«tuple» q'
    | valueError => cases hy; exact go _ (exc _ rfl (isExc (.inl rfl))) fun Q' q' => t1.blt ok.toFmOk cx cf hg2 (by decide) (by decide) Boot.«ValueError» q'
    | own d =>
      obtain ⟨C, hC, hv⟩ := cf.clsG d y hy
      exact go _ (exc _ (by show Option.map _ _ = _; rw [hC]; rfl) (isExc (.inr ⟨d, rfl⟩))) fun Q' q' => t1.glob ok.toFmOk cx hg2 hv q'
  · cases hm
end
end Sk


namespace Sk
open PySem PySem.Calls PySem.W PyProof.Rows PySem.Spec

/-! ## hidden objects -/
theorem adr_perm (f : Fm) (hid : List (Addr × Obj)) (ρ : List Addr) : (f.adr hid ρ).Perm (hid.map (·.1) ++ f.adr [] ρ) := by
  unfold Fm.adr
  simp only [List.map_nil, List.nil_append]
  rw [← List.append_assoc ρ, ← List.append_assoc ρ]
  exact List.perm_append_comm_assoc _ _ _
theorem adr_nodup {f : Fm} {hid : List (Addr × Obj)} {ρ : List Addr} : (f.adr hid ρ).Nodup ↔ (hid.map (·.1)).Nodup ∧ (f.adr [] ρ).Nodup ∧ ∀ p ∈ hid, p.1 ∉ f.adr [] ρ := by
  rw [(adr_perm f hid ρ).nodup_iff, List.nodup_append]
  constructor
  · rintro ⟨a, b, c⟩
    exact ⟨a, b, fun p hp hm => c _ (List.mem_map_of_mem hp) _ hm rfl⟩
  · rintro ⟨a, b, c⟩
    refine ⟨a, b, fun x hx y hy e => ?_⟩
    obtain ⟨p, hp, rfl⟩ := List.mem_map.mp hx
    exact c p hp (e ▸ hy)
theorem mem_adr {f : Fm} {hid : List (Addr × Obj)} {ρ : List Addr} {c : Addr} : c ∈ f.adr hid ρ ↔ c ∈ hid.map (·.1) ∨ c ∈ f.adr [] ρ := by
  rw [(adr_perm f hid ρ).mem_iff, List.mem_append]

section
variable {Γ : Cx} {f : Fm} {hid hid' : List (Addr × Obj)} {ρ : List Addr} {l : LOC} {h : HP} {s s' : Shared} {E : Value → Shared → Prop} {M : Model}

theorem At.rehid (x : At Γ f hid ρ l h s) (Z : List Addr) (hs : s' = { Γ.s₀ with heap := s'.heap, toks := s'.toks }) (k : ∀ b o, b ∉ Z → s.heap.get? b = some o → s'.heap.get? b = some o)
    (hZ : ∀ z ∈ Z, z ∉ f.adr [] ρ ∧ Γ.base.get? z = none) (hh : ∀ p ∈ hid', s'.heap.get? p.1 = some p.2) (hn : (hid'.map (·.1)).Nodup) (hf : ∀ p ∈ hid', p.1 ∉ f.adr [] ρ ∧ Γ.base.get? p.1 = none) : At Γ f hid' ρ l h s' := by
  have k' : ∀ b ∈ f.adr [] ρ, ∀ o, s.heap.get? b = some o → s'.heap.get? b = some o := fun b hb o e => k b o (fun hz => (hZ b hz).1 hb) e
  have inRho : ∀ b ∈ ρ, b ∈ f.adr [] ρ := fun b hb => List.mem_append_left _ hb
  have inCel : ∀ p ∈ f.cells, p.2 ∈ f.adr [] ρ := fun p hp => by
    unfold Fm.adr; simp only [List.mem_append]; exact .inr (.inl (List.mem_map_of_mem hp))
  have inBel : ∀ p ∈ f.fr0, p.1 ∈ f.adr [] ρ := fun p hp => by
    unfold Fm.adr; simp only [List.mem_append]; exact .inr (.inr (.inr (.inl (List.mem_map_of_mem hp))))
  have inLoc : f.env.locals ∈ f.adr [] ρ := by unfold Fm.adr; simp
  obtain ⟨m, F, hl, hm⟩ := x.frm
  have nd := adr_nodup.mp x.nodup
  refine ⟨hs, ⟨m, ⟨?_, fun b o e => k b o (fun hz => by rw [(hZ b hz).2] at e; cases e) (F.keep b o e), F.above⟩, hl, fun i y v a b => ?_⟩, fun p hp => ?_, x.len, fun i ao c a b => ?_, adr_nodup.mpr ⟨hn, nd.2.1, fun p hp => (hf p hp).1⟩, fun c hc => ?_, hh, fun p hp => ?_⟩
  · obtain ⟨oL, es, ep, e1, e2⟩ := F.ns
    exact ⟨oL, es, ep, k' _ inLoc _ e1, e2⟩
  · obtain ⟨v', h1, h2⟩ := hm i y v a b
    exact ⟨v', h1, h2.imp id fun ⟨h3, c, h4, o, h5, h6⟩ => ⟨h3, c, h4, o, k' _ (inCel _ (mem_of_lookup h4)) _ h5, h6⟩⟩
  · obtain ⟨v, o, h5, h6⟩ := x.cel p hp; exact ⟨v, o, k' _ (inCel p hp) _ h5, h6⟩
  · obtain ⟨o, h1, h2⟩ := x.obj i ao c a b; exact ⟨o, k' _ (inRho _ (List.mem_of_getElem? b)) _ h1, h2⟩
  · rcases mem_adr.mp hc with hc | hc
    · obtain ⟨p, hp, rfl⟩ := List.mem_map.mp hc; exact (hf p hp).2
    · exact x.fresh c (mem_adr.mpr (.inr hc))
  · obtain ⟨sl, e⟩ := x.below p hp; exact ⟨sl, k' _ (inBel p hp) _ e⟩

theorem At.hidOff (x : At Γ f hid ρ l h s) {p : Addr × Obj} (hp : p ∈ hid) : p.1 ∉ f.adr [] ρ ∧ Γ.base.get? p.1 = none :=
  ⟨(adr_nodup.mp x.nodup).2.2 p hp, x.fresh _ (mem_adr.mpr (.inl (List.mem_map_of_mem hp)))⟩

/-- hidden things fall away -/
theorem At.unhide {hx : List (Addr × Obj)} (x : At Γ f (hx ++ hid) ρ l h s) : At Γ f hid ρ l h s :=
  x.rehid [] x.sh (fun _ _ _ e => e) (fun _ h => by cases h) (fun p hp => x.hidden p (List.mem_append_right _ hp)) (by
    have := (adr_nodup.mp x.nodup).1
    rw [List.map_append, List.nodup_append] at this
    exact this.2.1) fun p hp => x.hidOff (List.mem_append_right _ hp)
/-- one hidden thing changes -/
theorem At.hidPut {it : Addr} {o o' : Obj} (x : At Γ f ((it, o) :: hid) ρ l h s) (hs : s' = { Γ.s₀ with heap := s'.heap, toks := s'.toks }) (k : ∀ b o, b ≠ it → s.heap.get? b = some o → s'.heap.get? b = some o)
    (ho : s'.heap.get? it = some o') : At Γ f ((it, o') :: hid) ρ l h s' := by
  have nd := (adr_nodup.mp x.nodup).1
  refine x.rehid [it] hs (fun b o hb e => k b o (by simpa using hb) e) (fun z hz => by rw [List.mem_singleton.mp hz]; exact x.hidOff (.head _)) (fun p hp => ?_) nd fun p hp => ?_
  · rcases List.mem_cons.mp hp with rfl | hp'
    · exact ho
    · refine k _ _ (fun e => ?_) (x.hidden p (.tail _ hp'))
      have := (List.nodup_cons.mp nd).1
      exact this (List.mem_map.mpr ⟨p, hp', e⟩)
  · rcases List.mem_cons.mp hp with rfl | hp'
    · exact x.hidOff (p := (it, o)) (.head _)
    · exact x.hidOff (.tail _ hp')
/-- one hidden thing falls away, changed or not -/
theorem At.hidDrop {it : Addr} {o : Obj} (x : At Γ f ((it, o) :: hid) ρ l h s) (hs : s' = { Γ.s₀ with heap := s'.heap, toks := s'.toks }) (k : ∀ b o, b ≠ it → s.heap.get? b = some o → s'.heap.get? b = some o) : At Γ f hid ρ l h s' := by
  have nd := (adr_nodup.mp x.nodup).1
  refine x.rehid [it] hs (fun b o hb e => k b o (by simpa using hb) e) (fun z hz => by rw [List.mem_singleton.mp hz]; exact x.hidOff (.head _)) (fun p hp => ?_) (List.nodup_cons.mp nd).2 fun p hp => x.hidOff (.tail _ hp)
  refine k _ _ (fun e => (List.nodup_cons.mp nd).1 (List.mem_map.mpr ⟨p, hp, e⟩)) (x.hidden p (.tail _ hp))
/-- a new hidden thing -/
theorem At.hidNew {it : Addr} {o : Obj} (x : At Γ f hid ρ l h s) (hs : s' = { Γ.s₀ with heap := s'.heap, toks := s'.toks }) (k : ∀ b o, s.heap.get? b = some o → s'.heap.get? b = some o) (hc : s.heap.objs.size ≤ it)
    (ho : s'.heap.get? it = some o) : At Γ f ((it, o) :: hid) ρ l h s' := by
  have hnew : ∀ d ∈ f.adr hid ρ, d ≠ it := fun d hd e => absurd (Nat.lt_of_lt_of_le (x.all_lt d hd) hc) (e ▸ Nat.lt_irrefl _)
  have hb : Γ.base.get? it = none := by
    cases q : Γ.base.get? it with
    | none => rfl
    | some o => exact absurd (Nat.lt_of_lt_of_le (Heap.lt_size (x.keepBase _ _ q)) hc) (Nat.lt_irrefl _)
  refine x.rehid [] hs (fun b o _ e => k b o e) (fun _ h => by cases h) (fun p hp => ?_) ?_ fun p hp => ?_
  · rcases List.mem_cons.mp hp with rfl | hp'
    · exact ho
    · exact k _ _ (x.hidden p hp')
  · rw [List.map_cons, List.nodup_cons]
    exact ⟨fun hm => hnew _ (mem_adr.mpr (.inl hm)) rfl, (adr_nodup.mp x.nodup).1⟩
  · rcases List.mem_cons.mp hp with rfl | hp'
    · exact ⟨fun hm => hnew _ (mem_adr.mpr (.inr hm)) rfl, hb⟩
    · exact x.hidOff hp'
end

/-! ## iterators -/
structure ItrP (Γ : Cx) (it : Addr) (items : List AV) (g : Grd) (H : Nat → List (Addr × Obj) → List Addr → Prop) : Prop where
  item : ∀ (f : Fm) hid ρ l h s k hx v Q E, f.A.handled = none → At Γ f (hx ++ hid) ρ l h s → H k hx ρ → okG g h = true → items[k]? = some v →
    (∀ v' hx' s', At Γ f (hx' ++ hid) ρ l h s' → H (k + 1) hx' ρ → VR ρ v v' → Q (some v') s') → wpAny (model Γ.prog Γ.w) f.A (pyNext (.ref it)) Q E s
  done : ∀ (f : Fm) hid ρ l h s k hx Q E, f.A.handled = none → At Γ f (hx ++ hid) ρ l h s → H k hx ρ → okG g h = true → items.length ≤ k →
    (∀ s', At Γ f hid ρ l h s' → Q none s') → wpAny (model Γ.prog Γ.w) f.A (pyNext (.ref it)) Q E s
  mono : ∀ k hx ρ ρ', ρ <+: ρ' → H k hx ρ → H k hx ρ'
  self : ∀ (f : Fm) hid ρ l h s k hx Q E, At Γ f (hx ++ hid) ρ l h s → H k hx ρ → Q (.ref it) s → wpAny (model Γ.prog Γ.w) f.A (pyIter (.ref it)) Q E s

theorem okG_some {i : Nat} {o : AO} {h : HP} (e : okG (some (i, o)) h = true) : h[i]? = some o := of_decide_eq_true e

section
variable {Γ : Cx}
theorem itr_range {it : Addr} {a c : Int} {n : Nat} (z : Shared → Prop := fun _ => True) : ItrP Γ it ((List.range n).map fun (k : Nat) => .int (a + (k : Int) * c)) none
    (fun k hx ρ => k ≤ n ∧ hx = [(it, { cls := .type "range_iterator", dict := none, data := .fields #[rawInt (a + (k : Int) * c), rawInt ((n : Int) - k), rawInt c], slots := #[] })]) := by
  refine ⟨fun f hid ρ l h s k hx v Q E hh t hH hg hv q => ?_, fun f hid ρ l h s k hx Q E hh t hH hg hv q => ?_, fun k hx ρ ρ' _ x => x, fun f hid ρ l h s k hx Q E t hH q => ?_⟩
  · obtain ⟨hk, rfl⟩ := hH
    rw [List.getElem?_map] at hv
    obtain ⟨j, ej, rfl⟩ := Option.map_eq_some_iff.mp hv
    obtain ⟨hj, e⟩ := List.getElem?_eq_some_iff.mp ej
    have : j = k := by simpa using e.symm
    subst this
    have hjn : j < n := by simpa using hj
    refine wpAny_pyNext_range_item (t.hidden _ (.head _)) (by omega) fun h' hi hs => ?_
    have t' := t.hidPut (s' := { s with heap := h', toks := s.toks + 1 }) (by rw [t.sh]) (fun b o hb e => (hs.2 b hb).trans e) hi
    refine q _ [(it, _)] _ t' ⟨hjn, ?_⟩ ⟨_, rfl⟩
    have e1 : a + (j : Int) * c + c = a + ((j + 1 : Nat) : Int) * c := by push_cast; rw [Int.add_mul]; omega
    have e2 : (n : Int) - j - 1 = (n : Int) - ((j + 1 : Nat) : Int) := by push_cast; omega
    rw [← e1, ← e2]
  · obtain ⟨hk, rfl⟩ := hH
    have : n ≤ k := by simpa using hv
    exact wpAny_pyNext_range_end hh (t.hidden _ (.head _)) (by omega) fun h' hs => q _ (t.hidDrop (by rw [t.sh]) fun b o hb e => hs b o hb e)
  · obtain ⟨hk, rfl⟩ := hH
    exact wpAny_pyIter_rangeiter (t.hidden _ (.head _)) q

theorem itr_list {it : Addr} {i : Nat} {vs : List AV} : ItrP Γ it vs (some (i, .list vs))
    (fun k hx ρ => ∃ ad o, ρ[i]? = some ad ∧ hx = [(it, o)] ∧ o.cls = .type "list_iterator" ∧ o.data = .fields #[.ref ad, .int (k : Nat) 0]) := by
  refine ⟨fun f hid ρ l h s k hx v Q E hh t hH hg hv q => ?_, fun f hid ρ l h s k hx Q E hh t hH hg hv q => ?_, fun k hx ρ ρ' p ⟨ad, o, e1, e2⟩ => ⟨ad, o, getElem?_pre p e1, e2⟩, fun f hid ρ l h s k hx Q E t hH q => ?_⟩
  · obtain ⟨ad, o, hi, rfl, oc, od⟩ := hH
    obtain ⟨ol, g1, r1⟩ := t.obj i _ ad (okG_some hg) hi
    obtain ⟨vs', l1, v1⟩ := isList_of g1 r1
    obtain ⟨v', e1, e2⟩ := v1.get hv
    refine wpAny_pyNext_list_item (i := k) ⟨o, t.hidden _ (.head _), oc, od⟩ l1 (by simpa using e1) fun h' hn hs => ?_
    obtain ⟨o', g2, oc', od'⟩ := hn
    exact q _ _ _ (t.hidPut (by rw [t.sh]) (fun b o hb e => (hs.2 b hb).trans e) g2) ⟨ad, o', hi, rfl, oc', od'⟩ e2
  · obtain ⟨ad, o, hi, rfl, oc, od⟩ := hH
    obtain ⟨ol, g1, r1⟩ := t.obj i _ ad (okG_some hg) hi
    obtain ⟨vs', l1, v1⟩ := isList_of g1 r1
    refine wpAny_pyNext_list_end (i := k) hh ⟨o, t.hidden _ (.head _), oc, od⟩ l1 (by simp [v1.length]; exact hv) fun h' hs => q _ (t.hidDrop (by rw [t.sh]) fun b o hb e => hs b o hb e)
  · obtain ⟨ad, o, hi, rfl, oc, od⟩ := hH
    exact wpAny_pyIter_listiter (i := k) ⟨o, t.hidden _ (.head _), oc, od⟩ q

theorem itr_tup {it : Addr} {i : Nat} {vs : List AV} : ItrP Γ it vs (some (i, .tup vs))
    (fun k hx ρ => ∃ ad o, ρ[i]? = some ad ∧ hx = [(it, o)] ∧ o.cls = .type "tuple_iterator" ∧ o.data = .fields #[.ref ad, .int (k : Nat) 0]) := by
  refine ⟨fun f hid ρ l h s k hx v Q E hh t hH hg hv q => ?_, fun f hid ρ l h s k hx Q E hh t hH hg hv q => ?_, fun k hx ρ ρ' p ⟨ad, o, e1, e2⟩ => ⟨ad, o, getElem?_pre p e1, e2⟩, fun f hid ρ l h s k hx Q E t hH q => ?_⟩
  · obtain ⟨ad, o, hi, rfl, oc, od⟩ := hH
    obtain ⟨ol, g1, r1⟩ := t.obj i _ ad (okG_some hg) hi
    obtain ⟨vs', l1, _, v1⟩ := isTup_of g1 r1
    obtain ⟨v', e1, e2⟩ := v1.get hv
    refine wpAny_pyNext_tuple_item (i := k) ⟨o, t.hidden _ (.head _), oc, od⟩ l1 (by simpa using e1) fun h' hn hs => ?_
    obtain ⟨o', g2, oc', od'⟩ := hn
    exact q _ _ _ (t.hidPut (by rw [t.sh]) (fun b o hb e => (hs.2 b hb).trans e) g2) ⟨ad, o', hi, rfl, oc', od'⟩ e2
  · obtain ⟨ad, o, hi, rfl, oc, od⟩ := hH
    obtain ⟨ol, g1, r1⟩ := t.obj i _ ad (okG_some hg) hi
    obtain ⟨vs', l1, _, v1⟩ := isTup_of g1 r1
    refine wpAny_pyNext_tuple_end (i := k) hh ⟨o, t.hidden _ (.head _), oc, od⟩ l1 (by simp [v1.length]; exact hv) fun h' hs => q _ (t.hidDrop (by rw [t.sh]) fun b o hb e => hs b o hb e)
  · obtain ⟨ad, o, hi, rfl, oc, od⟩ := hH
    exact wpAny_pyIter_tupleiter (i := k) ⟨o, t.hidden _ (.head _), oc, od⟩ q

theorem itr_rev {it : Addr} {i : Nat} {vs : List AV} : ItrP Γ it vs.reverse (some (i, .list vs))
    (fun k hx ρ => k ≤ vs.length ∧ ∃ ad o, ρ[i]? = some ad ∧ hx = [(it, o)] ∧ o.cls = .type "list_reverseiterator" ∧ o.data = .fields #[.ref ad, rawInt ((vs.length : Int) - 1 - k)]) := by
  refine ⟨fun f hid ρ l h s k hx v Q E hh t hH hg hv q => ?_, fun f hid ρ l h s k hx Q E hh t hH hg hv q => ?_, fun k hx ρ ρ' p ⟨e0, ad, o, e1, e2⟩ => ⟨e0, ad, o, getElem?_pre p e1, e2⟩, fun f hid ρ l h s k hx Q E t hH q => ?_⟩
  · obtain ⟨hk, ad, o, hi, rfl, oc, od⟩ := hH
    obtain ⟨ol, g1, r1⟩ := t.obj i _ ad (okG_some hg) hi
    obtain ⟨vs', l1, v1⟩ := isList_of g1 r1
    have hkl : k < vs.length := by have := (List.getElem?_eq_some_iff.mp hv).1; simpa using this
    rw [List.getElem?_reverse hkl] at hv
    obtain ⟨v', e1, e2⟩ := v1.get hv
    have eq1 : (vs.length : Int) - 1 - k = ((vs.length - 1 - k : Nat) : Int) := by omega
    rw [eq1] at od
    refine wpAny_pyNext_rev_item (i := vs.length - 1 - k) ⟨o, t.hidden _ (.head _), oc, od⟩ l1 (by simpa using e1) fun h' hn hs => ?_
    obtain ⟨o', g2, oc', od'⟩ := hn
    refine q _ _ _ (t.hidPut (by rw [t.sh]) (fun b o hb e => (hs.2 b hb).trans e) g2) ⟨hkl, ad, o', hi, rfl, oc', ?_⟩ e2
    have e3 : ((vs.length - 1 - k : Nat) : Int) - 1 = (vs.length : Int) - 1 - ((k + 1 : Nat) : Int) := by omega
    rw [od', e3]
  · obtain ⟨hk, ad, o, hi, rfl, oc, od⟩ := hH
    have : (vs.length : Int) - 1 - k = -1 := by simp at hv; omega
    rw [this] at od
    refine wpAny_pyNext_rev_end hh ⟨o, t.hidden _ (.head _), oc, od⟩ fun h' hs => q _ (t.hidDrop (by rw [t.sh]) fun b o hb e => hs b o hb e)
  · obtain ⟨hk, ad, o, hi, rfl, oc, od⟩ := hH
    exact wpAny_pyIter_revIter ⟨o, t.hidden _ (.head _), oc, od⟩ q
end
end Sk


namespace Sk
open PySem PySem.Calls PySem.W PyProof.Rows PySem.Spec

section
variable {Γ : Cx} {f f' : Fm} {hid HC : List (Addr × Obj)} {ρ ρ' : List Addr} {l l' : LOC} {h h' : HP} {s s' : Shared} {oL : Obj}

theorem At.locObj (x : At Γ f hid ρ l h s) : ∃ o, s.heap.get? f.env.locals = some o := let ⟨_, F, _⟩ := x.frm; let ⟨o, _, _, e, _⟩ := F.ns; ⟨o, e⟩

/-- a frame above this one has been left -/
theorem At.leave (x : At Γ f hid ρ l h s) (y : At Γ f' (HC ++ hid) ρ' l' h' s') (p : ρ <+: ρ') (hL : s.heap.get? f.env.locals = some oL) (hfr : f'.fr0 = (f.env.locals, oL) :: f.fr0)
    (hc : ∀ q ∈ f.cells, (∃ o, (q.2, o) ∈ HC ∧ s.heap.get? q.2 = some o) ∨ (q ∈ f'.cells ∧ ∀ k : Nat, f.slots[k]? = some (some q.1) → f'.slots[k]? = some (some q.1) ∧ l'[k]? = l[k]? ∧ f'.env.kindOf q.1 ≠ some .local ∧ f'.cells.lookup q.1 = some q.2)) : At Γ f hid ρ' l h' s' := by
  obtain ⟨m, F, hl, hm⟩ := x.frm
  obtain ⟨m', F', hl', hm'⟩ := y.frm
  have hbelow : ∃ sl, s'.heap.get? f.env.locals = some { oL with slots := sl } := y.below (f.env.locals, oL) (by rw [hfr]; exact .head _)
  have ns : s'.heap.Ns f.env.locals m := by
    obtain ⟨o, es, ep, e1, e2, e3⟩ := F.ns
    obtain ⟨sl, e⟩ := hbelow
    rw [hL] at e1; cases e1
    exact ⟨_, es, ep, e, e2, e3⟩
  have xn := x.nodup
  have yn := y.nodup
  unfold Fm.adr at xn yn
  rw [List.nodup_append] at xn yn
  have sub : ∀ c ∈ f.cells.map (·.2) ++ (hid.map (·.1) ++ (f.fr0.map (·.1) ++ [f.env.locals])), c ∈ f'.cells.map (·.2) ++ ((HC ++ hid).map (·.1) ++ (f'.fr0.map (·.1) ++ [f'.env.locals])) := by
    intro c hcm
    simp only [List.mem_append, List.map_append, hfr, List.map_cons, List.mem_cons] at hcm ⊢
    rcases hcm with hcm | hcm | hcm | hcm
    · obtain ⟨q, hq, rfl⟩ := List.mem_map.mp hcm
      rcases hc q hq with ⟨o, ho, _⟩ | ⟨ho, _⟩
      · exact .inr (.inl (.inl (List.mem_map.mpr ⟨_, ho, rfl⟩)))
      · exact .inl (List.mem_map_of_mem ho)
    · exact .inr (.inl (.inr hcm))
    · exact .inr (.inr (.inl (.inr hcm)))
    · rcases hcm with rfl | hcm
      · exact .inr (.inr (.inl (.inl rfl)))
      · cases hcm
  refine ⟨y.sh, ⟨m, ⟨ns, y.keepBase, F.above⟩, hl, fun k z v a b => ?_⟩, fun q hq => ?_, y.len, y.obj, ?_, fun c hcm => ?_, fun q hq => y.hidden q (List.mem_append_right _ hq), fun q hq => y.below q (by rw [hfr]; exact .tail _ hq)⟩
  · obtain ⟨v', h1, h2⟩ := hm k z v a b
    rcases h2 with ⟨h3, h4⟩ | ⟨h3, c, h4, h5⟩
    · exact ⟨v', h1.mono p, .inl ⟨h3, h4⟩⟩
    · rcases hc _ (mem_of_lookup h4) with ⟨o, ho, hg⟩ | ⟨ho, hk⟩
      · obtain ⟨o', e1, e2⟩ := h5
        rw [hg] at e1; cases e1
        exact ⟨v', h1.mono p, .inr ⟨h3, c, h4, o, y.hidden _ (List.mem_append_left _ ho), e2⟩⟩
      · obtain ⟨k1, k2, k3, k4⟩ := hk k a
        obtain ⟨v'', j1, j2⟩ := hm' k z v k1 (k2.trans b)
        refine ⟨v'', j1, .inr ⟨h3, c, h4, ?_⟩⟩
        rcases j2 with ⟨j3, _⟩ | ⟨_, c', j4, j5⟩
        · exact absurd j3 k3
        · have : c' = c := Option.some.inj (j4.symm.trans k4)
          subst this; exact j5
  · rcases hc q hq with ⟨o, ho, hg⟩ | ⟨ho, _⟩
    · obtain ⟨v, o', e1, e2⟩ := x.cel q hq
      rw [hg] at e1; cases e1
      exact ⟨v, o, y.hidden _ (List.mem_append_left _ ho), e2⟩
    · exact y.cel q ho
  · unfold Fm.adr
    rw [List.nodup_append]
    exact ⟨yn.1, xn.2.1, fun a ha b hb => yn.2.2 a ha b (sub b hb)⟩
  · unfold Fm.adr at hcm
    rcases List.mem_append.mp hcm with hcm | hcm
    · exact y.fresh c (List.mem_append_left _ hcm)
    · exact x.fresh c (List.mem_append_right _ hcm)

/-- a frame is laid above this one -/
theorem At.enter (x : At Γ f hid ρ l h s) (hs : s' = { Γ.s₀ with heap := s'.heap, toks := s'.toks }) (k : ∀ b o, s.heap.get? b = some o → s'.heap.get? b = some o)
    (hL : s.heap.get? f.env.locals = some oL) (hfr : f'.fr0 = (f.env.locals, oL) :: f.fr0) (hHC : ∀ q ∈ HC, s.heap.get? q.1 = some q.2)
    (hN : (f'.cells.map (·.2) ++ (HC.map (·.1) ++ [f'.env.locals])).Nodup) (hM : ∀ c ∈ f'.cells.map (·.2) ++ HC.map (·.1), c ∈ f.cells.map (·.2) ∨ s.heap.objs.size ≤ c) (hM' : s.heap.objs.size ≤ f'.env.locals)
    (hcel : ∀ q ∈ f'.cells, ∃ v, s'.heap.IsCell q.2 v)
    (hm : ∃ m, s'.heap.Ns f'.env.locals m ∧ l'.length = f'.slots.length ∧ ∀ (k : Nat) (y : Str) (v : AV), f'.slots[k]? = some (some y) → l'[k]? = some (some v) →
      ∃ v', VR ρ v v' ∧ ((f'.env.kindOf y = some .local ∧ m y = some v') ∨ (f'.env.kindOf y ≠ some .local ∧ ∃ c, f'.cells.lookup y = some c ∧ s'.heap.IsCell c (some v')))) : At Γ f' (HC ++ hid) ρ l' h s' := by
  obtain ⟨m, hn, hl, hr⟩ := hm
  have base_none : ∀ c, s.heap.objs.size ≤ c → Γ.base.get? c = none := fun c hc => by
    cases q : Γ.base.get? c with
    | none => rfl
    | some o => exact absurd (Nat.lt_of_lt_of_le (Heap.lt_size (x.keepBase _ _ q)) hc) (Nat.lt_irrefl _)
  have above : Γ.base.objs.size ≤ f'.env.locals := by
    obtain ⟨_, F, _⟩ := x.frm
    exact Nat.le_trans (Nat.le_trans F.above (Nat.le_of_lt F.ns.lt)) hM'
  have perm : (f'.adr (HC ++ hid) ρ).Perm ((f'.cells.map (·.2) ++ (HC.map (·.1) ++ [f'.env.locals])) ++ (ρ ++ (hid.map (·.1) ++ (f.fr0.map (·.1) ++ [f.env.locals])))) := by
    unfold Fm.adr
    rw [hfr, List.map_cons, ← List.singleton_append, List.map_append]
    refine List.perm_iff_count.mpr fun a => ?_
    simp only [List.count_append]
    omega
  have permX : (f.adr hid ρ).Perm (f.cells.map (·.2) ++ (ρ ++ (hid.map (·.1) ++ (f.fr0.map (·.1) ++ [f.env.locals])))) := by
    unfold Fm.adr
    refine List.perm_iff_count.mpr fun a => ?_
    simp only [List.count_append]
    omega
  have xn := permX.nodup_iff.mp x.nodup
  rw [List.nodup_append] at xn
  have inX : ∀ c ∈ ρ ++ (hid.map (·.1) ++ (f.fr0.map (·.1) ++ [f.env.locals])), c ∈ f.adr hid ρ := fun c hc => permX.mem_iff.mpr (List.mem_append_right _ hc)
  have hMM : ∀ c ∈ f'.cells.map (·.2) ++ (HC.map (·.1) ++ [f'.env.locals]), c ∈ f.cells.map (·.2) ∨ s.heap.objs.size ≤ c := fun c hc => by
    rw [← List.append_assoc] at hc
    rcases List.mem_append.mp hc with hc | hc
    · exact hM c hc
    · rw [List.mem_singleton.mp hc]; exact .inr hM'
  have y := x.grow hs k
  refine ⟨hs, ⟨m, ⟨hn, y.keepBase, above⟩, hl, hr⟩, hcel, x.len, y.obj, ?_, fun c hc => ?_, fun q hq => ?_, fun q hq => ?_⟩
  · rw [perm.nodup_iff, List.nodup_append]
    refine ⟨hN, xn.2.1, fun a ha b hb e => ?_⟩
    subst e
    rcases hMM a ha with hc | hc
    · exact xn.2.2 a hc a hb rfl
    · exact absurd (Nat.lt_of_lt_of_le (x.all_lt a (inX a hb)) hc) (Nat.lt_irrefl _)
  · rcases List.mem_append.mp (perm.mem_iff.mp hc) with hc | hc
    · rcases hMM c hc with hc | hc
      · exact x.fresh c (permX.mem_iff.mpr (List.mem_append_left _ hc))
      · exact base_none c hc
    · exact x.fresh c (inX c hc)
  · rcases List.mem_append.mp hq with hq | hq
    · exact k _ _ (hHC q hq)
    · exact y.hidden q hq
  · rw [hfr] at hq
    rcases List.mem_cons.mp hq with rfl | hq
    · exact ⟨oL.slots, k _ _ hL⟩
    · exact y.below q hq
end
end Sk


namespace Sk
open PySem PySem.Calls PySem.W PyProof.Rows PySem.Spec

noncomputable def IterPost (Γ : Cx) (f : Fm) (hid : List (Addr × Obj)) (ρ : List Addr) (l : LOC) (Q : Value → Shared → Prop) (r : List AV × Grd) (h' : HP) : Prop :=
  ∀ it H hx ρ' s', ρ <+: ρ' → ItrP Γ it r.1 r.2 H → H 0 hx ρ' → okG r.2 h' = true → At Γ f (hx ++ hid) ρ' l h' s' → Q (.ref it) s'
noncomputable def IterQ (Γ : Cx) (f : Fm) (hid : List (Addr × Obj)) (ρ : List Addr) (l : LOC) (ik : IK) (Q : Value → Shared → Prop) (vs : List AV) (h' : HP) : Prop :=
  match itemsOf ik vs h' with
  | some r => IterPost Γ f hid ρ l Q r h'
  | Option.none => False

theorem mt_nofold {tx : Tx} {sc : Sc} {c : CE} {e : Expr} (h : mtE tx sc c e = true) (env : Env) (x : Value) : foldedSetIterable e env x = pure x := by
  cases e with
  | Set a b d => cases c <;> simp [mtE] at h
  | _ => rfl
theorem mts_one {tx : Tx} {sc : Sc} {es : CEs} {e : Expr} (h : mtEs tx sc es [e] = true) : ∃ c, es = .cons c .nil ∧ mtE tx sc c e = true := by
  cases es with
  | nil => unfold mtEs at h; cases h
  | cons c r =>
    unfold mtEs at h
    simp only [Bool.and_eq_true] at h
    cases r with
    | nil => exact ⟨c, rfl, h.1⟩
    | cons d r => have := h.2; unfold mtEs at this; cases this
theorem mtIter_cases {tx : Tx} {sc : Sc} {ik : IK} {es : CEs} {e : Expr} (h : mtIter tx sc ik es e = true) :
    (ik = .val ∧ ∃ c, es = .cons c .nil ∧ mtE tx sc c e = true) ∨ ∃ x px args pos, e = .Call (.Name x px) args [] pos ∧ mtEs tx sc es args = true ∧ glb sc x = true ∧ ((x = "range" ∧ (ik = .range1 ∨ ik = .range3)) ∨ (x = "reversed" ∧ ik = .rev)) := by
  unfold mtIter itArgs at h
  cases ik with
  | val => exact .inl ⟨rfl, mts_one h⟩
  | enum => cases h
  | range1 =>
    simp only at h
    split at h
    · rename_i args hargs
      split at hargs
      · split at hargs
        · rename_i hx
          cases hargs
          simp only [Bool.and_eq_true, beq_iff_eq] at hx
          exact .inr ⟨_, _, _, _, rfl, h, hx.1.2, .inl ⟨hx.1.1, .inl rfl⟩⟩
        · cases hargs
      · cases hargs
    · cases h
  | range3 =>
    simp only at h
    split at h
    · rename_i args hargs
      split at hargs
      · split at hargs
        · rename_i hx
          cases hargs
          simp only [Bool.and_eq_true, beq_iff_eq] at hx
          exact .inr ⟨_, _, _, _, rfl, h, hx.1.2, .inl ⟨hx.1.1, .inr rfl⟩⟩
        · cases hargs
      · cases hargs
    · cases h
  | rev =>
    simp only at h
    split at h
    · rename_i args hargs
      split at hargs
      · split at hargs
        · rename_i hx
          cases hargs
          simp only [Bool.and_eq_true, beq_iff_eq] at hx
          exact .inr ⟨_, _, _, _, rfl, h, hx.1.2, .inr ⟨hx.1.1, rfl⟩⟩
        · cases hargs
      · cases hargs
    · cases h
theorem mtIter_nofold {tx : Tx} {sc : Sc} {ik : IK} {es : CEs} {e : Expr} (h : mtIter tx sc ik es e = true) (env : Env) (x : Value) : foldedSetIterable e env x = pure x := by
  rcases mtIter_cases h with ⟨_, c, _, hm⟩ | ⟨_, _, _, _, rfl, _⟩
  · exact mt_nofold hm env x
  · rfl

section
variable {Γ : Cx} {Rz : Rise} {cl : CallO} {n : Nat} {f : Fm} {hid : List (Addr × Obj)} {ρ ρ' : List Addr} {l : LOC} {h : HP} {s : Shared} {E : Value → Shared → Prop} {Q : Value → Shared → Prop}

theorem small_pos {a b c : Int} (ha : a.natAbs < 2 ^ 60) (hb : b.natAbs < 2 ^ 60) (hc : 0 < c) (hc' : c.natAbs < 2 ^ 60) : Builtin.Range.small a b c = true := by
  have hd : (b - a - 1) / c ≤ b - a - 1 ∨ b - a - 1 < 0 := by
    by_cases q : b - a - 1 < 0
    · exact .inr q
    · exact .inl (Int.ediv_le_self _ (by omega))
  have hd0 : a < b → 0 ≤ (b - a - 1) / c := fun q => Int.ediv_nonneg (by omega) (by omega)
  unfold Builtin.Range.small Builtin.Range.rangeSize
  simp only [Builtin.Range.rangeFitsLong, Bool.and_eq_true, Bool.or_eq_true, decide_eq_true_eq, beq_iff_eq, show c > 0 from hc, if_true]
  split
  · rename_i q
    have := hd0 q
    refine ⟨⟨⟨⟨?_, ?_⟩, ?_⟩, ?_⟩, .inr ?_⟩ <;> omega
  · refine ⟨⟨⟨⟨?_, ?_⟩, ?_⟩, ?_⟩, .inl rfl⟩ <;> omega

theorem sim_iter {ik : IK} {es : CEs} {iter : Expr} (cx : CxOk Γ) (cf : CxFn Γ) (he : SimL Γ Rz cl n es) (hv : ∀ c, es = .cons c .nil → SimV Γ Rz cl n c) (ok : FmK n f) (hm : mtIter Γ.tx f.sc ik es iter = true) (t : At Γ f hid ρ l h s)
    (p : Post (evs Γ.G cl es l h) (IterQ Γ f hid ρ l ik Q) (EXQ Rz f hid ρ l E)) :
    wpAny (model Γ.prog Γ.w) f.A (eval iter f.env) (fun x s₁ => wpAny (model Γ.prog Γ.w) f.A (pyIter x) Q E s₁) E s := by
  have hmc := mtIter_cases hm
  cases ik with
  | enum => cases hm
  | val =>
    rcases hmc with ⟨_, c, rfl, hmv⟩ | ⟨_, _, _, _, _, _, _, hq⟩
    · unfold evs at p
      refine hv c rfl f _ ok hmv hid ρ l h s _ E t (p.thenE fun x h1 p1 v' ρ1 s1 pre1 t1 vr1 => ?_)
      simp only [evs, R.bind, Post, IterQ, itemsOf] at p1
      cases x with
      | ref i =>
        obtain ⟨ad, had, rfl⟩ := vr1
        simp only at p1
        split at p1
        · rename_i r er
          split at er
          · rename_i vs ei
            cases er
            obtain ⟨o, g1, r1⟩ := t1.obj i _ ad ei had
            obtain ⟨vs', l1, v1⟩ := isList_of g1 r1
            refine wpAny_pyIter_list l1 (p1 _ _ [(_, _)] _ _ pre1 itr_list ⟨ad, _, had, rfl, rfl, rfl⟩ (by simp [okG, ei]) (t1.hidNew (by rw [t1.sh]) (fun b o e => Heap.get?_push_of_some _ e) (Nat.le_refl _) (Heap.get?_push_size _ rfl)))
          · rename_i vs ei
            cases er
            obtain ⟨o, g1, r1⟩ := t1.obj i _ ad ei had
            obtain ⟨vs', l1, _, v1⟩ := isTup_of g1 r1
            refine wpAny_pyIter_tuple l1 (p1 _ _ [(_, _)] _ _ pre1 itr_tup ⟨ad, _, had, rfl, rfl, rfl⟩ (by simp [okG, ei]) (t1.hidNew (by rw [t1.sh]) (fun b o e => Heap.get?_push_of_some _ e) (Nat.le_refl _) (Heap.get?_push_size _ rfl)))
          · cases er
        · exact p1.elim
      | _ => exact p1.elim
    · rcases hq with ⟨_, q | q⟩ | ⟨_, q⟩ <;> cases q
  | range1 =>
    rcases hmc with ⟨q, _⟩ | ⟨_, _, _, _, rfl, m1, hg, hq⟩
    · cases q
    · have hx := hq
      rcases hx with ⟨hx, q⟩ | ⟨hx, q⟩
      all_goals first | (cases q; done) | (rcases q with q | q <;> cases q; done) | skip
      subst hx
      refine Call_Name rfl (t.blt ok.toFmOk cx cf hg (by decide) (by decide) Boot.«range» ?_)
      refine PySem.callWith_type (first := []) (mts_plain _ _ m1) (evalArgs_any (mts_plain _ _ m1) (he f _ _ ok m1 hid ρ l h s _ E t (p.mono (fun vs h1 p1 vs' ρ1 s1 pre1 t1 vr1 => ?_) fun _ _ x => x)))
      unfold IterQ at p1
      split at p1
      · rename_i r er
        unfold itemsOf at er
        split at er
        all_goals first | cases er; done | skip
        all_goals first | (rename_i q; cases q; done) | skip
        rename_i m _
        split at er
        · rename_i hz
          cases er
          cases vr1 with
          | cons v1 r1 =>
            cases r1
            obtain ⟨u, rfl⟩ := v1
            refine call_range_1 ?_
            have hsz : Builtin.Range.rangeSize 0 m 1 = (m.toNat : Int) := by rw [rangeSize_one]; split <;> omega
            refine wpAny_pyIter_range (IsRange.new ..) (small_one (by decide) (by decide) (by omega) (by omega)) ?_
            rw [hsz]
            have ta := t1.grow (s' := { s1 with heap := s1.heap.push { cls := .type "range", data := .fields #[.int 0 s1.toks, .int m u, .int 1 (s1.toks + 1)] }, toks := s1.toks + 1 + 1 }) (by rw [t1.sh]) fun b o e => Heap.get?_push_of_some _ e
            have e0 : (List.range m.toNat).map (fun (k : Nat) => AV.int (k : Int)) = (List.range m.toNat).map fun (k : Nat) => AV.int (0 + (k : Int) * 1) := by simp
            have I := fun it => itr_range (Γ := Γ) (it := it) (a := 0) (c := 1) (n := m.toNat)
            rw [← e0] at I
            refine p1 _ _ [(_, _)] _ _ pre1 (I _) ⟨Nat.zero_le _, by simp⟩ rfl (ta.hidNew (by rw [t1.sh]) (fun b o e => Heap.get?_push_of_some _ e) (Nat.le_refl _) (Heap.get?_push_size _ rfl))
        · cases er
      · exact p1.elim
  | range3 =>
    rcases hmc with ⟨q, _⟩ | ⟨_, _, _, _, rfl, m1, hg, hq⟩
    · cases q
    · have hx := hq
      rcases hx with ⟨hx, q⟩ | ⟨hx, q⟩
      all_goals first | (cases q; done) | (rcases q with q | q <;> cases q; done) | skip
      subst hx
      refine Call_Name rfl (t.blt ok.toFmOk cx cf hg (by decide) (by decide) Boot.«range» ?_)
      refine PySem.callWith_type (first := []) (mts_plain _ _ m1) (evalArgs_any (mts_plain _ _ m1) (he f _ _ ok m1 hid ρ l h s _ E t (p.mono (fun vs h1 p1 vs' ρ1 s1 pre1 t1 vr1 => ?_) fun _ _ x => x)))
      unfold IterQ at p1
      split at p1
      · rename_i r er
        unfold itemsOf at er
        split at er
        all_goals first | cases er; done | skip
        all_goals first | (rename_i q; cases q; done) | skip
        rename_i a b c _
        split at er
        · rename_i hz
          cases er
          obtain ⟨ha, hb, hc, hc'⟩ := hz
          cases vr1 with
          | cons v1 r1 =>
            cases r1 with
            | cons v2 r2 =>
              cases r2 with
              | cons v3 r3 =>
                cases r3
                obtain ⟨u1, rfl⟩ := v1
                obtain ⟨u2, rfl⟩ := v2
                obtain ⟨u3, rfl⟩ := v3
                refine call_range_3 (by omega) ?_ (.inl (noPylong_div (Nat.lt_of_lt_of_le hc' (by decide))))
                have hsz : Builtin.Range.rangeSize a b c = ((if a < b then (b - a - 1) / c + 1 else 0).toNat : Int) := by
                  unfold Builtin.Range.rangeSize
                  rw [if_pos hc]
                  split
                  · have : 0 ≤ (b - a - 1) / c := Int.ediv_nonneg (by omega) (by omega)
                    omega
                  · rfl
                refine wpAny_pyIter_range (IsRange.new ..) (small_pos ha hb hc hc') ?_
                rw [hsz]
                have ta := t1.grow (s' := { s1 with heap := s1.heap.push { cls := .type "range", data := .fields #[.int a u1, .int b u2, .int c u3] }, toks := s1.toks }) (by rw [t1.sh]) fun b o e => Heap.get?_push_of_some _ e
                refine p1 _ _ [(_, _)] _ _ pre1 itr_range ⟨Nat.zero_le _, by simp⟩ rfl (ta.hidNew (by rw [t1.sh]) (fun b o e => Heap.get?_push_of_some _ e) (Nat.le_refl _) (Heap.get?_push_size _ rfl))
        · cases er
      · exact p1.elim
  | rev =>
    rcases hmc with ⟨q, _⟩ | ⟨_, _, _, _, rfl, m1, hg, hq⟩
    · cases q
    · have hx := hq
      rcases hx with ⟨hx, q⟩ | ⟨hx, q⟩
      all_goals first | (cases q; done) | (rcases q with q | q <;> cases q; done) | skip
      subst hx
      refine Call_Name rfl (t.blt ok.toFmOk cx cf hg (by decide) (by decide) Boot.«reversed» ?_)
      refine PySem.callWith_type (first := []) (mts_plain _ _ m1) (evalArgs_any (mts_plain _ _ m1) (he f _ _ ok m1 hid ρ l h s _ E t (p.mono (fun vs h1 p1 vs' ρ1 s1 pre1 t1 vr1 => ?_) fun _ _ x => x)))
      unfold IterQ at p1
      split at p1
      · rename_i r er
        unfold itemsOf at er
        split at er
        all_goals first | cases er; done | skip
        all_goals first | (rename_i q; cases q; done) | skip
        rename_i i _
        split at er
        · rename_i ws ei
          cases er
          cases vr1 with
          | cons v1 r1 =>
            cases r1
            obtain ⟨ad, had, rfl⟩ := v1
            obtain ⟨o, g1, r1⟩ := t1.obj i _ ad ei had
            obtain ⟨ws', l1, v1⟩ := isList_of g1 r1
            refine call_reversed_list l1 ?_
            have hi : ({ s1 with heap := s1.heap.push (revObj ad ((ws'.toArray.size : Int) - 1)) } : Shared).heap.IsRevIter s1.heap.objs.size ad ((ws'.toArray.size : Int) - 1) := ⟨_, Heap.get?_push_size _ rfl, rfl, rfl⟩
            refine wpAny_pyIter_revIter hi ?_
            refine p1 _ _ [(_, _)] _ _ pre1 itr_rev ⟨Nat.zero_le _, ad, _, had, rfl, rfl, ?_⟩ (by simp [okG, ei]) (t1.hidNew (by rw [t1.sh]) (fun b o e => Heap.get?_push_of_some _ e) (Nat.le_refl _) (Heap.get?_push_size _ rfl))
            simp [revObj, v1.length]
        · cases er
      · exact p1.elim
end
end Sk


namespace Sk
open PySem PySem.Calls PySem.W PyProof.Rows PySem.Spec

/-! ## the closure of a comprehension -/
noncomputable def closL (cells : List (Str × Addr)) : List (Str × NameKind) → List (Str × Addr)
  | [] => []
  | (n, k) :: r => if k == .free then closL cells r ++ [(n, (cells.lookup n).getD 0)] else closL cells r
theorem closure_eq {env : Env} {scope : Scope} (h : ∀ p ∈ scope.names, p.2 = .free → ∃ c, env.cells.lookup p.1 = some c) : closureFor scope env = pure (closL env.cells scope.names) := by
  unfold closureFor
  generalize scope.names = names at h ⊢
  have key : ∀ (names : List (Str × NameKind)) (acc : List (Str × Addr)) (f : Str × NameKind → List (Str × Addr) → Sem (ForInStep (List (Str × Addr)))),
      (∀ name kind acc, f (name, kind) acc = if (kind == .free) = true then (do let c ← cellOf env name; pure (.yield ((name, c) :: acc))) else pure (.yield acc)) →
      (∀ p ∈ names, p.2 = .free → ∃ c, env.cells.lookup p.1 = some c) → forIn names acc f = pure (closL env.cells names ++ acc) := by
    intro names
    induction names with
    | nil => intro acc f _ _; rfl
    | cons p r ih =>
      obtain ⟨n, k⟩ := p
      intro acc f hf hc
      rw [List.forIn_cons, hf]
      unfold closL
      by_cases hk : (k == NameKind.free) = true
      · rw [if_pos hk, if_pos hk]
        obtain ⟨c, e⟩ := hc (n, k) (.head _) (eq_of_beq hk)
        have : cellOf env n = pure c := by unfold cellOf; rw [e]
        rw [this, pure_bind, pure_bind]
        simp only
        rw [ih _ f hf fun p hp => hc p (.tail _ hp), e]
        simp
      · rw [if_neg hk, if_neg hk, pure_bind]
        simp only
        exact ih _ f hf fun p hp => hc p (.tail _ hp)
  dsimp only
  rw [key names [] _ ?hf h, List.append_nil]
  · rfl
  case hf =>
    intro name kind acc
    simp only

theorem mem_closL {cells : List (Str × Addr)} : ∀ {names : List (Str × NameKind)} {q : Str × Addr}, q ∈ closL cells names → (q.1, .free) ∈ names ∧ q.2 = (cells.lookup q.1).getD 0
  | [], q, h => by cases h
  | (n, k) :: r, q, h => by
    unfold closL at h
    split at h
    · rename_i hk
      rcases List.mem_append.mp h with h | h
      · obtain ⟨a, b⟩ := mem_closL h; exact ⟨.tail _ a, b⟩
      · cases List.mem_singleton.mp h
        rw [eq_of_beq hk]
        exact ⟨.head _, rfl⟩
    · obtain ⟨a, b⟩ := mem_closL h; exact ⟨.tail _ a, b⟩
theorem closL_nodup {cells : List (Str × Addr)} : ∀ {names : List (Str × NameKind)}, (names.map (·.1)).Nodup → ((closL cells names).map (·.1)).Nodup
  | [], _ => List.nodup_nil
  | (n, k) :: r, h => by
    rw [List.map_cons, List.nodup_cons] at h
    unfold closL
    split
    · rw [List.map_append, List.nodup_append]
      refine ⟨closL_nodup h.2, by simp, fun a ha b hb e => ?_⟩
      obtain ⟨q, hq, rfl⟩ := List.mem_map.mp ha
      simp only [List.map_cons, List.map_nil, List.mem_singleton] at hb
      exact h.1 (List.mem_map.mpr ⟨_, (mem_closL hq).1, (e.trans hb)⟩)
    · exact closL_nodup h.2
theorem closL_has {cells : List (Str × Addr)} : ∀ {names : List (Str × NameKind)} {n : Str}, (n, .free) ∈ names → (n, (cells.lookup n).getD 0) ∈ closL cells names
  | (m, k) :: r, n, h => by
    unfold closL
    rcases List.mem_cons.mp h with e | h
    · cases e
      rw [if_pos (by rfl)]
      exact List.mem_append_right _ (.head _)
    · split
      · exact List.mem_append_left _ (closL_has h)
      · exact closL_has h
theorem lookup_of_mem {β : Type} {n : Str} {c : β} : ∀ {l : List (Str × β)}, (l.map (·.1)).Nodup → (n, c) ∈ l → l.lookup n = some c
  | (m, d) :: r, hn, h => by
    rw [List.map_cons, List.nodup_cons] at hn
    rw [List.lookup_cons]
    rcases List.mem_cons.mp h with e | h
    · cases e; simp
    · by_cases q : (n == m) = true
      · exact absurd (List.mem_map.mpr ⟨_, h, eq_of_beq q⟩) hn.1
      · rw [Bool.eq_false_iff.mpr q]; exact lookup_of_mem hn.2 h

theorem rel_lookup (sc : Sc) : ∀ (names : List (Str × NameKind)) (n : Str), (relNames sc names).lookup n = (names.lookup n).map fun k => if k == .free && true && sc.names.lookup n == some .cell then .cell else k
  | [], n => rfl
  | (m, k) :: r, n => by
    have ih := rel_lookup sc r n
    unfold relNames at ih ⊢
    rw [List.map_cons]
    by_cases hc : (k == .free && true && sc.names.lookup m == some .cell) = true
    · simp only [hc, if_true]
      rw [List.lookup_cons, List.lookup_cons]
      by_cases q : (n == m) = true
      · have := eq_of_beq q; subst this
        simp only [q, Option.map_some, hc, if_true]
      · have q' := Bool.eq_false_iff.mpr q
        rw [q']; exact ih
    · show List.lookup n ((if (k == .free && true && sc.names.lookup m == some .cell) = true then (m, NameKind.cell) else (m, k)) :: List.map _ r) = _
      rw [if_neg hc, List.lookup_cons, List.lookup_cons]
      by_cases q : (n == m) = true
      · have := eq_of_beq q; subst this
        rw [q, Option.map_some, if_neg hc]
      · have q' := Bool.eq_false_iff.mpr q
        rw [q']; exact ih

structure CompFacts (sc : Sc) (x : Str) (scope : Scope) : Prop where
  kind : scope.kind = .function
  var : scope.names.lookup x = some .local
  nocell : ∀ p ∈ scope.names, p.2 ≠ .cell
  loc : ∀ p ∈ scope.names, p.2 = .local → scope.names.lookup p.1 = some .local
  free : ∀ p ∈ scope.names, p.2 = .free → sc.names.lookup p.1 = some .cell
  nd : (scope.names.map (·.1)).Nodup
theorem compOk_facts {sc : Sc} {x : Str} {scope : Scope} (h : compOk sc x scope = true) : CompFacts sc x scope := by
  unfold compOk at h
  simp only [Bool.and_eq_true, beq_iff_eq, decide_eq_true_eq, List.all_eq_true, bne_iff_ne, ne_eq, Bool.or_eq_true] at h
  obtain ⟨⟨⟨h1, h2⟩, h3⟩, h4⟩ := h
  exact ⟨h1, h2, fun p hp => (h3 p hp).1.1, fun p hp e => ((h3 p hp).1.2).resolve_left fun q => q e, fun p hp e => ((h3 p hp).2).resolve_left fun q => q e, h4⟩

noncomputable def compFm (f : Fm) (scope : Scope) (C : Addr) (oL : Obj) (x : Str) : Fm :=
  ⟨compEnvC scope (closL f.env.cells scope.names) C f.env, f.A, (innerSc f.sc x scope.names).slots, closL f.env.cells scope.names, (f.env.locals, oL) :: f.fr0, f.outer⟩

section
variable {Γ : Cx} {n : Nat} {f : Fm} {hid hid' HC : List (Addr × Obj)} {ρ ρ' : List Addr} {l : LOC} {h : HP} {s : Shared} {scope : Scope} {x : Str} {C : Addr} {oL : Obj}

theorem relabel_names (ok : FmOk f) : (relabel scope f.env).names = relNames f.sc scope.names := by
  unfold relabel relNames
  refine List.map_congr_left fun p hp => ?_
  obtain ⟨m, k⟩ := p
  simp only [ok.kind]
  rfl
theorem comp_sc (ok : FmOk f) : (compFm f scope C oL x).sc = innerSc f.sc x scope.names := by
  show Sc.mk (relabel scope f.env).names _ = _
  rw [relabel_names ok]; rfl
theorem comp_kindOf (ok : FmOk f) (m : Str) : (compFm f scope C oL x).env.kindOf m = (relNames f.sc scope.names).lookup m := by
  show (relabel scope f.env).names.lookup m = _
  rw [relabel_names ok]
theorem free_cell (ok : FmOk f) (cf : CompFacts f.sc x scope) : ∀ p ∈ scope.names, p.2 = .free → ∃ c, f.cells.lookup p.1 = some c ∧ f.env.cells.lookup p.1 = some c := fun p hp e => ok.cel p.1 (cf.free p hp e)
theorem comp_cellKind (ok : FmOk f) (cf : CompFacts f.sc x scope) {m : Str} (h : (relNames f.sc scope.names).lookup m = some .cell) : (m, .free) ∈ scope.names := by
  rw [rel_lookup] at h
  obtain ⟨k, e1, e2⟩ := Option.map_eq_some_iff.mp h
  have hm := mem_of_lookup e1
  split at e2
  · rename_i q
    simp only [Bool.and_eq_true, beq_iff_eq] at q
    rw [q.1.1] at hm; exact hm
  · exact absurd e2 (cf.nocell _ hm)
theorem comp_cellLook (ok : FmOk f) (cf : CompFacts f.sc x scope) {m : Str} (h : (m, NameKind.free) ∈ scope.names) : ∃ c, f.cells.lookup m = some c ∧ (closL f.env.cells scope.names).lookup m = some c := by
  obtain ⟨c, e1, e2⟩ := free_cell ok cf _ h rfl
  refine ⟨c, e1, lookup_of_mem (closL_nodup cf.nd) ?_⟩
  have := closL_has (cells := f.env.cells) h
  rw [show (f.env.cells.lookup m).getD 0 = c by rw [e2]; rfl] at this
  exact this
theorem comp_mem (ok : FmOk f) (cf : CompFacts f.sc x scope) {q : Str × Addr} (h : q ∈ closL f.env.cells scope.names) : q ∈ f.cells ∧ f.cells.lookup q.1 = some q.2 := by
  obtain ⟨a, b⟩ := mem_closL h
  obtain ⟨c, e1, e2⟩ := free_cell ok cf _ a rfl
  rw [e2] at b
  have b : q.2 = c := b
  rw [← b] at e1
  exact ⟨mem_of_lookup e1, e1⟩
theorem comp_slot {k : Nat} {m : Str} (h : (innerSc f.sc x scope.names).slots[k]? = some (some m)) : (f.slots[k]? = some (some m) ∧ (relNames f.sc scope.names).lookup m = some .cell) ∨ (k = f.slots.length ∧ m = x) := by
  unfold innerSc at h
  by_cases hk : k < f.slots.length
  · rw [List.getElem?_append_left (by simpa [Fm.sc] using hk), List.getElem?_map] at h
    obtain ⟨o, e1, e2⟩ := Option.map_eq_some_iff.mp h
    have := Option.filter_eq_some_iff.mp e2
    refine .inl ⟨?_, by simpa using this.2⟩
    rw [show f.slots[k]? = some o from e1, this.1]
  · have hk' : k = f.slots.length := by
      have := (List.getElem?_eq_some_iff.mp h).1
      simp [Fm.sc] at this; omega
    subst hk'
    rw [List.getElem?_append_right (by simp [Fm.sc])] at h
    simp [Fm.sc] at h
    exact .inr ⟨rfl, h.symm⟩
theorem comp_slotOf {k : Nat} {m : Str} (h : f.slots[k]? = some (some m)) (hc : (relNames f.sc scope.names).lookup m = some .cell) : (innerSc f.sc x scope.names).slots[k]? = some (some m) := by
  unfold innerSc
  have hk := (List.getElem?_eq_some_iff.mp h).1
  rw [List.getElem?_append_left (by simpa [Fm.sc] using hk), List.getElem?_map]
  show Option.map _ f.slots[k]? = _
  rw [h]
  simp [Option.filter, hc]

theorem cellOne (ok : FmOk f) {q : Str × Addr} {c : Addr} (h : q ∈ f.cells) (h' : (q.1, c) ∈ f.cells) : c = q.2 := by
  have := lookup_of_mem ok.cnd h'
  rw [lookup_of_mem ok.cnd (show (q.1, q.2) ∈ f.cells from h)] at this
  exact (Option.some.inj this).symm

theorem comp_fmk (ok : FmK n f) (cf : CompFacts f.sc x scope) : FmK n (compFm f scope C oL x) := by
  have xl : (relNames f.sc scope.names).lookup x = some .local := by rw [rel_lookup, cf.var]; rfl
  refine ⟨⟨cf.kind, ok.glob, ok.blt, fun i j m hi hj => ?_, fun k m hk => ?_, fun m hm => ?_, closL_nodup cf.nd, ok.hand⟩, ok.room, ok.units⟩
  · rcases comp_slot hi with ⟨a1, b1⟩ | ⟨a1, rfl⟩
    · rcases comp_slot hj with ⟨a2, b2⟩ | ⟨a2, rfl⟩
      · exact ok.nd i j m a1 a2
      · rw [xl] at b1; cases b1
    · rcases comp_slot hj with ⟨a2, b2⟩ | ⟨a2, _⟩
      · rw [xl] at b2; cases b2
      · rw [a1, a2]
  · rw [comp_kindOf ok.toFmOk]
    rcases comp_slot hk with ⟨a1, b1⟩ | ⟨a1, rfl⟩
    · obtain ⟨c, _, e⟩ := comp_cellLook ok.toFmOk cf (comp_cellKind ok.toFmOk cf b1)
      exact .inr ⟨b1, c, e, e⟩
    · exact .inl xl
  · rw [comp_kindOf ok.toFmOk] at hm
    obtain ⟨c, _, e⟩ := comp_cellLook ok.toFmOk cf (comp_cellKind ok.toFmOk cf hm)
    exact ⟨c, e, e⟩

theorem At.hperm (t : At Γ f hid ρ l h s) (p : hid.Perm hid') : At Γ f hid' ρ l h s :=
  t.rehid [] t.sh (fun _ _ _ e => e) (fun _ h => by cases h) (fun q hq => t.hidden q (p.mem_iff.mpr hq)) ((p.map _).nodup_iff.mp (adr_nodup.mp t.nodup).1) fun q hq => t.hidOff (p.mem_iff.mpr hq)
theorem At.unveil {D : Addr} {o : Obj} {ao : AO} (t : At Γ f ((D, o) :: hid) ρ l h s) (hr : ObjR Γ (ρ ++ [D]) ao o) : At Γ f hid (ρ ++ [D]) l (h ++ [ao]) s := by
  have nd := adr_nodup.mp t.nodup
  refine (At.unhide (hx := [(D, o)]) t).adopt (t.hidden _ (.head _)) (fun d hd e => ?_) (t.hidOff (p := (D, o)) (.head _)).2 hr
  subst e
  rcases mem_adr.mp hd with hd | hd
  · exact (List.nodup_cons.mp nd.1).1 hd
  · exact (t.hidOff (p := (d, o)) (.head _)).1 hd

/-- the cells that a comprehension does not see -/
noncomputable def uncap (f : Fm) (scope : Scope) (hp : Heap) : List (Addr × Obj) := ledOf hp ((f.cells.filter fun q => ((closL f.env.cells scope.names).lookup q.1).isNone).map (·.2))
theorem mem_uncap {hp : Heap} {p : Addr × Obj} (h : p ∈ uncap f scope hp) : (∃ q ∈ f.cells, q.2 = p.1 ∧ (closL f.env.cells scope.names).lookup q.1 = none) ∧ hp.get? p.1 = some p.2 := by
  obtain ⟨h1, h2⟩ := of_mem_ledOf h
  obtain ⟨q, hq, e⟩ := List.mem_map.mp h1
  obtain ⟨a, b⟩ := List.mem_filter.mp hq
  exact ⟨⟨q, a, e, by simpa using b⟩, h2⟩

theorem At.comp (t : At Γ f hid ρ l h s) (ok : FmK n f) (cf : CompFacts f.sc x scope) {s' : Shared} (hs : s' = { Γ.s₀ with heap := s'.heap, toks := s'.toks }) (k : ∀ b o, s.heap.get? b = some o → s'.heap.get? b = some o)
    (hL : s.heap.get? f.env.locals = some oL) (hC : s.heap.objs.size ≤ C) {m : Str → Option Value} (hn : s'.heap.Ns C m) : At Γ (compFm f scope C oL x) (uncap f scope s.heap ++ hid) ρ (l ++ [none]) h s' := by
  have nd := t.nodup
  unfold Fm.adr at nd
  rw [List.nodup_append] at nd
  have cnd := (List.nodup_append.mp nd.2.1).1
  have clt : ∀ q ∈ f.cells, q.2 < s.heap.objs.size := fun q hq => t.all_lt _ (by unfold Fm.adr; simp only [List.mem_append]; exact .inr (.inl (List.mem_map_of_mem hq)))
  obtain ⟨mm, F, hl, hr⟩ := t.frm
  refine t.enter (f' := compFm f scope C oL x) hs k hL rfl (fun q hq => (mem_uncap hq).2) ?_ ?_ hC ?_ ⟨m, hn, ?_, ?_⟩
  · rw [List.nodup_append]
    refine ⟨?_, ?_, fun a ha b hb e => ?_⟩
    · have h1 := closL_nodup (cells := f.env.cells) cf.nd
      show ((closL f.env.cells scope.names).map (·.2)).Nodup
      have h2 : ∀ q ∈ closL f.env.cells scope.names, q ∈ f.cells := fun q hq => (comp_mem ok.toFmOk cf hq).1
      revert h1 h2
      generalize closL f.env.cells scope.names = L
      intro h1 h2
      induction L with
      | nil => exact List.nodup_nil
      | cons q r ih =>
        rw [List.map_cons, List.nodup_cons] at h1 ⊢
        refine ⟨fun hm => ?_, ih h1.2 fun q' hq' => h2 q' (.tail _ hq')⟩
        obtain ⟨q', hq', e⟩ := List.mem_map.mp hm
        have : q'.1 = q.1 := t.cellInj (c := q.2) (by rw [← e]; exact h2 q' (.tail _ hq')) (h2 q (.head _))
        exact h1.1 (List.mem_map.mpr ⟨q', hq', this⟩)
    · rw [List.nodup_append]
      refine ⟨ledOf_nodup ((List.Sublist.map _ (List.filter_sublist)).nodup cnd), by simp, fun a ha b hb e => ?_⟩
      obtain ⟨p, hp, rfl⟩ := List.mem_map.mp ha
      obtain ⟨⟨q, hq, e1, _⟩, _⟩ := mem_uncap hp
      have := clt q hq
      rw [List.mem_singleton.mp hb] at e
      have h3 : q.2 = C := e1.trans e
      rw [h3] at this
      exact absurd this (Nat.not_lt.mpr hC)
    · obtain ⟨q, hq, rfl⟩ := List.mem_map.mp ha
      have hqf := (comp_mem ok.toFmOk cf hq).1
      rcases List.mem_append.mp hb with hb | hb
      · obtain ⟨p, hp, rfl⟩ := List.mem_map.mp hb
        obtain ⟨⟨q', hq', e1, e2⟩, _⟩ := mem_uncap hp
        have : q'.1 = q.1 := t.cellInj (c := q.2) (by rw [e, ← e1]; exact hq') hqf
        rw [this] at e2
        have := lookup_of_mem (closL_nodup (cells := f.env.cells) cf.nd) hq
        rw [this] at e2; cases e2
      · have := clt q hqf
        rw [List.mem_singleton.mp hb] at e
        have h3 : q.2 = C := e
        rw [h3] at this
        exact absurd this (Nat.not_lt.mpr hC)
  · intro c hc
    rcases List.mem_append.mp hc with hc | hc
    · obtain ⟨q, hq, rfl⟩ := List.mem_map.mp hc
      exact .inl (List.mem_map_of_mem (comp_mem ok.toFmOk cf hq).1)
    · obtain ⟨p, hp, rfl⟩ := List.mem_map.mp hc
      obtain ⟨⟨q', hq', e1, e2⟩, _⟩ := mem_uncap hp
      rw [← e1]
      exact .inl (List.mem_map_of_mem hq')
  · intro q hq
    obtain ⟨v, hv⟩ := t.cel q (comp_mem ok.toFmOk cf hq).1
    exact ⟨v, hv.keeps k⟩
  · show (l ++ [none]).length = (innerSc f.sc x scope.names).slots.length
    simp [innerSc, Fm.sc, hl]
  · intro j y v hj hv
    rcases comp_slot hj with ⟨a1, b1⟩ | ⟨a1, rfl⟩
    · have hjl : j < l.length := by rw [hl]; exact (List.getElem?_eq_some_iff.mp a1).1
      rw [List.getElem?_append_left hjl] at hv
      obtain ⟨v', h1, h2⟩ := hr j y v a1 hv
      have hfree := comp_cellKind ok.toFmOk cf b1
      obtain ⟨c, e1, e2⟩ := comp_cellLook ok.toFmOk cf hfree
      have hkc := cf.free _ hfree rfl
      rcases h2 with ⟨h3, _⟩ | ⟨h3, c', h4, h5⟩
      · rw [show f.env.kindOf y = f.sc.names.lookup y from rfl, hkc] at h3; cases h3
      · rw [e1] at h4; cases h4
        exact ⟨v', h1, .inr ⟨by rw [comp_kindOf ok.toFmOk, b1]; decide, c, e2, h5.keeps k⟩⟩
    · subst a1
      rw [← hl] at hv
      simp at hv

theorem At.uncomp {ρ' : List Addr} {lv : Option AV} {h' : HP} {s' : Shared} (t : At Γ f hid ρ l h s) (ok : FmK n f) (cf : CompFacts f.sc x scope) (hL : s.heap.get? f.env.locals = some oL)
    (y : At Γ (compFm f scope C oL x) (uncap f scope s.heap ++ hid) ρ' (l ++ [lv]) h' s') (p : ρ <+: ρ') : ∃ oC m, (∀ hp : Heap, hp.get? C = some oC → hp.Ns C m) ∧ At Γ f ((C, oC) :: hid) ρ' l h' s' := by
  have z : At Γ f hid ρ' l h' s' := by
    refine t.leave y p hL rfl fun q hq => ?_
    obtain ⟨_, _, hl, _⟩ := t.frm
    cases e : (closL f.env.cells scope.names).lookup q.1 with
    | none =>
      obtain ⟨v, o, e1, e2⟩ := t.cel q hq
      exact .inl ⟨o, mem_ledOf (List.mem_map_of_mem (List.mem_filter.mpr ⟨hq, by simp [e]⟩)) e1, e1⟩
    | some c =>
      have hm := mem_of_lookup e
      have hq2 : c = q.2 := by
        have h1 := (comp_mem ok.toFmOk cf hm).1
        exact cellOne ok.toFmOk hq h1
      subst hq2
      refine .inr ⟨hm, fun k hk => ?_⟩
      have hfree := (mem_closL hm).1
      have hrel : (relNames f.sc scope.names).lookup q.1 = some .cell := by
        rw [rel_lookup, lookup_of_mem cf.nd hfree, Option.map_some]
        simp [cf.free _ hfree rfl]
      refine ⟨comp_slotOf hk hrel, ?_, ?_, e⟩
      · rw [List.getElem?_append_left (by rw [hl]; exact (List.getElem?_eq_some_iff.mp hk).1)]
      · rw [comp_kindOf ok.toFmOk, hrel]; decide
  obtain ⟨m, F, _⟩ := y.frm
  obtain ⟨oC, es, ep, e1, e2, e3, e4⟩ := F.ns
  have nd := y.nodup
  have hCin : C ∈ (compFm f scope C oL x).adr (uncap f scope s.heap ++ hid) ρ' := by unfold Fm.adr; simp [compFm, compEnvC]
  refine ⟨oC, m, fun hp e => ⟨oC, es, ep, e, e2, e3, e4⟩, z.rehid [] z.sh (fun _ _ _ e => e) (fun _ h => by cases h) (fun q hq => ?_) ?_ fun q hq => ?_⟩
  · rcases List.mem_cons.mp hq with rfl | hq
    · exact e1
    · exact z.hidden q hq
  · rw [List.map_cons, List.nodup_cons]
    refine ⟨fun hm => ?_, (adr_nodup.mp z.nodup).1⟩
    obtain ⟨q, hq, e⟩ := List.mem_map.mp hm
    have := (adr_nodup.mp nd).2.2 q (List.mem_append_right _ hq)
    refine this ?_
    rw [e]
    unfold Fm.adr; simp [compFm, compEnvC]
  · rcases List.mem_cons.mp hq with rfl | hq
    · refine ⟨fun hm => ?_, y.fresh _ hCin⟩
      have nd' := nd
      rw [Fm.adr_eq] at nd'
      have := (List.nodup_append.mp nd').2.2
      refine this C ?_ C (.head _) rfl
      unfold Fm.adr at hm
      unfold Fm.adr'
      simp only [List.mem_append, List.map_nil, List.not_mem_nil, false_or] at hm
      simp only [List.mem_append, List.map_append]
      rcases hm with hm | hm | hm | hm
      · exact .inl hm
      · obtain ⟨q, hq, e⟩ := List.mem_map.mp hm
        cases e5 : (closL f.env.cells scope.names).lookup q.1 with
        | none =>
          obtain ⟨v, o, e1, e2⟩ := t.cel q hq
          exact .inr (.inr (.inl (.inl (List.mem_map.mpr ⟨(q.2, o), mem_ledOf (List.mem_map_of_mem (List.mem_filter.mpr ⟨hq, by simp [e5]⟩)) e1, e⟩))))
        | some c =>
          have hm := mem_of_lookup e5
          have : c = q.2 := cellOne ok.toFmOk hq (comp_mem ok.toFmOk cf hm).1
          exact .inr (.inl (List.mem_map.mpr ⟨_, hm, this.trans e⟩))
      · exact .inr (.inr (.inr (by show C ∈ ((f.env.locals, oL) :: f.fr0).map (·.1); exact .tail _ hm)))
      · rw [List.mem_singleton.mp hm]
        exact .inr (.inr (.inr (by show f.env.locals ∈ ((f.env.locals, oL) :: f.fr0).map (·.1); exact .head _)))
    · exact z.hidOff hq
end
end Sk


namespace Sk
open PySem PySem.Calls PySem.W PyProof.Rows PySem.Spec

theorem Post.noexc {α : Type} {r : R α} {ok : α → HP → Prop} {ex : Nat → HP → Prop} (p : Post r.noexc ok ex) : Post r ok (fun _ _ => False) := by
  cases r with
  | ok a h => exact p
  | exc c h => exact p
  | err => exact p
theorem Post.noE {Rz : Rise} {f : Fm} {hid : List (Addr × Obj)} {ρ : List Addr} {l : LOC} {E : Value → Shared → Prop} {α : Type} {r : R α} {ok : α → HP → Prop} (p : Post r ok (fun _ _ => False)) : Post r ok (EXQ Rz f hid ρ l E) := p.mono (fun _ _ x => x) fun _ _ x => x.elim

noncomputable def mtIfs (tx : Tx) (sc : Sc) (cond : CE) (ifs : List Expr) : Bool := match ifs with | [] => (match cond with | .bool true => true | _ => false) | [c] => mtE tx sc cond c | _ => false

section
variable {Γ : Cx} {Rz : Rise} {cl : CallO} {n : Nat} {f : Fm} {hid : List (Addr × Obj)} {ρ ρ' : List Addr} {l : LOC} {h : HP} {s : Shared} {E : Value → Shared → Prop}

theorem sim_tests {cond : CE} {ifs : List Expr} {Q : Bool → Shared → Prop} (hT : SimT Γ Rz cl n cond) (ok : FmK n f) (hm : mtIfs Γ.tx f.sc cond ifs = true) (t : At Γ f hid ρ l h s)
    (p : Post (ev Γ.G cl cond l h) (OKB Γ f hid ρ l Q) (EXQ Rz f hid ρ l E)) :
    wpAny (model Γ.prog Γ.w) f.A (forIn ifs true fun c r => if r = true then do let ok ← isTrue c f.env (eval c f.env); pure (ForInStep.yield ok) else pure (ForInStep.yield r)) Q E s := by
  unfold mtIfs at hm
  split at hm
  · split at hm
    · obtain ⟨b, e, q⟩ := p
      cases e
      rw [List.forIn_nil]
      exact wpAny_pure (q _ _ (List.prefix_refl _) t)
    · cases hm
  · rename_i c
    rw [List.forIn_cons]
    refine wpAny_bind ?_
    rw [if_pos rfl]
    refine wpAny_bind (wpAny_mono (hT f c ok hm hid ρ l h s Q E t p) (fun b s' q => wpAny_pure ?_) fun _ _ x => x)
    show wpAny _ _ (forIn [] b _) Q E s'
    rw [List.forIn_nil]
    exact wpAny_pure q
  · cases hm

theorem sim_compCore {elt cond : CE} {ik : IK} {es : CEs} (cx : CxOk Γ) (cf : CxFn Γ) (he : SimL Γ Rz cl n es) (hv : ∀ c, es = .cons c .nil → SimV Γ Rz cl n c) (hE : SimV Γ Rz cl n elt) (hT : SimT Γ Rz cl n cond) (ok : FmK n f)
    {el iter : Expr} {ifs : List Expr} {scope : Scope} {x : Str} {px pos pos' : Pos} {use : Option (Value → Sem Unit)} (m0 : compOk f.sc x scope = true) (m1 : mtIter Γ.tx f.sc ik es iter = true)
    (m2 : mtE Γ.tx (innerSc f.sc x scope.names) elt el = true) (m3 : mtIfs Γ.tx (innerSc f.sc x scope.names) cond ifs = true) (t : At Γ f hid ρ l h s) {Q : Value → Shared → Prop}
    (p : Post (ev Γ.G cl (.comp elt ik es cond) l h) (fun v h' => ∀ D C oC m ρ' s', ρ <+: ρ' → At Γ f ((C, oC) :: hid) ρ' l h' s' → VR ρ' v (.ref D) → (∀ hp : Heap, hp.get? C = some oC → hp.Ns C m) →
      compPost (model Γ.prog Γ.w) f.A E use Q (.ref D) C (.ok .next) s') (EXQ Rz f hid ρ l E)) :
    wpAny (model Γ.prog Γ.w) f.A (comprehension (.ListComp el [⟨.Name x px, iter, ifs, 0⟩] scope pos) scope f.env pos' (newList []) false (eval iter f.env) use) Q E s := by
  have fc := compOk_facts m0
  unfold ev at p
  refine wpAny_comprehension_free (cl := closL f.env.cells scope.names) rfl (mtIter_nofold m1 f.env) (closure_eq fun q hq e => (free_cell ok.toFmOk fc q hq e).imp fun _ h => h.2) fc.kind fc.loc ?_
  refine sim_iter cx cf he hv ok m1 t (p.thenE fun vs h1 p1 => ?_)
  unfold IterQ
  split at p1
  case h_2 => exact p1.elim
  rename_i items g er
  rw [er]
  split at p1
  case isFalse => exact p1.elim
  rename_i hz
  have hz := of_decide_eq_true hz
  intro it H hx ρ2 s2 pre2 I h0 hg t2
  refine wpAny_newObj_type (wpAny_newFunctionEnv fc.nocell (by intro y hy; simp at hy) (fun h₁ hns₁ hsb₁ => ?_) fc.kind)
  dsimp only at hns₁ hsb₁ ⊢
  generalize hH2 : s2.heap.push { cls := .type "list", dict := none, data := .seq ([] : List Value).toArray } = H2 at hns₁ hsb₁ ⊢
  have hC : H2.objs.size = s2.heap.objs.size + 1 := by rw [← hH2, Heap.size_push]
  have k2 : ∀ b o, s2.heap.get? b = some o → H2.get? b = some o := fun b o e => by rw [← hH2]; exact Heap.get?_push_of_some _ e
  have hD : H2.get? s2.heap.objs.size = some { cls := .type "list", dict := none, data := .seq ([] : List Value).toArray } := by rw [← hH2]; exact Heap.get?_push_size _ rfl
  have t3 : At Γ f ((s2.heap.objs.size, listOf ([] : List Value).toArray 0) :: (hx ++ hid)) ρ2 l h1 { s2 with heap := H2 } := t2.hidNew (by rw [t2.sh]) k2 (Nat.le_refl _) hD
  have k4 : ∀ b o, H2.get? b = some o → h₁.get? b = some o := fun b o e => hsb₁.extBut b o (Nat.ne_of_lt (Heap.lt_size e)) (Heap.get?_push_of_some _ e)
  obtain ⟨oL, hL⟩ := t3.locObj
  have t4 := t3.comp (s' := { s2 with heap := h₁, toks := s2.toks + ([] : List (Str × Value)).length }) (C := H2.objs.size) (x := x) ok fc (by rw [t2.sh]) k4 hL (Nat.le_refl _) hns₁
  have t3u : At Γ f hid ρ2 l h1 { s2 with heap := H2 } := At.unhide (hx := (s2.heap.objs.size, listOf ([] : List Value).toArray 0) :: hx) t3
  generalize hD' : s2.heap.objs.size = D at t3 t4 hD ⊢
  generalize hC' : H2.objs.size = C at t4 hns₁ hsb₁ ⊢
  have okc := comp_fmk (C := C) (oL := oL) ok fc
  have scc : (compFm f scope C oL x).sc = innerSc f.sc x scope.names := comp_sc ok.toFmOk
  have slx : (compFm f scope C oL x).slots[l.length]? = some (some x) := by
    obtain ⟨_, _, hl, _⟩ := t3u.frm
    show (innerSc f.sc x scope.names).slots[l.length]? = _
    unfold innerSc
    rw [hl, List.getElem?_append_right (by simp [Fm.sc])]
    simp [Fm.sc]
  have t5 : At Γ (compFm f scope C oL x) (hx ++ ((D, listOf ([] : List Value).toArray 0) :: (uncap f scope H2 ++ hid))) ρ2 (l ++ [none]) h1 { s2 with heap := h₁, toks := s2.toks + ([] : List (Str × Value)).length } := by
    refine t4.hperm ?_
    exact List.perm_middle.trans (((List.perm_append_comm_assoc _ _ _).cons _).trans List.perm_middle.symm)
  have loop : ∀ s₃ : Shared, s₃ = { s2 with heap := h₁, toks := s2.toks + ([] : List (Str × Value)).length } →
      codeAny (model Γ.prog Γ.w) f.A (.compLoop (.ListComp el [⟨.Name x px, iter, ifs, 0⟩] scope pos) 0 (.ref it) (.ref D) (compFm f scope C oL x).env)
        (compPost (model Γ.prog Γ.w) f.A E use Q (.ref D) C) s₃ := by
    rintro s₃ rfl
    refine codeAny_compLoop_tests (fun k s' => ∃ hx' j xs ys nn ρ' lv h', At Γ (compFm f scope C oL x) (hx' ++ ((D, listOf (ys : List Value).toArray nn) :: (uncap f scope H2 ++ hid))) ρ' (l ++ [lv]) h' s' ∧ H j hx' ρ' ∧ VRs ρ' xs ys ∧ ρ2 <+: ρ' ∧
      j ≤ items.length ∧ k = items.length + 1 - j ∧ xs.length ≤ j ∧
      Post (compL g (fun v h' => ev Γ.G cl cond (l ++ [some v]) h') (fun v h' => ev Γ.G cl elt (l ++ [some v]) h') (items.drop j) h')
        (fun rest h'' => Post (R.ok (AV.ref h''.length) (h'' ++ [AO.list (xs ++ rest)]) : R AV) (fun v h' => ∀ D C oC m ρ' s', ρ <+: ρ' → At Γ f ((C, oC) :: hid) ρ' l h' s' → VR ρ' v (.ref D) → (∀ hp : Heap, hp.get? C = some oC → hp.Ns C m) →
          compPost (model Γ.prog Γ.w) f.A E use Q (.ref D) C (.ok .next) s') (EXQ Rz f hid ρ l E)) (EXQ Rz f hid ρ l E)) ?_ (items.length + 1)
      ⟨hx, 0, [], [], 0, ρ2, none, h1, t5, h0, .nil, List.prefix_refl _, Nat.zero_le _, rfl, Nat.le_refl _, by simpa using Post_bind.mp p1⟩
    rintro k s' ⟨hx', j, xs, ys, nn, ρ', lv, h', tt, hj, hxy, pre, hjl, rfl, hxl, pp⟩
    by_cases hlt : j < items.length
    · rw [List.drop_eq_getElem_cons hlt] at pp
      unfold compL at pp
      split at pp
      case isFalse => exact pp.elim
      rename_i hgk
      refine I.item (compFm f scope C oL x) _ ρ' _ h' s' j hx' items[j] _ _ ok.hand tt hj hgk (List.getElem?_eq_getElem hlt) fun v' hx2 s2' tt2 hj2 vr2 => ?_
      refine wpAny_assign_Name (tt2.store okc.toFmOk slx vr2 fun s3' tt3 => ?_)
      have eset : (l ++ [lv]).set l.length (some items[j]) = l ++ [some items[j]] := by simp
      rw [eset] at tt3
      refine sim_tests hT okc (by rw [scc]; exact m3) tt3 (Post.noE ((Post_bind.mp pp).noexc.mono (fun c h2 pc => ?_) fun _ _ x => x))
      cases hc : truthy c with
      | none => rw [hc] at pc; exact pc.elim
      | some b =>
        rw [hc] at pc
        refine ⟨b, hc, fun ρ3 s4 pre3 t4' => ?_⟩
        cases b with
        | false =>
          rw [if_neg (by decide)]
          exact ⟨items.length + 1 - (j + 1), by omega, hx2, j + 1, xs, ys, nn, ρ3, _, h2, t4', I.mono _ _ _ _ pre3 hj2, hxy.mono pre3, pre.trans pre3, hlt, rfl, by omega, pc⟩
        | true =>
          rw [if_pos rfl]
          refine hE _ el okc (by rw [scc]; exact m2) _ ρ3 _ h2 s4 _ _ t4' (Post.noE ((Post_bind.mp pc).noexc.mono (fun y h3 py y' ρ4 s5 pre4 t5' vr4 => ?_) fun _ _ x => x))
          have hget : s5.heap.get? D = some (listOf ys.toArray nn) := t5'.hidden (D, listOf ys.toArray nn) (List.mem_append_right _ (.head _))
          refine append_at hget (fun h6 hs6 ho6 => ?_) (by simp; have := hxy.length; exact Nat.le_trans (by omega) (show 100000 ≤ sizeLine by decide))
          have t6 : At Γ (compFm f scope C oL x) (hx2 ++ ((D, listOf (ys ++ [y']).toArray (nn + 1)) :: (uncap f scope H2 ++ hid))) ρ4 (l ++ [some items[j]]) h3 { s5 with heap := h6 } := by
            have pm : ∀ o : Obj, (hx2 ++ ((D, o) :: (uncap f scope H2 ++ hid))).Perm ((D, o) :: (hx2 ++ (uncap f scope H2 ++ hid))) := fun o => List.perm_middle
            refine At.hperm (hid := (D, listOf (ys ++ [y']).toArray (nn + 1)) :: (hx2 ++ (uncap f scope H2 ++ hid))) ?_ (pm _).symm
            refine At.hidPut (t5'.hperm (pm _)) (by rw [t5'.sh]) (fun b o hb e => (hs6.2 b hb).trans e) ?_
            rw [ho6]; simp
          have pq := Post_bind.mp py
          refine ⟨items.length + 1 - (j + 1), by omega, hx2, j + 1, xs ++ [y], ys ++ [y'], nn + 1, ρ4, _, h3, t6, I.mono _ _ _ _ pre4 (I.mono _ _ _ _ pre3 hj2), ((hxy.mono pre3).mono pre4).append (.cons vr4 .nil), (pre.trans pre3).trans pre4, hlt, rfl, by simp; omega, ?_⟩
          refine pq.mono (fun rest h'' q => ?_) fun _ _ q => q
          have : xs ++ [y] ++ rest = xs ++ (y :: rest) := by simp
          rw [this]; exact q
    · have hje : items.drop j = [] := List.drop_eq_nil_of_le (by omega)
      rw [hje] at pp
      unfold compL at pp
      split at pp
      case isFalse => exact pp.elim
      rename_i hgk
      refine I.done (compFm f scope C oL x) _ ρ' _ h' s' j hx' _ _ ok.hand tt hj hgk (by show items.length ≤ j; omega) fun s2' tt2 => ?_
      have prD : ρ' <+: ρ' ++ [D] := List.prefix_append _ _
      have tt3 := tt2.unveil (ao := .list xs) ⟨ys, nn, rfl, hxy.mono prD, by omega⟩
      obtain ⟨oC, mC, hns, tt4⟩ := t3u.uncomp ok fc hL tt3 (pre.trans prD)
      have pp' := pp D C oC mC (ρ' ++ [D]) s2' ((pre2.trans pre).trans prD)
      rw [List.append_nil] at pp'
      exact pp' tt4 ⟨D, by rw [← tt2.len]; simp, rfl⟩ hns
  refine codeAny_compStart_list (loop _ rfl) (I.self (compFm f scope C oL x) _ ρ2 _ h1 _ 0 hx _ _ t5 h0 (loop _ rfl))

theorem sim_compE {elt cond : CE} {ik : IK} {es : CEs} (cx : CxOk Γ) (cf : CxFn Γ) (he : SimL Γ Rz cl n es) (hv : ∀ c, es = .cons c .nil → SimV Γ Rz cl n c) (hE : SimV Γ Rz cl n elt) (hT : SimT Γ Rz cl n cond) : SimV Γ Rz cl n (.comp elt ik es cond) := by
  intro f e ok hm hid ρ l h s Q E t p
  unfold mtE at hm
  split at hm
  · rename_i el x px iter ifs scope pos
    rw [Bool.and_eq_true, Bool.and_eq_true, Bool.and_eq_true] at hm
    obtain ⟨⟨⟨m0, m1⟩, m2⟩, m3⟩ := hm
    rw [eval_ListComp]
    refine sim_compCore (use := none) cx cf he hv hE hT ok m0 m1 m2 m3 t (p.mono (fun v h' q => ?_) fun _ _ x => x)
    intro D C oC m ρ' s' pre t' vr hns
    exact ⟨m, hns _ (t'.hidden _ (.head _)), fun hp hs => q _ _ _ pre (t'.hidDrop (by rw [t'.sh]) fun b o hb e => (hs.2 b hb).trans e) vr⟩
  · cases hm

/-- a comprehension's list goes straight to a name -/
theorem sim_compU {elt cond : CE} {ik : IK} {es : CEs} (cx : CxOk Γ) (cf : CxFn Γ) (he : SimL Γ Rz cl n es) (hv : ∀ c, es = .cons c .nil → SimV Γ Rz cl n c) (hE : SimV Γ Rz cl n elt) (hT : SimT Γ Rz cl n cond)
    {e : Expr} (ok : FmK n f) (hm : mtE Γ.tx f.sc (.comp elt ik es cond) e = true) {k : Nat} {y : Str} {py : Pos} (hk : f.slots[k]? = some (some y)) (t : At Γ f hid ρ l h s) {Q : Unit → Shared → Prop}
    (p : Post (ev Γ.G cl (.comp elt ik es cond) l h) (fun v h' => ∀ ρ' s', ρ <+: ρ' → At Γ f hid ρ' (l.set k (some v)) h' s' → Q () s') (EXQ Rz f hid ρ l E)) :
    wpAny (model Γ.prog Γ.w) f.A (evalThenUse e f.env (assign (.Name y py) f.env)) Q E s := by
  unfold mtE at hm
  split at hm
  · rename_i el x px iter ifs scope pos
    rw [Bool.and_eq_true, Bool.and_eq_true, Bool.and_eq_true] at hm
    obtain ⟨⟨⟨m0, m1⟩, m2⟩, m3⟩ := hm
    show wpAny _ _ (comprehension (.ListComp el [⟨.Name x px, iter, ifs, 0⟩] scope pos) scope f.env _ (newList []) false (eval iter f.env) (some (assign (.Name y py) f.env)) >>= fun _ => pure ()) Q E s
    refine wpAny_bind (sim_compCore (use := some (assign (.Name y py) f.env)) cx cf he hv hE hT ok m0 m1 m2 m3 t (p.mono (fun v h' q => ?_) fun _ _ x => x))
    intro D C oC m ρ' s' pre t' vr hns
    refine wpAny_assign_Name (t'.store ok.toFmOk hk vr fun s'' t'' => ?_)
    exact ⟨m, hns _ (t''.hidden _ (.head _)), fun hp hs => wpAny_pure (q _ _ pre (t''.hidDrop (by rw [t''.sh]) fun b o hb e => (hs.2 b hb).trans e))⟩
  · cases hm
end
end Sk


namespace Sk
open PySem PySem.Calls PySem.W PyProof.Rows PySem.Spec

section
variable {Γ : Cx} {Rz : Rise} {cl : CallO} {n : Nat}

mutual
theorem simE (cx : CxOk Γ) (cf : CxFn Γ) (ix : IsiX Γ) (hc : SimC Γ Rz cl n) : ∀ c : CE, SimV Γ Rz cl n c ∧ SimT Γ Rz cl n c
  | .none => ⟨sim_none, simT_of sim_none fun sc e env whole hm => by unfold mtE at hm; split at hm <;> first | rfl | cases hm⟩
  | .bool b => ⟨sim_bool, simT_of sim_bool fun sc e env whole hm => by unfold mtE at hm; split at hm <;> first | rfl | cases hm⟩
  | .int i => ⟨sim_int, simT_of sim_int fun sc e env whole hm => by unfold mtE at hm; split at hm <;> first | rfl | cases hm⟩
  | .pow a m => ⟨sim_pow, simT_of sim_pow fun sc e env whole hm => by unfold mtE at hm; split at hm <;> first | rfl | cases hm⟩
  | .loc k => ⟨sim_loc, simT_of sim_loc fun sc e env whole hm => by unfold mtE at hm; split at hm <;> first | rfl | cases hm⟩
  | .bin op a b => have s := sim_binE (op := op) (simE cx cf ix hc a).1 (simE cx cf ix hc b).1; ⟨s, simT_of s fun sc e env whole hm => by unfold mtE at hm; split at hm <;> first | rfl | cases hm⟩
  | .neg a => have s := sim_neg (simE cx cf ix hc a).1; ⟨s, simT_of s fun sc e env whole hm => by unfold mtE at hm; split at hm <;> first | rfl | cases hm⟩
  | .not a => sim_not (simE cx cf ix hc a).2 (simE cx cf ix hc a).1
  | .and a b => sim_and (simE cx cf ix hc a) (simE cx cf ix hc b)
  | .or a b => sim_or (simE cx cf ix hc a) (simE cx cf ix hc b)
  | .cmp op a b => sim_cmpE (simE cx cf ix hc a).1 (simE cx cf ix hc b).1
  | .isC neg a c => sim_isE (simE cx cf ix hc a).1
  | .isin neg a b => sim_isinE cx cf (simE cx cf ix hc a).1 (simE cx cf ix hc b).1
  | .chain a o₁ b o₂ c => sim_chain (simE cx cf ix hc a).1 (simE cx cf ix hc b).1 (simE cx cf ix hc c).1
  | .attr a m => have s := sim_attrE (k := m) cx (simE cx cf ix hc a).1; ⟨s, simT_of s fun sc e env whole hm => by unfold mtE at hm; split at hm <;> first | rfl | cases hm⟩
  | .item a i => have s := sim_itemE (simE cx cf ix hc a).1 (simE cx cf ix hc i).1; ⟨s, simT_of s fun sc e env whole hm => by unfold mtE at hm; split at hm <;> first | rfl | cases hm⟩
  | .slice a lo hi st => have s := sim_sliceE (st := st) (simE cx cf ix hc a).1 (simE cx cf ix hc lo).1 (simE cx cf ix hc hi).1; ⟨s, simT_of s fun sc e env whole hm => by unfold mtE at hm; split at hm <;> first | rfl | cases hm⟩
  | .list es => have s := sim_listE (simEs cx cf ix hc es).1; ⟨s, simT_of s fun sc e env whole hm => by unfold mtE at hm; split at hm <;> first | rfl | cases hm⟩
  | .tup es => have s := sim_tupE (simEs cx cf ix hc es).1; ⟨s, simT_of s fun sc e env whole hm => by unfold mtE at hm; split at hm <;> first | rfl | cases hm⟩
  | .dict0 => ⟨sim_dict0 cx, simT_of (sim_dict0 cx) fun sc e env whole hm => by unfold mtE at hm; split at hm <;> first | rfl | cases hm⟩
  | .call fi es => have s := sim_callE (fi := fi) cx cf hc (simEs cx cf ix hc es).1; ⟨s, simT_of s fun sc e env whole hm => by unfold mtE at hm; split at hm <;> first | rfl | cases hm⟩
  | .meth a m es => have s := sim_methE (m := m) cx cf hc (simE cx cf ix hc a).1 (simEs cx cf ix hc es).1; ⟨s, simT_of s fun sc e env whole hm => by unfold mtE at hm; split at hm <;> first | rfl | cases hm⟩
  | .new c es => have s := sim_newE (c := c) cx cf hc (simEs cx cf ix hc es).1; ⟨s, simT_of s fun sc e env whole hm => by unfold mtE at hm; split at hm <;> first | rfl | cases hm⟩
  | .bm m a es => have s := sim_bmE (m := m) (simE cx cf ix hc a).1 (simEs cx cf ix hc es).1; ⟨s, simT_of s fun sc e env whole hm => by unfold mtE at hm; split at hm <;> first | rfl | cases hm⟩
  | .bf b es => have s := sim_bfE (b := b) cx cf (simEs cx cf ix hc es).1; ⟨s, simT_of s fun sc e env whole hm => by unfold mtE at hm; split at hm <;> first | rfl | cases hm⟩
  | .isinst a ty => have s := sim_isinstE (ty := ty) cx cf ix (simE cx cf ix hc a).1; ⟨s, simT_of s fun sc e env whole hm => by unfold mtE at hm; split at hm <;> first | rfl | cases hm⟩
  | .comp elt ik es cond => have s := sim_compE (ik := ik) cx cf (simEs cx cf ix hc es).1 (simEs cx cf ix hc es).2 (simE cx cf ix hc elt).1 (simE cx cf ix hc cond).2; ⟨s, simT_of s fun sc e env whole hm => by unfold mtE at hm; split at hm <;> first | rfl | cases hm⟩
theorem simEs (cx : CxOk Γ) (cf : CxFn Γ) (ix : IsiX Γ) (hc : SimC Γ Rz cl n) : ∀ cs : CEs, SimL Γ Rz cl n cs ∧ ∀ c, cs = .cons c .nil → SimV Γ Rz cl n c
  | .nil => ⟨simL_nil, fun c e => by cases e⟩
  | .cons c cs => ⟨simL_cons (simE cx cf ix hc c).1 (simEs cx cf ix hc cs).1, fun d e => by cases e; exact (simE cx cf ix hc c).1⟩
end
end
end Sk


namespace Sk
open PySem PySem.Calls PySem.W PyProof.Rows PySem.Spec

noncomputable def notComp : CE → Bool
  | .comp .. => false
  | _ => true
noncomputable def isCall : CE → Bool
  | .call .. => true
  | _ => false
section
variable (tx : Tx)
mutual
noncomputable def mtB (sc : Sc) : CS → List Stmt → Bool
  | .skip, ss => ss.isEmpty
  | .seq a b, ss => match ss with | st :: rest => mtS sc a st && mtB sc b rest | [] => false
  | _, _ => false
noncomputable def mtS (sc : Sc) : CS → Stmt → Bool
  | .skip, st => match st with | .Pass _ => true | _ => false
  | .asg k e, st => match st with | .Assign [.Name y _] v _ => sc.slots[k]? == some (some y) && mtE tx sc e v | _ => false
  | .asg2 k₁ k₂ e, st => match st with | .Assign [.Tuple [.Name y _, .Name z _] _ _] v _ => sc.slots[k₁]? == some (some y) && sc.slots[k₂]? == some (some z) && mtE tx sc e v && isCall e | _ => false
  | .setAttr a n e, st => match st with | .Assign [.Attribute o x _] v _ => tx.attr n == some x && mtE tx sc a o && mtE tx sc e v | _ => false
  | .setItem a i e, st => match st with | .Assign [.Subscript o j _] v _ => mtE tx sc a o && mtE tx sc i j && mtE tx sc e v | _ => false
  | .ex e, st => match st with | .Expr v _ => mtE tx sc e v && notComp e | _ => false
  | .ite t a b, st => match st with | .If v body orelse _ => mtE tx sc t v && mtB sc a body && mtB sc b orelse | _ => false
  | .whil t b, st => match st with | .While v body [] _ => mtE tx sc t v && mtB sc b body | _ => false
  | .for1 k ik es b, st => match st with | .For (.Name y _) iter body [] _ => sc.slots[k]? == some (some y) && mtIter tx sc ik es iter && mtB sc b body | _ => false
  | .for2 k₁ k₂ e b, st => match st with
    | .For (.Tuple [.Name y _, .Name z _] _ _) (.Call (.Name x _) [v] [] _) body [] _ => sc.slots[k₁]? == some (some y) && sc.slots[k₂]? == some (some z) && x == "enumerate" && glb sc x && mtE tx sc e v && mtB sc b body
    | _ => false
  | .ret e, st => match st with | .Return (some v) _ => mtE tx sc e v | _ => false
  | .raise c m, st => match st with | .Raise (some (.Call (.Name x _) [.Constant (.str v) _ _] [] _)) none _ => tx.exc && tx.clsName c == some x && glb sc x && v == m | _ => false
  | .tr b hs, st => match st with | .Try body handlers [] [] _ => tx.exc && mtB sc b body && mtH sc hs handlers | _ => false
  | .seq _ _, _ => false
  | .dead, _ => true
noncomputable def mtH (sc : Sc) : CHs → List ExceptHandler → Bool
  | .nil, hs => hs.isEmpty
  | .cons c as_ b r, hs => match hs with
    | .ExceptHandler (some (.Name x _)) name body _ :: rest => tx.clsName c == some x && glb sc x && (match as_, name with | none, none => true | some k, some y => sc.slots[k]? == some (some y) | _, _ => false) && mtB sc b body && mtH sc r rest
    | _ => false
end
end

noncomputable def PostS (Γ : Cx) (Rz : Rise) (f : Fm) (hid : List (Addr × Obj)) (ρ : List Addr) (Q : Flow → Shared → Prop) (E : Value → Shared → Prop) : RS → Prop
  | .next l' h' => ∀ ρ' s', ρ <+: ρ' → At Γ f hid ρ' l' h' s' → Q .next s'
  | .ret v h' => ∀ v' l' ρ' s', ρ <+: ρ' → At Γ f hid ρ' l' h' s' → VR ρ' v v' → Q (.ret v') s'
  | .exc c l' h' => EXQ Rz f hid ρ l' E c h'
  | .err => False

section
variable (Γ : Cx) (Rz : Rise) (cl : CallO) (W n : Nat)
noncomputable def SimB (b : CS) : Prop := ∀ (f : Fm) (ss : List Stmt), FmK n f → mtB Γ.tx f.sc b ss = true → ∀ hid ρ l h s Q E, At Γ f hid ρ l h s →
  PostS Γ Rz f hid ρ Q E (exec Γ.G cl W b l h) → wpAny (model Γ.prog Γ.w) f.A (execs ss f.env) Q E s
noncomputable def SimS (b : CS) : Prop := ∀ (f : Fm) (st : Stmt), FmK n f → mtS Γ.tx f.sc b st = true → ∀ hid ρ l h s Q E, At Γ f hid ρ l h s →
  PostS Γ Rz f hid ρ Q E (exec Γ.G cl W b l h) → wpAny (model Γ.prog Γ.w) f.A (PySem.exec st f.env) Q E s
noncomputable def SimHs : CHs → Prop
  | .nil => True
  | .cons _ _ b hs => SimB Γ Rz cl W n b ∧ SimHs hs
end

structure RzOk (Γ : Cx) (Rz : Rise) : Prop where
  own : ∀ (f : Fm) hid ρ l h c e s E, FmOk f → Rz f hid ρ l h c e s → (∀ e' s', Rz f hid ρ l h c e' s' → E e' s') → notedBy (model Γ.prog Γ.w) f.A f.env (cameBackBy (model Γ.prog Γ.w) f.A f.env E) e s
  unhide : ∀ (f : Fm) hx hid ρ l h c e s, Rz f (hx ++ hid) ρ l h c e s → Rz f hid ρ l h c e s

section
variable {Γ : Cx} {Rz : Rise} {cl : CallO} {W n : Nat} {f : Fm} {hid : List (Addr × Obj)} {ρ ρ' : List Addr} {l : LOC} {h : HP} {s : Shared} {E : Value → Shared → Prop}

theorem PostS.ext {Q : Flow → Shared → Prop} {r : RS} (p : ρ <+: ρ') (x : PostS Γ Rz f hid ρ Q E r) : PostS Γ Rz f hid ρ' Q E r := by
  cases r with
  | next l h => exact fun ρ'' s' q t => x ρ'' s' (p.trans q) t
  | ret v h => exact fun v' l' ρ'' s' q t => x v' l' ρ'' s' (p.trans q) t
  | exc c l h => exact EXQ.ext p x
  | err => exact x
/-- a value, then a statement's rest -/
theorem PostS.thn {α : Type} {Q : Flow → Shared → Prop} {r : R α} {k : α → HP → RS} {okA : α → HP → Prop} (p : PostS Γ Rz f hid ρ Q E (r.thn l k)) (hk : ∀ a h', PostS Γ Rz f hid ρ Q E (k a h') → okA a h') : Post r okA (EXQ Rz f hid ρ l E) := by
  cases r with
  | ok a h => exact hk a h p
  | exc c h => exact p
  | err => exact p

theorem simB_skip : SimB Γ Rz cl W n .skip := by
  intro f ss ok hm hid ρ l h s Q E t p
  unfold mtB at hm
  cases ss with
  | nil => exact wpAny_execs_nil (p _ _ (List.prefix_refl _) t)
  | cons _ _ => cases hm
theorem simB_seq {a b : CS} (ha : SimS Γ Rz cl W n a) (hb : SimB Γ Rz cl W n b) : SimB Γ Rz cl W n (.seq a b) := by
  intro f ss ok hm hid ρ l h s Q E t p
  unfold mtB at hm
  split at hm
  · simp only [Bool.and_eq_true] at hm
    refine wpAny_execs_cons (ha f _ ok hm.1 hid ρ l h s _ E t ?_)
    unfold exec at p
    cases r : exec Γ.G cl W a l h with
    | next l' h' => rw [r] at p; exact fun ρ' s' pre t' => hb f _ ok hm.2 hid ρ' l' h' s' Q E t' (PostS.ext pre p)
    | ret v h' => rw [r] at p; exact p
    | exc c l' h' => rw [r] at p; exact p
    | err => rw [r] at p; exact p
  · cases hm

theorem simS_skip : SimS Γ Rz cl W n .skip := by
  intro f st ok hm hid ρ l h s Q E t p
  unfold mtS at hm
  split at hm
  · exact wpAny_Pass (p _ _ (List.prefix_refl _) t)
  · cases hm
theorem simS_dead : SimS Γ Rz cl W n .dead := by
  intro f st ok hm hid ρ l h s Q E t p
  exact p.elim

theorem mt_swap {tx : Tx} {sc : Sc} {c : CE} {e : Expr} (h : mtE tx sc c e = true) (env : Env) (y : Str) (py : Pos) (ln : Nat) :
    swapsWith e (some (.Name y py)) ln env = pure false ∨ (swapsWith e (some (.Name y py)) ln env = pure true ∧ ∃ elt ik es cond, c = .comp elt ik es cond) := by
  cases e with
  | ListComp a b d p =>
    have hc : ∃ elt ik es cond, c = .comp elt ik es cond := by
      cases c with
      | comp elt ik es cond => exact ⟨_, _, _, _, rfl⟩
      | _ => simp [mtE] at h
    have e1 : swapsWith (.ListComp a b d p) (some (.Name y py)) ln env = pure (env.blockKind == .function && env.kindOf y == some .local && py.line == p.line && !(d.names.any fun (n, k) => n == y && (k == .local || k == .cell))) := rfl
    rw [e1]
    cases (env.blockKind == .function && env.kindOf y == some .local && py.line == p.line && !(d.names.any fun (n, k) => n == y && (k == .local || k == .cell))) with
    | true => exact .inr ⟨rfl, hc⟩
    | false => exact .inl rfl
  | SetComp a b d p => cases c <;> simp [mtE] at h
  | DictComp a b d p q => cases c <;> simp [mtE] at h
  | _ => exact .inl rfl
theorem mt_swapA {tx : Tx} {sc : Sc} {c : CE} {e : Expr} (h : mtE tx sc c e = true) (env : Env) (o : Expr) (x : Str) (py : Pos) (ln : Nat) : swapsWith e (some (.Attribute o x py)) ln env = pure false := by
  cases e with
  | SetComp a b d p => cases c <;> simp [mtE] at h
  | DictComp a b d p q => cases c <;> simp [mtE] at h
  | _ => rfl
theorem mt_swapI {tx : Tx} {sc : Sc} {c : CE} {e : Expr} (h : mtE tx sc c e = true) (env : Env) (o i : Expr) (py : Pos) (ln : Nat) : swapsWith e (some (.Subscript o i py)) ln env = pure false := by
  cases e with
  | SetComp a b d p => cases c <;> simp [mtE] at h
  | DictComp a b d p q => cases c <;> simp [mtE] at h
  | _ => rfl
theorem mt_swapN {tx : Tx} {sc : Sc} {c : CE} {e : Expr} (h : mtE tx sc c e = true) (hc : notComp c = true) (env : Env) (ln : Nat) : swapsWith e none ln env = pure false := by
  cases e with
  | ListComp a b d p => cases c <;> first | (simp [mtE] at h; done) | cases hc
  | SetComp a b d p => cases c <;> simp [mtE] at h
  | DictComp a b d p q => cases c <;> simp [mtE] at h
  | _ => rfl
theorem mt_swapT {tx : Tx} {sc : Sc} {c : CE} {e : Expr} (h : mtE tx sc c e = true) (env : Env) (es : List Expr) (k : Nat) (py : Pos) (ln : Nat) : swapsWith e (some (.Tuple es k py)) ln env = pure false := by
  cases e with
  | SetComp a b d p => cases c <;> simp [mtE] at h
  | DictComp a b d p q => cases c <;> simp [mtE] at h
  | _ => rfl

abbrev AllE (Γ : Cx) (Rz : Rise) (cl : CallO) (n : Nat) : Prop := (∀ c, SimV Γ Rz cl n c ∧ SimT Γ Rz cl n c) ∧ ∀ cs, SimL Γ Rz cl n cs ∧ ∀ c, cs = .cons c .nil → SimV Γ Rz cl n c

theorem simS_asg {k : Nat} {e : CE} (cx : CxOk Γ) (cf : CxFn Γ) (al : AllE Γ Rz cl n) : SimS Γ Rz cl W n (.asg k e) := by
  intro f st ok hm hid ρ l h s Q E t p
  unfold mtS at hm
  split at hm
  · rename_i y py v pos
    simp only [Bool.and_eq_true, beq_iff_eq] at hm
    unfold exec at p
    rcases mt_swap hm.2 f.env y py pos.line with q | ⟨q, elt, ik, es, cond, rfl⟩
    · refine wpAny_Assign_Name ((al.1 e).1 f v ok hm.2 hid ρ l h s _ E t (p.thn fun x h1 p1 v' ρ1 s1 pre1 t1 vr1 => ?_)) q
      exact t1.store ok.toFmOk hm.1 vr1 fun s2 t2 => p1 _ _ pre1 t2
    · rw [exec_Assign_Name_used y py v pos q]
      refine wpAny_bind (wpAny_standAt (wpAny_bind (sim_compU cx cf (al.2 es).1 (al.2 es).2 (al.1 elt).1 (al.1 cond).2 ok hm.2 hm.1 t (p.thn fun x h1 p1 ρ1 s1 pre1 t1 => ?_))))
      exact wpAny_pure (p1 _ _ pre1 t1)
  · cases hm

theorem simS_setAttr {a e : CE} {k : Nat} (cx : CxOk Γ) (al : AllE Γ Rz cl n) : SimS Γ Rz cl W n (.setAttr a k e) := by
  intro f st ok hm hid ρ l h s Q E t p
  unfold mtS at hm
  split at hm
  · simp only [Bool.and_eq_true, beq_iff_eq] at hm
    obtain ⟨⟨hx, m1⟩, m2⟩ := hm
    unfold exec at p
    refine plainObj_wpAny_Assign_Attribute ((al.1 e).1 f _ ok m2 hid ρ l h s _ E t (p.thn fun v h1 p1 v' ρ1 s1 pre1 t1 vr1 => ?_)) (mt_swapA m2 ..)
    refine (al.1 a).1 f _ ok m1 hid ρ1 l h1 s1 _ E t1 (PostS.thn (PostS.ext pre1 p1) fun x h2 p2 x' ρ2 s2 pre2 t2 vr2 => ?_)
    refine sim_setAttr t2 cx hx vr2 (vr1.mono pre2) (ex := EXQ Rz f hid ρ1 l E) (PostS.thn p2 fun _ h3 p3 => ?_)
    exact fun s' t' => p3 _ s' pre2 t'
  · cases hm
theorem simS_setItem {a i e : CE} (cx : CxOk Γ) (al : AllE Γ Rz cl n) : SimS Γ Rz cl W n (.setItem a i e) := by
  intro f st ok hm hid ρ l h s Q E t p
  unfold mtS at hm
  split at hm
  · simp only [Bool.and_eq_true, beq_iff_eq] at hm
    obtain ⟨⟨m1, m3⟩, m2⟩ := hm
    unfold exec at p
    refine wpAny_Assign_Subscript ((al.1 e).1 f _ ok m2 hid ρ l h s _ E t (p.thn fun v h1 p1 v' ρ1 s1 pre1 t1 vr1 => ?_)) (mt_swapI m2 ..)
    refine (al.1 a).1 f _ ok m1 hid ρ1 l h1 s1 _ E t1 (PostS.thn (PostS.ext pre1 p1) fun x h2 p2 x' ρ2 s2 pre2 t2 vr2 => ?_)
    refine (al.1 i).1 f _ ok m3 hid ρ2 l h2 s2 _ E t2 (PostS.thn (PostS.ext pre2 p2) fun y h3 p3 y' ρ3 s3 pre3 t3 vr3 => ?_)
    refine sim_setItem t3 (vr2.mono pre3) vr3 (vr1.mono (pre2.trans pre3)) (ex := EXQ Rz f hid ρ2 l E) (PostS.thn p3 fun _ h4 p4 => ?_)
    exact fun s' t' => p4 _ s' pre3 t'
  · cases hm
theorem interactive_off (ok : FmOk f) : interactive f.env = false := by
  unfold interactive
  simp [ok.kind]
theorem simS_ex {e : CE} (al : AllE Γ Rz cl n) : SimS Γ Rz cl W n (.ex e) := by
  intro f st ok hm hid ρ l h s Q E t p
  unfold mtS at hm
  split at hm
  · rw [Bool.and_eq_true] at hm
    unfold exec at p
    rw [PySem.exec_Expr f.env _ _ (interactive_off ok.toFmOk) (mt_swapN hm.1 hm.2 ..)]
    refine wpAny_bind (wpAny_standAt (wpAny_bind ((al.1 e).1 f _ ok hm.1 hid ρ l h s _ E t (p.thn fun x h1 p1 v' ρ1 s1 pre1 t1 vr1 => ?_))))
    exact wpAny_dropValue (p1 _ _ pre1 t1)
  · cases hm
theorem simS_ite {t₀ : CE} {a b : CS} (al : AllE Γ Rz cl n) (ha : SimB Γ Rz cl W n a) (hb : SimB Γ Rz cl W n b) : SimS Γ Rz cl W n (.ite t₀ a b) := by
  intro f st ok hm hid ρ l h s Q E t p
  unfold mtS at hm
  split at hm
  · simp only [Bool.and_eq_true] at hm
    unfold exec at p
    refine wpAny_If ((al.1 t₀).2 f _ ok hm.1.1 hid ρ l h s _ E t (p.thn fun x h1 p1 => ?_))
    cases hx : truthy x with
    | none => rw [hx] at p1; exact p1.elim
    | some c =>
      rw [hx] at p1
      refine ⟨c, hx, fun ρ1 s1 pre1 t1 => ?_⟩
      cases c with
      | true => exact ha f _ ok hm.1.2 hid ρ1 l h1 s1 Q E t1 (PostS.ext pre1 p1)
      | false => exact hb f _ ok hm.2 hid ρ1 l h1 s1 Q E t1 (PostS.ext pre1 p1)
  · cases hm
theorem simS_ret {e : CE} (al : AllE Γ Rz cl n) : SimS Γ Rz cl W n (.ret e) := by
  intro f st ok hm hid ρ l h s Q E t p
  unfold mtS at hm
  split at hm
  · unfold exec at p
    exact wpAny_Return_some ((al.1 e).1 f _ ok hm hid ρ l h s _ E t (p.thn fun x h1 p1 v' ρ1 s1 pre1 t1 vr1 => p1 _ _ _ _ pre1 t1 vr1))
  · cases hm

/-- what a raise must bring inside a loop -/
theorem EXQ.own (rz : RzOk Γ Rz) (ok : FmOk f) {c : Nat} {hx : List (Addr × Obj)} (x : EXQ Rz f hid ρ l E c h) : EXQ Rz f (hx ++ hid) ρ l (notedBy (model Γ.prog Γ.w) f.A f.env (cameBackBy (model Γ.prog Γ.w) f.A f.env E)) c h :=
  fun e ρ' s' pre r => rz.own f hid ρ' l h c e s' E ok (rz.unhide _ _ _ _ _ _ _ _ _ r) fun e' s'' r' => x e' ρ' s'' pre r'
theorem PostS.unhide (rz : RzOk Γ Rz) (ok : FmOk f) {Q : Flow → Shared → Prop} {r : RS} {hx : List (Addr × Obj)} (x : PostS Γ Rz f hid ρ Q E r) (hr : ∀ l h, r ≠ .next l h) :
    PostS Γ Rz f (hx ++ hid) ρ Q (notedBy (model Γ.prog Γ.w) f.A f.env (cameBackBy (model Γ.prog Γ.w) f.A f.env E)) r := by
  cases r with
  | next l h => exact absurd rfl (hr l h)
  | ret v h => exact fun v' l' ρ' s' pre t vr => x v' l' ρ' s' pre t.unhide vr
  | exc c l h => exact EXQ.own rz ok x
  | err => exact x

theorem simS_while {t₀ : CE} {b : CS} (rz : RzOk Γ Rz) (al : AllE Γ Rz cl n) (hb : SimB Γ Rz cl W n b) : SimS Γ Rz cl W n (.whil t₀ b) := by
  intro f st ok hm hid ρ l h s Q E t p
  unfold mtS at hm
  split at hm
  · simp only [Bool.and_eq_true] at hm
    unfold exec at p
    refine wpAny_While (codeAny_whileLoop (fun k s' => ∃ ρ' l' h', ρ <+: ρ' ∧ At Γ f hid ρ' l' h' s' ∧ PostS Γ Rz f hid ρ' Q E (whileL (fun l' h' => ev Γ.G cl t₀ l' h') (fun l' h' => exec Γ.G cl W b l' h') k l' h')) ?_ W ⟨ρ, l, h, List.prefix_refl _, t, p⟩)
    rintro k s' ⟨ρ', l', h', pre, t', p'⟩
    cases k with
    | zero => exact p'.elim
    | succ k =>
      unfold whileL at p'
      refine (al.1 t₀).2 f _ ok hm.1 hid ρ' l' h' s' _ _ t' (Post.mono (PostS.thn p' fun x h1 p1 => p1) (fun x h1 p1 => ?_) fun c h1 q => EXQ.own (hx := []) rz ok.toFmOk q)
      cases hx : truthy x with
      | none => rw [hx] at p1; exact p1.elim
      | some c =>
        rw [hx] at p1
        refine ⟨c, hx, fun ρ1 s1 pre1 t1 => ?_⟩
        cases c with
        | false => exact wpAny_execs_nil (p1 _ _ pre1 t1)
        | true =>
          refine hb f _ ok hm.2 hid ρ1 l' h1 s1 _ _ t1 ?_
          have p1 := PostS.ext pre1 p1
          cases r : exec Γ.G cl W b l' h1 with
          | next l2 h2 =>
            rw [r] at p1
            exact fun ρ2 s2 pre2 t2 => ⟨k, Nat.lt_succ_self _, ρ2, l2, h2, (pre.trans pre1).trans pre2, t2, PostS.ext pre2 p1⟩
          | ret v h2 => rw [r] at p1; exact p1
          | exc c l2 h2 => rw [r] at p1; exact EXQ.own (hx := []) rz ok.toFmOk p1
          | err => rw [r] at p1; exact p1
  · cases hm

theorem simS_for1 {k : Nat} {ik : IK} {es : CEs} {b : CS} (cx : CxOk Γ) (cf : CxFn Γ) (rz : RzOk Γ Rz) (al : AllE Γ Rz cl n) (hb : SimB Γ Rz cl W n b) : SimS Γ Rz cl W n (.for1 k ik es b) := by
  intro f st ok hm hid ρ l h s Q E t p
  unfold mtS at hm
  split at hm
  · simp only [Bool.and_eq_true, beq_iff_eq] at hm
    obtain ⟨⟨hk, m1⟩, m2⟩ := hm
    unfold exec at p
    refine wpAny_For (sim_iter cx cf (al.2 es).1 (al.2 es).2 ok m1 t (p.thn fun vs h1 p1 => ?_)) (mtIter_nofold m1 f.env)
    unfold IterQ
    split at p1
    case h_2 => exact p1.elim
    rename_i items g er
    rw [er]
    intro it H hx ρ2 s2 pre2 I h0 hg t2
    refine codeAny_forLoop (fun i s' => ∃ hx' j ρ' l' h', At Γ f (hx' ++ hid) ρ' l' h' s' ∧ H j hx' ρ' ∧ ρ <+: ρ' ∧ j ≤ items.length ∧ i = items.length + 1 - j ∧
      PostS Γ Rz f hid ρ' Q E (forL g (fun v _ l' h' => exec Γ.G cl W b (l'.set k (some v)) h') (items.drop j) j l' h')) ?_ (items.length + 1) ⟨hx, 0, ρ2, l, h1, t2, h0, pre2, Nat.zero_le _, rfl, PostS.ext pre2 p1⟩
    rintro i s' ⟨hx', j, ρ', l', h', tt, hj, pre, hjl, rfl, pp⟩
    by_cases hlt : j < items.length
    · rw [List.drop_eq_getElem_cons hlt] at pp
      unfold forL at pp
      split at pp
      case isFalse => exact pp.elim
      rename_i hgk
      refine I.item f _ ρ' _ h' s' j hx' items[j] _ _ ok.hand tt hj hgk (List.getElem?_eq_getElem hlt) fun v' hx2 s2' tt2 hj2 vr2 => ?_
      refine wpAny_assign_Name (tt2.store ok.toFmOk hk vr2 fun s3' tt3 => ?_)
      refine hb f _ ok m2 _ ρ' _ h' s3' _ _ tt3 ?_
      cases r : exec Γ.G cl W b (l'.set k (some items[j])) h' with
      | next l2 h2 =>
        rw [r] at pp
        exact fun ρ3 s4 pre3 t4 => ⟨items.length + 1 - (j + 1), by omega, hx2, j + 1, ρ3, l2, h2, t4, I.mono _ _ _ _ pre3 hj2, pre.trans pre3, hlt, rfl, PostS.ext pre3 pp⟩
      | ret v h2 => rw [r] at pp; exact fun v' l2 ρ3 s4 pre3 t4 vr => pp v' l2 ρ3 s4 pre3 t4.unhide vr
      | exc c l2 h2 => rw [r] at pp; exact EXQ.own rz ok.toFmOk pp
      | err => rw [r] at pp; exact pp
    · have hje : items.drop j = [] := List.drop_eq_nil_of_le (by omega)
      rw [hje] at pp
      unfold forL at pp
      split at pp
      case isFalse => exact pp.elim
      rename_i hgk
      refine I.done f _ ρ' _ h' s' j hx' _ _ ok.hand tt hj hgk (by show items.length ≤ j; omega) fun s2' tt2 => ?_
      exact wpAny_execs_nil (pp _ _ (List.prefix_refl _) tt2)
  · cases hm
end
end Sk


namespace Sk
open PySem PySem.Calls PySem.W PyProof.Rows PySem.Spec

/-! ## arguments -/
theorem zip_lookup : ∀ {names : List Str} {vals : List Value}, names.length = vals.length → ∀ n ∈ names, ((names.zip vals).lookup n).isSome = true
  | [], _, _, n, h => by cases h
  | m :: r, [], hl, _, _ => by simp at hl
  | m :: r, v :: vs, hl, n, h => by
    rw [List.zip_cons_cons, List.lookup_cons]
    by_cases q : (n == m) = true
    · rw [q]; rfl
    · rw [Bool.eq_false_iff.mpr q]
      rcases List.mem_cons.mp h with e | h
      · exact absurd (beq_iff_eq.mpr e) q
      · exact zip_lookup (by simpa using hl) n h
theorem zip_filterMap : ∀ {names : List Str} {vals : List Value}, names.length = vals.length → names.Nodup → (names.filterMap fun n => ((names.zip vals).lookup n).map (n, ·)) = names.zip vals := by
  have key : ∀ (names : List Str) (vals : List Value), names.length = vals.length → names.Nodup → ∀ (f : Str → Option Value), (∀ n v, (names.zip vals).lookup n = some v → f n = some v) → (names.filterMap fun n => (f n).map (n, ·)) = names.zip vals := by
    intro names
    induction names with
    | nil => intro vals _ _ _ _; rfl
    | cons m r ih =>
      intro vals hl hn f hf
      cases vals with
      | nil => simp at hl
      | cons v vs =>
        rw [List.nodup_cons] at hn
        have e1 : f m = some v := hf m v (by simp)
        rw [List.filterMap_cons, e1]
        simp only [Option.map_some, List.zip_cons_cons]
        rw [ih vs (by simpa using hl) hn.2 f fun n w e => hf n w ?_]
        rw [List.zip_cons_cons, List.lookup_cons]
        have hm : (n, w) ∈ r.zip vs := mem_of_lookup e
        have : n ∈ r := (List.of_mem_zip hm).1
        rw [show (n == m) = false from Bool.eq_false_iff.mpr fun q => hn.1 (by rw [← eq_of_beq q]; exact this)]
        exact e
  intro names vals hl hn
  exact key _ _ hl hn _ fun _ _ e => e

/-- plain positional parameters, no more -/
noncomputable def plainPar (p : Arguments) : Bool := match p with
  | ⟨[], _, none, [], _, none, _⟩ => true
  | _ => false
theorem bind_plain {fd : FuncData} {vals : List Value} (hp : plainPar fd.params = true) (hd : fd.defaults = .none) (hl : (fd.params.args.map (·.arg)).length = vals.length) (hn : (fd.params.args.map (·.arg)).Nodup) :
    bindArgs fd ⟨vals, []⟩ = pure ((fd.params.args.map (·.arg)).zip vals) := by
  obtain ⟨nm, ql, ps, bd, sc, gl, clo, df, kd, dc, pm, an, cd, ct, bt⟩ := fd
  obtain ⟨po, ar, va, ko, kdf, ka, dfs⟩ := ps
  simp only at hp hd hl hn
  unfold plainPar at hp
  split at hp
  case h_2 => cases hp
  rename_i e
  cases e
  subst hd
  have h1 : ((ar.map (·.arg)).filter fun n => (((ar.map (·.arg)).zip vals).lookup n).isNone) = [] := by
    rw [List.filter_eq_nil_iff]
    intro n hm
    have := zip_lookup hl n hm
    cases q : ((ar.map (·.arg)).zip vals).lookup n with
    | none => rw [q] at this; cases this
    | some _ => simp
  have h2 := zip_filterMap hl hn
  have h3 : (ar.map (·.arg)).take (ar.map (·.arg)).length = ar.map (·.arg) := List.take_length
  have hseq : seqItems? Value.none = pure none := rfl
  unfold bindArgs
  have hgt : ¬ (vals.length > (ar.map (·.arg)).length) := by omega
  simp only [List.map_nil, List.nil_append, List.append_nil, List.forIn_nil, pure_bind, hseq, Option.getD_none, Option.isNone_none, Bool.and_true, List.length_nil, Nat.zero_sub, List.drop_nil, Nat.sub_zero, h3, List.zip_nil_right]
  have : decide (vals.length > (ar.map (·.arg)).length) = false := decide_eq_false hgt
  simp only [this, Bool.false_eq_true, if_false, h1, List.isEmpty_nil, Bool.not_true, h2]

theorem bindL_other {kd : Str → Option NameKind} {n : Str} : ∀ {binds : List (Str × Value)} {m : Str → Option Value}, n ∉ binds.map (·.1) → bindL kd binds m n = m n
  | [], _, _ => rfl
  | (k, v) :: r, m, h => by
    simp only [List.map_cons, List.mem_cons, not_or] at h
    unfold bindL
    rw [bindL_other h.2]
    split
    · simp [h.1]
    · rfl
theorem bindL_get {kd : Str → Option NameKind} {n : Str} {v : Value} (hk : kd n = some .local) : ∀ {binds : List (Str × Value)} {m : Str → Option Value}, (binds.map (·.1)).Nodup → (n, v) ∈ binds → bindL kd binds m n = some v
  | (k, w) :: r, m, hn, h => by
    rw [List.map_cons, List.nodup_cons] at hn
    unfold bindL
    rcases List.mem_cons.mp h with e | h
    · cases e; rw [bindL_other hn.1, if_pos hk]; simp
    · exact bindL_get hk hn.2 h
theorem bindC_other {kd : Str → Option NameKind} {n : Str} : ∀ {binds : List (Str × Value)} {m : Str → Option Value}, n ∉ binds.map (·.1) → bindC kd binds m n = m n
  | [], _, _ => rfl
  | (k, v) :: r, m, h => by
    simp only [List.map_cons, List.mem_cons, not_or] at h
    unfold bindC
    rw [bindC_other h.2]
    split
    · rfl
    · simp [h.1]
theorem bindC_get {kd : Str → Option NameKind} {n : Str} {v : Value} (hk : kd n ≠ some .local) : ∀ {binds : List (Str × Value)} {m : Str → Option Value}, (binds.map (·.1)).Nodup → (n, v) ∈ binds → bindC kd binds m n = some v
  | (k, w) :: r, m, hn, h => by
    rw [List.map_cons, List.nodup_cons] at hn
    unfold bindC
    rcases List.mem_cons.mp h with e | h
    · cases e; rw [bindC_other hn.1, if_neg hk]; simp
    · exact bindC_get hk hn.2 h
theorem zip_map_fst {α β : Type} : ∀ {a : List α} {b : List β}, a.length = b.length → (a.zip b).map (·.1) = a
  | [], [], _ => rfl
  | _ :: _, [], h => by simp at h
  | [], _ :: _, h => by simp at h
  | x :: a, y :: b, h => by simp [zip_map_fst (a := a) (b := b) (by simpa using h)]

/-! ## functions -/
/-- what the text says of a function -/
noncomputable def fnCheck (tx : Tx) (K : Frag) (a : Addr) (slots : List Str) (fn : Fn) : Bool := match K.lookup a with
  | some ⟨_, _, .func fd, _⟩ => (match fd.body with
    | .stmts body => fd.scope.isCoroutine == false && fd.scope.isGenerator == false && fd.scope.kind == .function && codeIn K fd.code fd.qualname && fd.closure.isEmpty && fd.globals == mainGlobals && fd.builtins == builtinsNs &&
        plainPar fd.params && fd.defaults == .none && fd.params.args.map (·.arg) == slots.take fn.np && slots.length == fn.ns && decide (fn.np ≤ fn.ns) && decide slots.Nodup &&
        (slots.all fun x => fd.scope.names.lookup x == some .local || fd.scope.names.lookup x == some .cell) && decide ((cellsFrom 0 fd.scope.names []).map (·.1)).Nodup && mtB tx ⟨fd.scope.names, slots.map some⟩ fn.code body
    | _ => false)
  | _ => false

structure FnFact (Γ : Cx) (a : Addr) (fn : Fn) (slots : List Str) (fd : FuncData) (body : List Stmt) : Prop where
  get : ∃ oc od osl, Γ.K.lookup a = some ⟨oc, od, .func fd, osl⟩
  co : fd.scope.isCoroutine = false
  gen : fd.scope.isGenerator = false
  kind : fd.scope.kind = .function
  bd : fd.body = .stmts body
  code : codeIn Γ.K fd.code fd.qualname = true
  clo : fd.closure = []
  glob : fd.globals = mainGlobals
  blt : fd.builtins = builtinsNs
  par : plainPar fd.params = true
  dfl : fd.defaults = .none
  names : fd.params.args.map (·.arg) = slots.take fn.np
  len : slots.length = fn.ns
  le : fn.np ≤ fn.ns
  nd : slots.Nodup
  loc : ∀ x ∈ slots, fd.scope.names.lookup x = some .local ∨ fd.scope.names.lookup x = some .cell
  cnd : ((cellsFrom 0 fd.scope.names []).map (·.1)).Nodup
  mt : mtB Γ.tx ⟨fd.scope.names, slots.map some⟩ fn.code body = true
theorem fnCheck_fact {Γ : Cx} {a : Addr} {slots : List Str} {fn : Fn} (h : fnCheck Γ.tx Γ.K a slots fn = true) : ∃ fd body, FnFact Γ a fn slots fd body := by
  unfold fnCheck at h
  split at h
  case h_2 => cases h
  rename_i oc od fd osl hk
  split at h
  case h_2 => cases h
  rename_i body hb
  simp only [Bool.and_eq_true, beq_iff_eq, decide_eq_true_eq, List.isEmpty_iff, List.all_eq_true, Bool.or_eq_true] at h
  obtain ⟨⟨⟨⟨⟨⟨⟨⟨⟨⟨⟨⟨⟨⟨⟨h1, h2⟩, h3⟩, h4⟩, h5⟩, h6⟩, h7⟩, h8⟩, h9⟩, h10⟩, h11⟩, h12⟩, h13⟩, h14⟩, h15⟩, h16⟩ := h
  exact ⟨fd, body, ⟨oc, od, osl, hk⟩, h1, h2, h3, hb, h4, h5, h6, h7, h8, h9, h10, h11, h12, h13, h14, h15, h16⟩

structure TxFn (Γ : Cx) : Prop where
  fn : ∀ fi a, Γ.tx.fnAddr fi = some a → ∀ fn, Γ.G.fns fi = some fn → ∃ slots fd body, FnFact Γ a fn slots fd body

noncomputable def callFm (f : Fm) (A' : Around) (fd : FuncData) (slots : List Str) (L' a : Addr) (oL : Obj) : Fm :=
  let env := newEnv fd.scope L' fd.globals (cellsFrom (L' + 1) fd.scope.names []) (fd.qualname ++ ".<locals>.") (some a) fd.code none fd.builtins
  ⟨env, A'.deeper env, slots.map some, cellsFrom (L' + 1) fd.scope.names [], (f.env.locals, oL) :: f.fr0, f.env :: f.outer⟩

structure RzCall (Γ : Cx) (Rz : Rise) : Prop where
  leave : ∀ (f : Fm) (A' : Around) (fd : FuncData) (slots : List Str) (a : Addr) (oL : Obj) hid ρ ρ' l l' h h' s s' c e (E : Value → Shared → Prop), FmOk f → A'.frames = f.A.frames → At Γ f hid ρ l h s → ρ <+: ρ' → s.heap.get? f.env.locals = some oL →
    FmOk (callFm f A' fd slots s.heap.objs.size a oL) →
    Rz (callFm f A' fd slots s.heap.objs.size a oL) (ledOf s.heap (f.cells.map (·.2)) ++ hid) ρ' l' h' c e s' → (∀ e' s'', Rz f hid ρ' l h' c e' s'' → E e' s'') →
    wpAny (model Γ.prog Γ.w) (callFm f A' fd slots s.heap.objs.size a oL).A (leaving (callFm f A' fd slots s.heap.objs.size a oL).env e) (fun _ s'' => E e s'') E s'

section
variable {Γ : Cx} {Rz : Rise} {W n : Nat} {f : Fm} {hid : List (Addr × Obj)} {ρ : List Addr} {l : LOC} {h : HP} {s : Shared}

theorem callFm_ok {A' : Around} {fd : FuncData} {slots : List Str} {L' a : Addr} {oL : Obj} {fn : Fn} {body : List Stmt} (ff : FnFact Γ a fn slots fd body) (hh : A'.handled = none) : FmOk (callFm f A' fd slots L' a oL) := by
  have cn : ((cellsFrom (L' + 1) fd.scope.names []).map (·.1)).Nodup := cellsFrom_names fd.scope.names 0 (L' + 1) [] [] rfl ▸ ff.cnd
  have cel : ∀ x, fd.scope.names.lookup x = some .cell → ∃ c, (cellsFrom (L' + 1) fd.scope.names []).lookup x = some c := fun x e => Option.isSome_iff_exists.mp (cellsFrom_some _ _ _ (.inl e))
  have slot : ∀ (k : Nat) (x : Str), (slots.map some)[k]? = some (some x) → slots[k]? = some x := fun k x e => by
    rw [List.getElem?_map] at e
    obtain ⟨y, e1, e2⟩ := Option.map_eq_some_iff.mp e
    rw [e1, Option.some.inj e2]
  refine ⟨ff.kind, ff.glob, ff.blt, fun i j x hi hj => ?_, fun k x hk => ?_, fun x hx => ?_, cn, hh⟩
  · have h1 := slot i x hi
    have h2 := slot j x hj
    obtain ⟨a1, b1⟩ := List.getElem?_eq_some_iff.mp h1
    obtain ⟨a2, b2⟩ := List.getElem?_eq_some_iff.mp h2
    have pw := List.pairwise_iff_getElem.mp ff.nd
    rcases Nat.lt_trichotomy i j with q | q | q
    · exact absurd (b1.trans b2.symm) (pw i j a1 a2 q)
    · exact q
    · exact absurd (b2.trans b1.symm) (pw j i a2 a1 q)
  · rcases ff.loc x (List.mem_of_getElem? (slot k x hk)) with q | q
    · exact .inl q
    · obtain ⟨c, e⟩ := cel x q
      exact .inr ⟨q, c, e, e⟩
  · obtain ⟨c, e⟩ := cel x hx
    exact ⟨c, e, e⟩

theorem sim_call (cx : CxOk Γ) (tf : TxFn Γ) (rc : RzCall Γ Rz) (hb : ∀ b, SimB Γ Rz (callN Γ.G W n) W n b) : SimC Γ Rz (callN Γ.G W (n + 1)) (n + 1) := by
  intro fi a hfa f A' ok hh hfr hroom hunits args vals hid ρ l h s Q E t va p
  unfold callN at p
  split at p
  case h_2 => exact p.elim
  rename_i fn hfn
  unfold Fn.run at p
  split at p
  case isFalse => exact p.elim
  rename_i hal
  obtain ⟨slots, fd, body, ff⟩ := tf.fn fi a hfa fn hfn
  obtain ⟨oc, od, osl, hk⟩ := ff.get
  have X := keepIn_s t cx
  obtain ⟨oL, hL⟩ := t.locObj
  have hnl : (fd.params.args.map (·.arg)).length = vals.length := by
    rw [ff.names, va.length, hal, List.length_take, ff.len]
    exact Nat.min_eq_left ff.le
  have hnd : (fd.params.args.map (·.arg)).Nodup := by rw [ff.names]; exact (List.take_sublist _ _).nodup ff.nd
  refine codeAny_call_function (by omega) (X _ _ hk) rfl ff.co ff.gen ff.bd (codeRec_of X ff.code) (BindsTo.of_eq (s := s) (bind_plain ff.par ff.dfl hnl hnd) _ _ _ _ ?_)
  rw [ff.clo]
  refine wpAny_newFunctionEnv_cells ff.kind (fun x hx => ?_) fun env' he s' x => ?_
  · have hm : x.1 ∈ slots := by
      have : x.1 ∈ fd.params.args.map (·.arg) := (List.of_mem_zip (show (x.1, x.2) ∈ _ from hx)).1
      rw [ff.names] at this
      exact List.mem_of_mem_take this
    rcases ff.loc _ hm with q | q
    · exact .inl q
    · exact .inr ⟨q, cellsFrom_some _ _ _ (.inl q)⟩
  · have hfm : env' = (callFm f A' fd slots s.heap.objs.size a oL).env := he
    have cn : ((cellsFrom (s.heap.objs.size + 1) fd.scope.names []).map (·.1)).Nodup := cellsFrom_names fd.scope.names 0 (s.heap.objs.size + 1) [] [] rfl ▸ ff.cnd
    rw [hfm] at x ⊢
    have okF : FmOk (callFm f A' fd slots s.heap.objs.size a oL) := callFm_ok ff hh
    have okK : FmK n (callFm f A' fd slots s.heap.objs.size a oL) := ⟨okF, by show A'.depth + 1 + 2 * n + 2 < _; omega, by show A'.units + 3 + 16 * n + 16 < _; omega⟩
    obtain ⟨h₁, tk, rfl, _⟩ := x.done
    have k1 := x.toInCall.keep
    have clt : ∀ q ∈ f.cells, q.2 < s.heap.objs.size := fun q hq => t.all_lt _ (by unfold Fm.adr; simp only [List.mem_append]; exact .inr (.inl (List.mem_map_of_mem hq)))
    have nd := t.nodup
    unfold Fm.adr at nd
    rw [List.nodup_append] at nd
    have cnd := (List.nodup_append.mp nd.2.1).1
    have hcelm : ∀ q ∈ (callFm f A' fd slots s.heap.objs.size a oL).cells, h₁.IsCell q.2 (bindC (callFm f A' fd slots s.heap.objs.size a oL).env.kindOf ((fd.params.args.map (·.arg)).zip vals) (fun _ => none) q.1) := fun q hq => x.cell q.1 q.2 (lookup_of_mem cn hq)
    have ent : At Γ (callFm f A' fd slots s.heap.objs.size a oL) (ledOf s.heap (f.cells.map (·.2)) ++ hid) ρ (args.map some ++ List.replicate (fn.ns - fn.np) none) h { s with heap := h₁, toks := tk } := by
      refine t.enter (f' := callFm f A' fd slots s.heap.objs.size a oL) (by rw [t.sh]) k1 hL rfl (fun q hq => (of_mem_ledOf hq).2) ?_ ?_ (Nat.le_refl _) (fun q hq => ⟨_, hcelm q hq⟩) ⟨_, x.toInCall.ns, ?_, ?_⟩
      · rw [List.nodup_append]
        refine ⟨?_, ?_, fun c hc d hd e => ?_⟩
        · show ((cellsFrom (s.heap.objs.size + 1) fd.scope.names []).map (·.2)).Nodup
          exact List.pairwise_map.mpr x.apart
        · rw [List.nodup_append]
          refine ⟨ledOf_nodup cnd, by simp, fun c hc d hd e => ?_⟩
          obtain ⟨q, hq, rfl⟩ := List.mem_map.mp hc
          obtain ⟨q', hq', e'⟩ := List.mem_map.mp (of_mem_ledOf hq).1
          have h1 := clt q' hq'
          rw [List.mem_singleton.mp hd] at e
          have h2 : q.1 = s.heap.objs.size := e
          rw [e', h2] at h1
          exact Nat.lt_irrefl _ h1
        · obtain ⟨q, hq, rfl⟩ := List.mem_map.mp hc
          have habove : s.heap.objs.size < q.2 := x.above q.1 q.2 hq
          rcases List.mem_append.mp hd with hd | hd
          · obtain ⟨q2, hq2, rfl⟩ := List.mem_map.mp hd
            obtain ⟨q', hq', e'⟩ := List.mem_map.mp (of_mem_ledOf hq2).1
            have h1 := clt q' hq'
            rw [e', ← e] at h1
            exact Nat.lt_irrefl _ (Nat.lt_trans h1 habove)
          · rw [List.mem_singleton.mp hd] at e
            have h2 : q.2 = s.heap.objs.size := e
            rw [h2] at habove
            exact Nat.lt_irrefl _ habove
      · intro c hc
        rcases List.mem_append.mp hc with hc | hc
        · obtain ⟨q, hq, rfl⟩ := List.mem_map.mp hc
          exact .inr (Nat.le_of_lt (x.above q.1 q.2 hq))
        · obtain ⟨q, hq, rfl⟩ := List.mem_map.mp hc
          exact .inl (of_mem_ledOf hq).1
      · show (args.map some ++ List.replicate (fn.ns - fn.np) none).length = (slots.map some).length
        simp [hal, ff.len]
        have := ff.le
        omega
      · intro k y v hky hv
        have hk1 : k < args.length := by
          rcases Nat.lt_or_ge k args.length with q | q
          · exact q
          · rw [List.getElem?_append_right (by simpa using q)] at hv
            rw [List.getElem?_replicate] at hv
            split at hv <;> simp at hv
        rw [List.getElem?_append_left (by simpa using hk1), List.getElem?_map] at hv
        obtain ⟨w, e1, e2⟩ := Option.map_eq_some_iff.mp hv
        cases e2
        obtain ⟨v', ev', hvr⟩ := va.get e1
        have hsl : slots[k]? = some y := by
          have : (slots.map some)[k]? = some (some y) := hky
          rw [List.getElem?_map] at this
          obtain ⟨z, e3, e4⟩ := Option.map_eq_some_iff.mp this
          rw [e3, Option.some.inj e4]
        have hpk : (fd.params.args.map (·.arg))[k]? = some y := by
          rw [ff.names, List.getElem?_take_of_lt (by omega)]; exact hsl
        have hz : (y, v') ∈ (fd.params.args.map (·.arg)).zip vals := by
          refine List.mem_of_getElem? (i := k) ?_
          rw [List.getElem?_zip_eq_some]
          exact ⟨hpk, ev'⟩
        have hzn : (((fd.params.args.map (·.arg)).zip vals).map (·.1)).Nodup := by rw [zip_map_fst hnl]; exact hnd
        refine ⟨v', hvr, ?_⟩
        by_cases hkl : (callFm f A' fd slots s.heap.objs.size a oL).env.kindOf y = some .local
        · exact .inl ⟨hkl, bindL_get hkl hzn hz⟩
        · rcases ff.loc y (List.mem_of_getElem? hsl) with q | q
          · exact absurd q hkl
          · obtain ⟨c, ec⟩ := Option.isSome_iff_exists.mp (cellsFrom_some fd.scope.names (s.heap.objs.size + 1) [] (.inl q))
            refine .inr ⟨hkl, c, ec, ?_⟩
            have := x.cell y c ec
            rw [bindC_get hkl hzn hz] at this
            exact this
    have back : ∀ ρ' l' h' s', ρ <+: ρ' → At Γ (callFm f A' fd slots s.heap.objs.size a oL) (ledOf s.heap (f.cells.map (·.2)) ++ hid) ρ' l' h' s' → At Γ f hid ρ' l h' s' := fun ρ' l' h' s' pre y =>
      t.leave y pre hL rfl fun q hq => by
        obtain ⟨v, o, e1, e2⟩ := t.cel q hq
        exact .inl ⟨o, mem_ledOf (List.mem_map_of_mem hq) e1, e1⟩
    refine ⟨(cx.nolimit.keeps t.keepBase).keeps k1, codeAny_func ?_⟩
    refine hb fn.code (callFm f A' fd slots s.heap.objs.size a oL) body okK ff.mt _ ρ _ h _ _ _ ent ?_
    cases r : exec Γ.G (callN Γ.G W n) W fn.code (args.map some ++ List.replicate (fn.ns - fn.np) none) h with
    | next l' h' => rw [r] at p; exact fun ρ' s' pre y => p _ _ _ pre (back _ _ _ _ pre y) rfl
    | ret v h' => rw [r] at p; exact fun v' l' ρ' s' pre y vr => p _ _ _ pre (back _ _ _ _ pre y) vr
    | exc c l' h' =>
      rw [r] at p
      intro e ρ' s' pre rz
      exact rc.leave f A' fd slots a oL hid ρ ρ' l l' h h' s s' c e _ ok hfr t pre hL okF rz fun e' s'' rz' => p e' ρ' s'' pre rz'
    | err => rw [r] at p; exact p
end
end Sk


namespace Sk
open PySem PySem.Calls PySem.W PyProof.Rows PySem.Spec

section
variable {Γ : Cx} {Rz : Rise} {cl : CallO} {W n : Nat}

theorem simS_for2 {k₁ k₂ : Nat} {e₀ : CE} {b : CS} (cx : CxOk Γ) (cf : CxFn Γ) (rz : RzOk Γ Rz) (al : AllE Γ Rz cl n) (hb : SimB Γ Rz cl W n b) : SimS Γ Rz cl W n (.for2 k₁ k₂ e₀ b) := by
  intro f st ok hm hid ρ l h s Q E t p
  unfold mtS at hm
  split at hm
  case h_2 => cases hm
  rename_i y py z pz tk0 pt x px v cpos body pos
  simp only [Bool.and_eq_true, beq_iff_eq] at hm
  obtain ⟨⟨⟨⟨⟨hk1, hk2⟩, rfl⟩, hg⟩, m1⟩, m2⟩ := hm
  unfold exec at p
  refine wpAny_For ?_ (fun _ => rfl)
  refine Call_Name rfl (t.blt ok.toFmOk cx cf hg (by decide) (by decide) Boot.«enumerate» ?_)
  have hpl : (backTo cpos (starEach [v] f.env)).any (·.1) = false := by rw [mt_star m1]; rfl
  refine PySem.callWith_type (first := []) hpl (evalArgs_any hpl ?_)
  rw [mt_star m1]
  refine spliced_cons ((al.1 e₀).1 f v ok m1 hid ρ l h s _ E t (p.thn fun a h1 p1 a' ρ1 s1 pre1 t1 vr1 => spliced_nil ?_))
  split at p1
  case h_2 => exact p1.elim
  rename_i items g er
  have hai : ∃ i, a = .ref i := by
    cases a with
    | ref i => exact ⟨i, rfl⟩
    | _ => cases er
  obtain ⟨i, rfl⟩ := hai
  simp only [itemsOf] at er
  split at er
  case h_2 => cases er
  rename_i vs ei
  cases er
  obtain ⟨ad, had, rfl⟩ := vr1
  obtain ⟨o, g1, r1⟩ := t1.obj i _ ad ei had
  obtain ⟨vs', l1, v1⟩ := isList_of g1 r1
  refine call_enumerate_list l1 fun h2 he2 hit2 hsz2 hk2' => ?_
  obtain ⟨oi, goi, oc, od⟩ := hit2
  have t2 : At Γ f ([(s1.heap.objs.size + 1, { cls := .type "enumerate", dict := none, data := .fields #[.none, .bool false, .ref s1.heap.objs.size, rawInt 0, .none, .none], slots := #[] }), (s1.heap.objs.size, oi)] ++ hid) ρ1 l h1 { s1 with heap := h2 } := by
    have ta : At Γ f ((s1.heap.objs.size, oi) :: hid) ρ1 l h1 { s1 with heap := h2 } := t1.hidNew (by rw [t1.sh]) hk2' (Nat.le_refl _) goi
    refine ta.rehid [] (by rw [t1.sh]) (fun b o _ e => e) (fun _ h => by cases h) (fun q hq => ?_) ?_ fun q hq => ?_
    · rcases List.mem_cons.mp hq with rfl | hq
      · exact he2
      · exact ta.hidden q hq
    · show ((s1.heap.objs.size + 1) :: ((s1.heap.objs.size, oi) :: hid).map (·.1)).Nodup
      rw [List.nodup_cons]
      refine ⟨fun hm => ?_, (adr_nodup.mp ta.nodup).1⟩
      rw [List.map_cons] at hm
      rcases List.mem_cons.mp hm with e | hm
      · exact absurd e (Nat.succ_ne_self _)
      · have := t1.all_lt _ (mem_adr.mpr (.inl hm))
        exact absurd (show s1.heap.objs.size + 1 < s1.heap.objs.size from this) (by omega)
    · rcases List.mem_cons.mp hq with rfl | hq
      · refine ⟨fun hm => ?_, ?_⟩
        · have := t1.all_lt _ (mem_adr (hid := hid) |>.mpr (.inr hm))
          exact absurd this (by show ¬ (s1.heap.objs.size + 1 < s1.heap.objs.size); omega)
        · cases q : Γ.base.get? (s1.heap.objs.size + 1) with
          | none => rfl
          | some o => exact absurd (Heap.lt_size (t1.keepBase _ _ q)) (by show ¬ (s1.heap.objs.size + 1 < s1.heap.objs.size); omega)
      · exact ta.hidOff hq
  refine wpAny_pyIter_enum he2 ?_
  generalize hE : s1.heap.objs.size + 1 = en at t2 ⊢
  generalize hI : s1.heap.objs.size = it at t2 ⊢
  have hne : en ≠ it := by rw [← hE, ← hI]; exact Nat.succ_ne_self _
  refine codeAny_forLoop_any (fun m s' => ∃ (j : Nat) (old : Value) (oi : Obj) (ρ' : List Addr) (l' : LOC) (h' : HP), At Γ f ([(en, { cls := .type "enumerate", dict := none, data := .fields #[.none, .bool false, .ref it, rawInt (j : Int), .none, old], slots := #[] }), (it, oi)] ++ hid) ρ' l' h' s' ∧
    (oi.cls = .type "list_iterator" ∧ oi.data = .fields #[.ref ad, .int (j : Nat) 0]) ∧ ρ1 <+: ρ' ∧ j ≤ items.length ∧ m = items.length + 1 - j ∧
    PostS Γ Rz f hid ρ' Q E (forL (some (i, .list items)) (fun v n l' h' => exec Γ.G cl W b ((l'.set k₁ (some (.int n))).set k₂ (some v)) h') (items.drop j) j l' h')) ?_ (items.length + 1) ⟨0, .none, oi, ρ1, l, h1, t2, ⟨oc, od⟩, List.prefix_refl _, Nat.zero_le _, rfl, PostS.ext pre1 p1⟩
  rintro m s' ⟨j, old, oi, ρ', l', h', tt, ⟨oc, od⟩, pre, hjl, rfl, pp⟩
  have hGi : ∀ hg : okG (some (i, .list items)) h' = true, ∃ ws, s'.heap.IsList ad ws.toArray ∧ VRs ρ' items ws := fun hg => by
    obtain ⟨o, g1, r1⟩ := tt.obj i _ ad (okG_some hg) (getElem?_pre pre had)
    exact isList_of g1 r1
  have hoe := tt.hidden _ (.head _)
  have hoi := tt.hidden (it, oi) (.tail _ (.head _))
  by_cases hlt : j < items.length
  · rw [List.drop_eq_getElem_cons hlt] at pp
    unfold forL at pp
    split at pp
    case isFalse => exact pp.elim
    rename_i hgk
    obtain ⟨ws, lw, vw⟩ := hGi hgk
    obtain ⟨v', e1, e2⟩ := vw.get (List.getElem?_eq_getElem hlt)
    refine wpAny_pyNext_enum_item (i := j) hoe ⟨oi, hoi, oc, od⟩ lw (by simpa using e1) hne fun h3 heo hit3 ht3 hz3 hk3 => ?_
    refine wpAny_letOwnedTupleGo_enum heo fun h4 he4 hs4 => ?_
    replace hs4 : Heap.SameBut en h3 h4 := hs4
    have helt : en < s'.heap.objs.size := Heap.lt_size hoe
    have ht4 : h4.IsTuple s'.heap.objs.size #[.int j s'.toks, v'] := ⟨_, (hs4.2 _ (Nat.ne_of_gt helt)).trans ht3, rfl, _, rfl⟩
    have hz4 : h4.objs.size = s'.heap.objs.size + 1 := hs4.1.trans hz3
    refine wpAny_assign_Tuple ok.hand ht4 rfl rfl fun h5 hx5 => ?_
    replace hx5 : Heap.ExtBut h4.objs.size h4 h5 := hx5
    have old5 : ∀ b o, b < s'.heap.objs.size → h4.get? b = some o → h5.get? b = some o := fun b o hb e => hx5 b o (by rw [hz4]; exact Nat.ne_of_lt (Nat.lt_succ_of_lt hb)) e
    obtain ⟨oi', goi', oc', od'⟩ := hit3
    have hilt : it < s'.heap.objs.size := Heap.lt_size hoi
    have nd := (adr_nodup.mp tt.nodup).1
    have t5 : At Γ f ([(en, { cls := .type "enumerate", dict := none, data := .fields #[.none, .bool false, .ref it, rawInt ((j : Int) + 1), .none, v'], slots := #[] }), (it, oi')] ++ hid) ρ' l' h' { s' with heap := h5, toks := s'.toks + 1 } := by
      refine tt.rehid [en, it] (by rw [tt.sh]) (fun b o hb e => ?_) (fun c hc => ?_) (fun q hq => ?_) nd fun q hq => ?_
      · simp only [List.mem_cons, List.not_mem_nil, or_false, not_or] at hb
        exact old5 b o (Heap.lt_size e) ((hs4.2 b hb.1).trans (hk3 b o hb.1 hb.2 e))
      · simp only [List.mem_cons, List.not_mem_nil, or_false] at hc
        rcases hc with rfl | rfl
        · exact tt.hidOff (.head _)
        · exact tt.hidOff (p := (c, oi)) (.tail _ (.head _))
      · rcases List.mem_cons.mp hq with rfl | hq
        · exact old5 _ _ helt he4
        · rcases List.mem_cons.mp hq with rfl | hq
          · exact old5 _ _ hilt ((hs4.2 _ hne.symm).trans goi')
          · have g := tt.hidden q (.tail _ (.tail _ hq))
            have n1 : q.1 ≠ en := fun e => by
              have := (List.nodup_cons.mp nd).1
              exact this (List.mem_cons_of_mem _ (List.mem_map.mpr ⟨q, hq, e⟩))
            have n2 : q.1 ≠ it := fun e => by
              have := (List.nodup_cons.mp (List.nodup_cons.mp nd).2).1
              exact this (List.mem_map.mpr ⟨q, hq, e⟩)
            exact old5 _ _ (Heap.lt_size g) ((hs4.2 _ n1).trans (hk3 _ _ n1 n2 g))
      · rcases List.mem_cons.mp hq with rfl | hq
        · exact tt.hidOff (p := (en, { cls := .type "enumerate", dict := none, data := .fields #[.none, .bool false, .ref it, rawInt (j : Int), .none, old], slots := #[] })) (.head _)
        · rcases List.mem_cons.mp hq with rfl | hq
          · exact tt.hidOff (p := (it, oi)) (.tail _ (.head _))
          · exact tt.hidOff (.tail _ (.tail _ hq))
    show wpAny _ f.A (do holding [v'] (assign (.Name y py) f.env (.int j s'.toks)); do holding [] (assign (.Name z pz) f.env v'); pure ()) _ _ _
    refine wpAny_bind (wpAny_holding (wpAny_assign_Name (t5.store ok.toFmOk hk1 (v := .int (j : Int)) ⟨_, rfl⟩ fun s6 t6 => ?_)))
    refine wpAny_bind (wpAny_holding (wpAny_assign_Name (t6.store ok.toFmOk hk2 e2 fun s7 t7 => wpAny_pure ?_)))
    refine hb f _ ok m2 _ ρ' _ h' s7 _ _ t7 ?_
    cases r : exec Γ.G cl W b ((l'.set k₁ (some (.int j))).set k₂ (some items[j])) h' with
    | next l2 h2 =>
      rw [r] at pp
      refine fun ρ3 s4 pre3 t4 => ⟨items.length + 1 - (j + 1), by omega, j + 1, v', oi', ρ3, l2, h2, ?_, ⟨oc', od'⟩, pre.trans pre3, hlt, rfl, PostS.ext pre3 pp⟩
      have ej : ((j + 1 : Nat) : Int) = (j : Int) + 1 := by push_cast; rfl
      rw [ej]; exact t4
    | ret v h2 => rw [r] at pp; exact fun v' l2 ρ3 s4 pre3 t4 vr => pp v' l2 ρ3 s4 pre3 t4.unhide vr
    | exc c l2 h2 => rw [r] at pp; exact EXQ.own rz ok.toFmOk pp
    | err => rw [r] at pp; exact pp
  · have hje : items.drop j = [] := List.drop_eq_nil_of_le (by omega)
    rw [hje] at pp
    unfold forL at pp
    split at pp
    case isFalse => exact pp.elim
    rename_i hgk
    obtain ⟨ws, lw, vw⟩ := hGi hgk
    refine wpAny_pyNext_enum_end (i := j) ok.hand hoe ⟨oi, hoi, oc, od⟩ lw (by simp [vw.length]; omega) fun h3 hx3 => wpAny_execs_nil (pp _ _ (List.prefix_refl _) ?_)
    have nd := (adr_nodup.mp tt.nodup).1
    refine tt.rehid [it] (by rw [tt.sh]) (fun b o hb e => hx3 b o (by simpa using hb) e) (fun c hc => by rw [List.mem_singleton.mp hc]; exact tt.hidOff (p := (it, oi)) (.tail _ (.head _))) (fun q hq => ?_) (List.nodup_cons.mp (List.nodup_cons.mp nd).2).2 fun q hq => tt.hidOff (.tail _ (.tail _ hq))
    refine hx3 _ _ (fun e => ?_) (tt.hidden q (.tail _ (.tail _ hq)))
    exact (List.nodup_cons.mp (List.nodup_cons.mp nd).2).1 (List.mem_map.mpr ⟨q, hq, e⟩)
end
end Sk


namespace Sk
open PySem PySem.Calls PySem.W PyProof.Rows PySem.Spec

section
variable {Γ : Cx} {Rz : Rise} {cl : CallO} {W n : Nat}

theorem simS_asg2 {k₁ k₂ : Nat} {e : CE} (al : AllE Γ Rz cl n) : SimS Γ Rz cl W n (.asg2 k₁ k₂ e) := by
  intro f st ok hm hid ρ l h s Q E t p
  unfold mtS at hm
  split at hm
  case h_2 => cases hm
  rename_i y py z pz tk0 pt v pos
  simp only [Bool.and_eq_true, beq_iff_eq] at hm
  obtain ⟨⟨⟨hk1, hk2⟩, m1⟩, hc⟩ := hm
  unfold exec at p
  have hv : ∃ a b c d, v = .Call a b c d := by
    cases e with
    | call fi es =>
      unfold mtE at m1
      split at m1
      · exact ⟨_, _, _, _, rfl⟩
      · cases m1
    | _ => cases hc
  obtain ⟨_, _, _, _, rfl⟩ := hv
  refine PyProof.Rows.Assign_Tuple ((al.1 e).1 f _ ok m1 hid ρ l h s _ E t (p.thn fun a h1 p1 a' ρ1 s1 pre1 t1 vr1 => ?_)) rfl rfl
  cases a with
  | ref i =>
    simp only at p1
    split at p1
    case h_2 => exact p1.elim
    rename_i x0 y0 ei
    obtain ⟨ad, had, rfl⟩ := vr1
    obtain ⟨o, g1, r1⟩ := t1.obj i _ ad ei had
    obtain ⟨ws, l1, hTT, vw⟩ := isTup_of g1 r1
    clear hTT
    cases vw with
    | cons va vw =>
      cases vw with
      | cons vb vw =>
        cases vw
        rename_i w1 w2
        refine wpAny_assign_Tuple ok.hand l1 rfl rfl fun h5 hx5 => ?_
        have t5 := t1.grow (s' := { s1 with heap := h5 }) (by rw [t1.sh]) fun b o e => hx5 b o (Nat.ne_of_lt (Heap.lt_size e)) e
        show wpAny _ f.A (do holding [w2] (assign (.Name y py) f.env w1); do holding [] (assign (.Name z pz) f.env w2); pure ()) _ _ _
        refine wpAny_bind (wpAny_holding (wpAny_assign_Name (t5.store ok.toFmOk hk1 va fun s6 t6 => ?_)))
        refine wpAny_bind (wpAny_holding (wpAny_assign_Name (t6.store ok.toFmOk hk2 vb fun s7 t7 => wpAny_pure ?_)))
        exact p1 _ _ pre1 t7
  | _ => exact p1.elim

/-- raises and their handlers, at one depth -/
structure ExcOk (Γ : Cx) (Rz : Rise) (cl : CallO) (W n : Nat) : Prop where
  raise : ∀ c m, SimS Γ Rz cl W n (.raise c m)
  tr : ∀ b hs, SimB Γ Rz cl W n b → SimHs Γ Rz cl W n hs → SimS Γ Rz cl W n (.tr b hs)

mutual
theorem simB_all (cx : CxOk Γ) (cf : CxFn Γ) (rz : RzOk Γ Rz) (al : AllE Γ Rz cl n) (ex : ExcOk Γ Rz cl W n) : ∀ b : CS, SimB Γ Rz cl W n b ∧ SimS Γ Rz cl W n b
  | .skip => ⟨simB_skip, simS_skip⟩
  | .seq a b => ⟨simB_seq (simB_all cx cf rz al ex a).2 (simB_all cx cf rz al ex b).1, fun f st ok hm => by unfold mtS at hm; cases hm⟩
  | .asg k e => ⟨fun f ss ok hm => (by unfold mtB at hm; cases hm), simS_asg cx cf al⟩
  | .asg2 k₁ k₂ e => ⟨fun f ss ok hm => (by unfold mtB at hm; cases hm), simS_asg2 al⟩
  | .setAttr a k e => ⟨fun f ss ok hm => (by unfold mtB at hm; cases hm), simS_setAttr cx al⟩
  | .setItem a i e => ⟨fun f ss ok hm => (by unfold mtB at hm; cases hm), simS_setItem cx al⟩
  | .ex e => ⟨fun f ss ok hm => (by unfold mtB at hm; cases hm), simS_ex al⟩
  | .ite t a b => ⟨fun f ss ok hm => (by unfold mtB at hm; cases hm), simS_ite al (simB_all cx cf rz al ex a).1 (simB_all cx cf rz al ex b).1⟩
  | .whil t b => ⟨fun f ss ok hm => (by unfold mtB at hm; cases hm), simS_while rz al (simB_all cx cf rz al ex b).1⟩
  | .for1 k ik es b => ⟨fun f ss ok hm => (by unfold mtB at hm; cases hm), simS_for1 cx cf rz al (simB_all cx cf rz al ex b).1⟩
  | .for2 k₁ k₂ e b => ⟨fun f ss ok hm => (by unfold mtB at hm; cases hm), simS_for2 cx cf rz al (simB_all cx cf rz al ex b).1⟩
  | .ret e => ⟨fun f ss ok hm => (by unfold mtB at hm; cases hm), simS_ret al⟩
  | .raise c m => ⟨fun f ss ok hm => (by unfold mtB at hm; cases hm), ex.raise c m⟩
  | .tr b hs => ⟨fun f ss ok hm => (by unfold mtB at hm; cases hm), ex.tr b hs (simB_all cx cf rz al ex b).1 (simH_all cx cf rz al ex hs)⟩
  | .dead => ⟨fun f ss ok hm => (by unfold mtB at hm; cases hm), simS_dead⟩
theorem simH_all (cx : CxOk Γ) (cf : CxFn Γ) (rz : RzOk Γ Rz) (al : AllE Γ Rz cl n) (ex : ExcOk Γ Rz cl W n) : ∀ hs : CHs, SimHs Γ Rz cl W n hs
  | .nil => trivial
  | .cons c a b hs => ⟨(simB_all cx cf rz al ex b).1, simH_all cx cf rz al ex hs⟩
end

theorem sim_zero : SimC Γ Rz (callN Γ.G W 0) 0 := by
  intro fi a hfa f A' ok hh hfr hroom hunits args vals hid ρ l h s Q E t va p
  exact p.elim

/-- every call of the text's own, to a depth -/
theorem sim_calls (cx : CxOk Γ) (cf : CxFn Γ) (ix : IsiX Γ) (tf : TxFn Γ) (rz : RzOk Γ Rz) (rc : RzCall Γ Rz) (ex : ∀ cl n, AllE Γ Rz cl n → ExcOk Γ Rz cl W n) : ∀ n, SimC Γ Rz (callN Γ.G W n) n
  | 0 => sim_zero
  | n + 1 => by
    have ih := sim_calls cx cf ix tf rz rc ex n
    have al : AllE Γ Rz (callN Γ.G W n) n := ⟨simE cx cf ix ih, simEs cx cf ix ih⟩
    exact sim_call cx tf rc fun b => (simB_all cx cf rz al (ex _ n al) b).1

/-- no raises at all -/
noncomputable def NoRise : Rise := fun _ _ _ _ _ _ _ _ => False
theorem noRise_ok : RzOk Γ NoRise := ⟨fun _ _ _ _ _ _ _ _ _ _ h => h.elim, fun _ _ _ _ _ _ _ _ _ h => h⟩
theorem noRise_call : RzCall Γ NoRise := ⟨fun _ _ _ _ _ _ _ _ _ _ _ _ _ _ _ _ _ _ _ _ _ _ _ _ h => h.elim⟩
theorem noRise_exc (hx : Γ.tx.exc = false) {cl : CallO} : ExcOk Γ NoRise cl W n := by
  refine ⟨fun c m f st ok hm => ?_, fun b hs _ _ f st ok hm => ?_⟩
  · unfold mtS at hm
    split at hm
    · rw [hx] at hm; cases hm
    · cases hm
  · unfold mtS at hm
    split at hm
    · rw [hx] at hm; cases hm
    · cases hm
end
end Sk


namespace Sk
open PySem PySem.Calls PySem.W PyProof.Rows PySem.Spec

/-! ## the data of a text -/
structure FnD where
  name : Option Str
  addr : Addr
  slots : List Str
  np : Nat
  code : CS
structure TxD where
  fns : List (Nat × FnD)
  cls : List (Str × Addr)
  attrs : List Str
  mths : List Str
  methT : List (Nat × Nat)
  init : Option Nat
  sub : Nat → Nat → Bool
  exc : Bool

noncomputable def TxD.tx (D : TxD) : Tx := ⟨fun i => (D.fns.lookup i).bind (·.name), fun i => (D.fns.lookup i).map (·.addr), fun c => (D.cls[c]?).map (·.1), fun c => (D.cls[c]?).map (·.2), fun n => D.attrs[n]?, fun m => D.mths[m]?, D.exc⟩
noncomputable def TxD.gl (D : TxD) : Gl := ⟨fun i => (D.fns.lookup i).map fun d => ⟨d.np, d.slots.length, d.code⟩, fun c m => if c = 0 then D.methT.lookup m else none, fun c => if c = 0 then D.init else none, D.sub⟩

noncomputable def isRefTo (r : Option (Option Value)) (a : Addr) : Bool := match r with
  | some (some (.ref b)) => b == a
  | _ => false
noncomputable def isBlt (r : Option (Option Value)) (x : String) : Bool := match r with
  | some (some (.builtin b)) => b == x
  | _ => false
noncomputable def isNo (r : Option (Option Value)) : Bool := match r with
  | some none => true
  | _ => false
noncomputable def noList (K : Frag) : Bool := K.all fun p => match p.2.cls with | .type t => t != "list" | _ => true

noncomputable def TxD.okFns (D : TxD) (K : Frag) : Bool := D.fns.all fun q => match q.2.name with | none => true | some x => isRefTo (nsIn K mainGlobals x) q.2.addr && keepIn K (.ref q.2.addr)
noncomputable def TxD.okCode (D : TxD) (K : Frag) : Bool := D.fns.all fun q => fnCheck D.tx K q.2.addr q.2.slots ⟨q.2.np, q.2.slots.length, q.2.code⟩
noncomputable def TxD.okCls (D : TxD) (K : Frag) : Bool := D.cls.all fun p => isRefTo (nsIn K mainGlobals p.1) p.2
noncomputable def okBlt (K : Frag) : Bool := bltNames.all fun x => isNo (nsIn K mainGlobals x)
noncomputable def TxD.okMth (D : TxD) (K : Frag) : Bool := match D.cls with
  | [] => D.methT.isEmpty && D.init.isNone && D.attrs.isEmpty
  | (_, C) :: _ => (D.methT.all fun p => match D.mths[p.1]?, D.fns.lookup p.2 with
      | some x, some d => isRefTo (findIn K (.ref C) x) d.addr && isFn K (.ref d.addr) && keepIn K (.ref d.addr) && decide (x ∉ D.attrs)
      | _, _ => false) &&
    (match D.init with | none => true | some fi => (match D.fns.lookup fi with | some d => makesIn K C && isRefTo (findIn K (.ref C) "__init__") d.addr && isFn K (.ref d.addr) && keepIn K (.ref C) | none => false)) &&
    (hasDictIn K C && isBlt (findIn K (.ref C) "__getattribute__") "object.__getattribute__" && isNo (findIn K (.ref C) "__getattr__") && isBlt (findIn K (.ref C) "__setattr__") "object.__setattr__" && plainOver K C &&
      (D.attrs.all fun x => isNo (findIn K (.ref C) x) && (match takerIn K C x with | some none => true | _ => false)) && decide D.attrs.Nodup)
noncomputable def TxD.ok (D : TxD) (K : Frag) : Bool := D.okFns K && D.okCode K && D.okCls K && okBlt K && D.okMth K && noList K

theorem isRefTo_eq {r : Option (Option Value)} {a : Addr} (h : isRefTo r a = true) : r = some (some (.ref a)) := by
  unfold isRefTo at h
  split at h
  · rw [beq_iff_eq.mp h]
  · cases h
theorem isBlt_eq {r : Option (Option Value)} {x : String} (h : isBlt r x = true) : r = some (some (.builtin x)) := by
  unfold isBlt at h
  split at h
  · rw [beq_iff_eq.mp h]
  · cases h
theorem isNo_eq {r : Option (Option Value)} (h : isNo r = true) : r = some none := by
  unfold isNo at h
  split at h
  · rfl
  · cases h

theorem mem_lookupN {β : Type} {m : Nat} {d : β} : ∀ {L : List (Nat × β)}, L.lookup m = some d → (m, d) ∈ L
  | [], h => by cases h
  | p :: r, h => by
    rw [List.lookup_cons] at h
    by_cases q : (m == p.1) = true
    · rw [q] at h; cases h; rw [eq_of_beq q]; exact .head _
    · rw [Bool.eq_false_iff.mpr q] at h; exact .tail _ (mem_lookupN h)
/-- the ground of a law's call -/
structure LawAt (D : TxD) (prog : Program) (w : World) (s₁ : Shared) (K : Frag) (mg mb : Str → Option Value) (w2 : Addr) (vs : List Value) (ns : List Int) : Prop where
  KX : K.In s₁.heap
  g : s₁.heap.Ns mainGlobals mg
  b : s₁.heap.Ns builtinsNs mb
  nolimit : s₁.heap.NoLimit
  bts : ∀ x : Str, x ≠ ("__name__" : Str) → mb x = bootBuiltins x
  sysm : ∃ mm, s₁.heap.Ns sysModules mm
  lst : s₁.heap.IsList w2 vs.toArray
  isI : IntsAre vs ns
  few : ns.length ≤ 200000
  ok : D.ok K = true

noncomputable def lawCx (D : TxD) (prog : Program) (w : World) (s₁ : Shared) (K : Frag) (mg mb : Str → Option Value) (w2 : Addr) : Cx :=
  ⟨prog, w, hideAll s₁.heap [w2], s₁, K, D.tx, D.gl, mg, mb, s₁.heap.get? w2⟩

section
variable {D : TxD} {prog : Program} {w : World} {s₁ : Shared} {K : Frag} {mg mb : Str → Option Value} {w2 : Addr} {vs : List Value} {ns : List Int}

theorem LawAt.nsH (x : LawAt D prog w s₁ K mg mb w2 vs ns) {a : Addr} {m : Str → Option Value} (h : s₁.heap.Ns a m) : (hideAll s₁.heap [w2]).Ns a m := by
  obtain ⟨o, es, ep, e1, e2, e3⟩ := h
  refine ⟨o, es, ep, hideAll_get _ e1 fun hm => ?_, e2, e3⟩
  rw [List.mem_singleton.mp hm] at e1
  obtain ⟨o', f1, f2, n, f3⟩ := x.lst
  rw [e1] at f1; cases f1
  rw [e2] at f3; cases f3
theorem LawAt.oks (x : LawAt D prog w s₁ K mg mb w2 vs ns) : D.okFns K = true ∧ D.okCode K = true ∧ D.okCls K = true ∧ okBlt K = true ∧ D.okMth K = true ∧ noList K = true := by
  have := x.ok
  unfold TxD.ok at this
  simp only [Bool.and_eq_true] at this
  obtain ⟨⟨⟨⟨⟨a, b⟩, c⟩, d⟩, e⟩, f⟩ := this
  exact ⟨a, b, c, d, e, f⟩
theorem LawAt.kin (x : LawAt D prog w s₁ K mg mb w2 vs ns) : K.In (hideAll s₁.heap [w2]) := by
  intro a o e
  refine hideAll_get _ (x.KX a o e) fun hm => ?_
  obtain ⟨o', f1, f2, n, f3⟩ := x.lst
  have := x.KX a o e
  rw [List.mem_singleton.mp hm, f1] at this
  cases this
  have hn := x.oks.2.2.2.2.2
  unfold noList at hn
  have := List.all_eq_true.mp hn _ (frag_mem e)
  simp only [f2] at this
  exact absurd this (by decide)
where
  frag_mem {K : Frag} {a : Addr} {o : Obj} (h : K.lookup a = some o) : (a, o) ∈ K := by
    induction K with
    | nil => cases h
    | cons p r ih =>
      rw [List.lookup_cons] at h
      by_cases q : (a == p.1) = true
      · rw [q] at h; cases h; rw [eq_of_beq q]; exact .head _
      · rw [Bool.eq_false_iff.mpr q] at h; exact .tail _ (ih h)

theorem LawAt.cls0 (x : LawAt D prog w s₁ K mg mb w2 vs ns) {C : Addr} (h : D.tx.clsAddr 0 = some C) : ∃ nm r, D.cls = (nm, C) :: r := by
  unfold TxD.tx at h
  cases q : D.cls with
  | nil => rw [q] at h; cases h
  | cons p r => rw [q] at h; cases h; exact ⟨p.1, r, rfl⟩

theorem LawAt.cxOk (x : LawAt D prog w s₁ K mg mb w2 vs ns) : CxOk (lawCx D prog w s₁ K mg mb w2) := by
  have hm := x.oks.2.2.2.2.1
  refine ⟨x.kin, x.nsH x.g, x.nsH x.b, ?_, x.bts, fun i j y hi hj => ?_, fun C hC => ?_⟩
  · obtain ⟨mc, h1, h2⟩ := x.nolimit
    exact ⟨mc, x.nsH h1, h2⟩
  · unfold TxD.okMth at hm
    split at hm
    · rename_i hc
      simp only [Bool.and_eq_true, List.isEmpty_iff] at hm
      have hi : D.attrs[i]? = some y := hi
      rw [hm.2] at hi; simp at hi
    · simp only [Bool.and_eq_true, decide_eq_true_eq] at hm
      have nd := hm.2.2
      obtain ⟨a1, b1⟩ := List.getElem?_eq_some_iff.mp (show D.attrs[i]? = some y from hi)
      obtain ⟨a2, b2⟩ := List.getElem?_eq_some_iff.mp (show D.attrs[j]? = some y from hj)
      have pw := List.pairwise_iff_getElem.mp nd
      rcases Nat.lt_trichotomy i j with q | q | q
      · exact absurd (b1.trans b2.symm) (pw i j a1 a2 q)
      · exact q
      · exact absurd (b2.trans b1.symm) (pw j i a2 a1 q)
  · obtain ⟨nm, r, hc⟩ := x.cls0 hC
    unfold TxD.okMth at hm
    rw [hc] at hm
    simp only [Bool.and_eq_true, List.all_eq_true] at hm
    obtain ⟨_, ⟨⟨⟨⟨⟨⟨h1, h2⟩, h3⟩, h4⟩, h5⟩, h6⟩, _⟩⟩ := hm
    refine ⟨h1, isBlt_eq h2, isNo_eq h3, isBlt_eq h4, h5, fun n y hy => ?_⟩
    have := h6 y (List.mem_of_getElem? (show D.attrs[n]? = some y from hy))
    refine ⟨isNo_eq this.1, ?_⟩
    have h7 := this.2
    split at h7
    · rename_i q; exact q
    · cases h7

theorem LawAt.cxFn (x : LawAt D prog w s₁ K mg mb w2 vs ns) : CxFn (lawCx D prog w s₁ K mg mb w2) := by
  obtain ⟨o1, o2, o3, o4, o5, o6⟩ := x.oks
  have G := x.nsH x.g
  have KI := x.kin
  refine ⟨fun i y hy => ?_, fun c y hy => ?_, fun y hy => ?_, fun c m fi hm => ?_, fun c fi hi => ?_, ?_⟩
  · have hy : (D.fns.lookup i).bind (·.name) = some y := hy
    obtain ⟨d, e1, e2⟩ := Option.bind_eq_some_iff.mp hy
    have := List.all_eq_true.mp o1 (i, d) (mem_lookupN e1)
    simp only [e2, Bool.and_eq_true] at this
    exact ⟨d.addr, by show (D.fns.lookup i).map _ = _; rw [e1]; rfl, mg_of KI G (isRefTo_eq this.1), this.2⟩
  · have hy : (D.cls[c]?).map (·.1) = some y := hy
    obtain ⟨d, e1, e2⟩ := Option.map_eq_some_iff.mp hy
    have := List.all_eq_true.mp o3 d (List.mem_of_getElem? e1)
    rw [e2] at this
    exact ⟨d.2, by show (D.cls[c]?).map _ = _; rw [e1]; rfl, mg_of KI G (isRefTo_eq this)⟩
  · exact mg_none_of KI G (isNo_eq (List.all_eq_true.mp o4 y hy))
  · have hm : (if c = 0 then D.methT.lookup m else none) = some fi := hm
    split at hm
    · rename_i hc
      have hmem : (m, fi) ∈ D.methT := by
        revert hm
        generalize D.methT = L
        intro hm
        induction L with
        | nil => cases hm
        | cons p r ih =>
          rw [List.lookup_cons] at hm
          by_cases q : (m == p.1) = true
          · rw [q] at hm; cases hm; rw [eq_of_beq q]; exact .head _
          · rw [Bool.eq_false_iff.mpr q] at hm; exact .tail _ (ih hm)
      unfold TxD.okMth at o5
      cases hcl : D.cls with
      | nil =>
        rw [hcl] at o5
        simp only [Bool.and_eq_true, List.isEmpty_iff] at o5
        rw [o5.1.1] at hmem; cases hmem
      | cons p r =>
        rw [hcl] at o5
        simp only [Bool.and_eq_true, List.all_eq_true] at o5
        have := o5.1.1 _ hmem
        cases q1 : D.mths[m]? with
        | none => simp [q1] at this
        | some y =>
          cases q2 : D.fns.lookup fi with
          | none => simp [q1, q2] at this
          | some d =>
            simp only [q1, q2, Bool.and_eq_true, decide_eq_true_eq] at this
            obtain ⟨⟨⟨h1, h2⟩, h3⟩, h4⟩ := this
            refine ⟨hc, p.2, y, d.addr, ?_, q1, by show (D.fns.lookup fi).map _ = _; rw [q2]; rfl, isRefTo_eq h1, h2, h3, fun n hn => h4 (List.mem_of_getElem? hn)⟩
            show (D.cls[0]?).map _ = _
            rw [hcl]; rfl
    · cases hm
  · have hi : (if c = 0 then D.init else none) = some fi := hi
    split at hi
    · rename_i hc
      unfold TxD.okMth at o5
      cases hcl : D.cls with
      | nil =>
        rw [hcl] at o5
        simp only [Bool.and_eq_true, Option.isNone_iff_eq_none] at o5
        rw [o5.1.2] at hi; cases hi
      | cons p r =>
        rw [hcl] at o5
        simp only [Bool.and_eq_true, hi] at o5
        have := o5.1.2
        cases q2 : D.fns.lookup fi with
        | none => simp [q2] at this
        | some d =>
          simp only [q2, Bool.and_eq_true] at this
          obtain ⟨⟨⟨h1, h2⟩, h3⟩, h4⟩ := this
          refine ⟨hc, p.2, d.addr, ?_, by show (D.fns.lookup fi).map _ = _; rw [q2]; rfl, h1, isRefTo_eq h2, h3, h4⟩
          show (D.cls[0]?).map _ = _
          rw [hcl]; rfl
    · cases hi
  · obtain ⟨mm, hs⟩ := x.sysm
    obtain ⟨o, _, _, e, _⟩ := x.nsH hs
    exact ⟨o, e⟩

theorem LawAt.txFn (x : LawAt D prog w s₁ K mg mb w2 vs ns) : TxFn (lawCx D prog w s₁ K mg mb w2) := by
  refine ⟨fun fi a ha fn hf => ?_⟩
  have ha : (D.fns.lookup fi).map (·.addr) = some a := ha
  have hf : ((D.fns.lookup fi).map fun d => (⟨d.np, d.slots.length, d.code⟩ : Fn)) = some fn := hf
  obtain ⟨d, e1, e2⟩ := Option.map_eq_some_iff.mp ha
  rw [e1] at hf
  cases hf
  cases e2
  have := List.all_eq_true.mp x.oks.2.1 (fi, d) (mem_lookupN e1)
  obtain ⟨fd, body, ff⟩ := fnCheck_fact (Γ := lawCx D prog w s₁ K mg mb w2) this
  exact ⟨d.slots, fd, body, ff⟩

/-- what is checked of the law's own definition -/
noncomputable def lawCheck (tx : Tx) (params : Arguments) (scope : Scope) (body : List Stmt) (slots : List Str) (code : CS) : Bool :=
  scope.isCoroutine == false && scope.isGenerator == false && scope.kind == .function && plainPar params && params.args.map (·.arg) == slots.take 1 && decide (1 ≤ slots.length) && decide slots.Nodup &&
    (slots.all fun x => scope.names.lookup x == some .local || scope.names.lookup x == some .cell) && decide ((cellsFrom 0 scope.names []).map (·.1)).Nodup && mtB tx ⟨scope.names, slots.map some⟩ code body

theorem sim_law (x : LawAt D prog w s₁ K mg mb w2 vs ns) {Rz : Rise} {W n : Nat} {A : Around} {fa : Addr} {o : Obj} {fd : FuncData} {body : List Stmt} {slots : List Str} {code : CS}
    (hb : ∀ b, SimB (lawCx D prog w s₁ K mg mb w2) Rz (callN D.gl W n) W n b) (ho : s₁.heap.get? fa = some o) (hd : o.data = .func fd) (hcd : s₁.heap.CodeRec fd.code fd.qualname) (bd : fd.body = .stmts body) (clo : fd.closure = []) (glob : fd.globals = mainGlobals)
    (blt : fd.builtins = builtinsNs) (dfl : fd.defaults = .none) (ck : lawCheck D.tx fd.params fd.scope body slots code = true) (hh : A.handled = none) (hroom : A.depth + 2 * n + 3 < recursionLimit) (hunits : A.units + 16 * n + 20 < cLine)
    (p : Post ((⟨1, slots.length, code⟩ : Fn).run D.gl (callN D.gl W n) W [.ref 0] [.const (ns.map .int)]) (fun v h' => v = .bool true ∧ ∃ us, h'[0]? = some (.const us)) (fun _ _ => False)) :
    codeAny (model prog w) A (.call (.ref fa) ⟨[.ref w2], []⟩) (fun r s' => r = .ok (.ret (.bool true)) ∧ (∀ b o, s₁.heap.get? b = some o → s'.heap.get? b = some o) ∧ s'.os = s₁.os ∧ s'.gens = s₁.gens) s₁ := by
  unfold lawCheck at ck
  simp only [Bool.and_eq_true, beq_iff_eq, decide_eq_true_eq, List.all_eq_true, Bool.or_eq_true] at ck
  obtain ⟨⟨⟨⟨⟨⟨⟨⟨⟨co, gen⟩, kind⟩, par⟩, names⟩, le⟩, nd⟩, loc⟩, cnd⟩, mt⟩ := ck
  have hnl : (fd.params.args.map (·.arg)).length = [Value.ref w2].length := by rw [names, List.length_take]; simp; omega
  have hnd : (fd.params.args.map (·.arg)).Nodup := by rw [names]; exact (List.take_sublist _ _).nodup nd
  refine codeAny_call_function (by omega) ho hd co gen bd hcd (BindsTo.of_eq (s := s₁) (bind_plain par dfl hnl hnd) _ _ _ _ ?_)
  rw [clo]
  refine wpAny_newFunctionEnv_cells kind (fun y hy => ?_) fun env' he s' c => ?_
  · have hm : y.1 ∈ slots := by
      have : y.1 ∈ fd.params.args.map (·.arg) := (List.of_mem_zip (show (y.1, y.2) ∈ _ from hy)).1
      rw [names] at this
      exact List.mem_of_mem_take this
    rcases loc _ hm with q | q
    · exact .inl q
    · exact .inr ⟨q, cellsFrom_some _ _ _ (.inl q)⟩
  · obtain ⟨Γ, hΓ⟩ : ∃ Γ, Γ = lawCx D prog w s₁ K mg mb w2 := ⟨_, rfl⟩
    obtain ⟨f, hf⟩ : ∃ f : Fm, f = ⟨env', A.deeper env', slots.map some, cellsFrom (s₁.heap.objs.size + 1) fd.scope.names [], [], []⟩ := ⟨_, rfl⟩
    have cn : ((cellsFrom (s₁.heap.objs.size + 1) fd.scope.names []).map (·.1)).Nodup := cellsFrom_names fd.scope.names 0 (s₁.heap.objs.size + 1) [] [] rfl ▸ cnd
    have cel : ∀ y, fd.scope.names.lookup y = some .cell → ∃ a, (cellsFrom (s₁.heap.objs.size + 1) fd.scope.names []).lookup y = some a := fun y e => Option.isSome_iff_exists.mp (cellsFrom_some _ _ _ (.inl e))
    have slot : ∀ (k : Nat) (y : Str), (slots.map some)[k]? = some (some y) → slots[k]? = some y := fun k y e => by
      rw [List.getElem?_map] at e
      obtain ⟨z, e1, e2⟩ := Option.map_eq_some_iff.mp e
      rw [e1, Option.some.inj e2]
    subst he
    have okF : FmOk f := by
      rw [hf]
      refine ⟨kind, glob, blt, fun i j y hi hj => ?_, fun k y hk => ?_, fun y hy => ?_, cn, hh⟩
      · obtain ⟨a1, b1⟩ := List.getElem?_eq_some_iff.mp (slot i y hi)
        obtain ⟨a2, b2⟩ := List.getElem?_eq_some_iff.mp (slot j y hj)
        have pw := List.pairwise_iff_getElem.mp nd
        rcases Nat.lt_trichotomy i j with q | q | q
        · exact absurd (b1.trans b2.symm) (pw i j a1 a2 q)
        · exact q
        · exact absurd (b2.trans b1.symm) (pw j i a2 a1 q)
      · rcases loc y (List.mem_of_getElem? (slot k y hk)) with q | q
        · exact .inl q
        · obtain ⟨a, e⟩ := cel y q
          exact .inr ⟨q, a, e, e⟩
      · obtain ⟨a, e⟩ := cel y hy
        exact ⟨a, e, e⟩
    have okK : FmK n f := ⟨okF, by rw [hf]; show A.depth + 1 + 2 * n + 2 < _; omega, by rw [hf]; show A.units + 3 + 16 * n + 16 < _; omega⟩
    obtain ⟨h₁, tk, rfl, _⟩ := c.done
    have k1 := c.toInCall.keep
    obtain ⟨ol, l1, l2, ln, l3⟩ := x.lst
    have w2lt : w2 < s₁.heap.objs.size := Heap.lt_size l1
    have vints : VRs [w2] (ns.map .int) vs := VRs.of_ints x.isI
    have ent : At Γ f [] [w2] ([AV.ref 0].map some ++ List.replicate (slots.length - 1) none) [.const (ns.map .int)] { s₁ with heap := h₁, toks := tk } := by
      rw [hΓ, hf]
      refine ⟨rfl, ⟨_, ⟨c.toInCall.ns, fun b o e => k1 b o (of_hideAll _ e), by show (hideAll s₁.heap [w2]).objs.size ≤ s₁.heap.objs.size; rw [hideAll_size]; exact Nat.le_refl _⟩, ?_, ?_⟩, fun q hq => ⟨_, c.cell q.1 q.2 (lookup_of_mem cn hq)⟩, rfl, ?_, ?_, ?_, fun q hq => (by cases hq), fun q hq => (by cases hq)⟩
      · show ([AV.ref 0].map some ++ List.replicate (slots.length - 1) none).length = (slots.map some).length
        simp; omega
      · intro k y v hky hv
        have hk0 : k = 0 := by
          rcases Nat.lt_or_ge k 1 with q | q
          · omega
          · rw [List.getElem?_append_right (by simpa using q)] at hv
            rw [List.getElem?_replicate] at hv
            split at hv <;> simp at hv
        subst hk0
        have hv : v = .ref 0 := by simpa using hv.symm
        subst hv
        have hsl : slots[0]? = some y := slot 0 y hky
        have hpk : (fd.params.args.map (·.arg))[0]? = some y := by rw [names, List.getElem?_take_of_lt (by omega)]; exact hsl
        have hz : (y, Value.ref w2) ∈ (fd.params.args.map (·.arg)).zip [Value.ref w2] := by
          refine List.mem_of_getElem? (i := 0) ?_
          rw [List.getElem?_zip_eq_some]
          exact ⟨hpk, rfl⟩
        have hzn : (((fd.params.args.map (·.arg)).zip [Value.ref w2]).map (·.1)).Nodup := by rw [zip_map_fst hnl]; exact hnd
        refine ⟨.ref w2, ⟨w2, rfl, rfl⟩, ?_⟩
        rcases loc y (List.mem_of_getElem? hsl) with q | q
        · exact .inl ⟨q, bindL_get q hzn hz⟩
        · obtain ⟨a, ec⟩ := cel y q
          have hnl' : fd.scope.names.lookup y ≠ some .local := by rw [q]; decide
          refine .inr ⟨hnl', a, ec, ?_⟩
          have := c.cell y a ec
          rw [bindC_get hnl' hzn hz] at this
          exact this
      · intro i ao a h1 h2
        cases i with
        | zero =>
          simp at h1 h2
          subst h1; subst h2
          exact ⟨ol, k1 _ _ l1, vs, ln, l2, l3, vints, by simpa using x.few, l1⟩
        | succ i => simp at h1
      · unfold Fm.adr
        show ([w2] ++ ((cellsFrom (s₁.heap.objs.size + 1) fd.scope.names []).map (fun q : Str × Addr => q.2) ++ ([] ++ ([] ++ [s₁.heap.objs.size])))).Nodup
        have above : ∀ a ∈ (cellsFrom (s₁.heap.objs.size + 1) fd.scope.names []).map (·.2), s₁.heap.objs.size < a := fun a ha => by
          obtain ⟨q, hq, rfl⟩ := List.mem_map.mp ha
          exact c.above q.1 q.2 hq
        simp only [List.nil_append, List.singleton_append, List.nodup_cons, List.nodup_append]
        refine ⟨fun hm => ?_, List.pairwise_map.mpr c.apart, by simp, fun a ha b hb e => ?_⟩
        · rcases List.mem_append.mp hm with hm | hm
          · exact Nat.lt_irrefl _ (Nat.lt_trans w2lt (above _ hm))
          · rw [List.mem_singleton.mp hm] at w2lt; exact Nat.lt_irrefl _ w2lt
        · rw [List.mem_singleton.mp hb] at e
          have := above a ha
          rw [e] at this; exact Nat.lt_irrefl _ this
      · intro a ha
        have big : ∀ a, s₁.heap.objs.size ≤ a → (hideAll s₁.heap [w2]).get? a = none := fun a ha => by
          cases q : (hideAll s₁.heap [w2]).get? a with
          | none => rfl
          | some o => exact absurd (Nat.lt_of_lt_of_le (Heap.lt_size (of_hideAll _ q)) ha) (Nat.lt_irrefl _)
        unfold Fm.adr at ha
        have ha : a ∈ [w2] ++ ((cellsFrom (s₁.heap.objs.size + 1) fd.scope.names []).map (fun q : Str × Addr => q.2) ++ ([] ++ ([] ++ [s₁.heap.objs.size]))) := ha
        simp only [List.nil_append, List.mem_append, List.mem_singleton] at ha
        rcases ha with rfl | ha | rfl
        · exact hideAll_none _ (.head _)
        · obtain ⟨q, hq, rfl⟩ := List.mem_map.mp ha
          exact big _ (Nat.le_of_lt (c.above q.1 q.2 hq))
        · exact big _ (Nat.le_refl _)
    have fin : ∀ ρ' l' h' s', [w2] <+: ρ' → At Γ f [] ρ' l' h' s' → (∃ us, h'[0]? = some (.const us)) → (∀ b o, s₁.heap.get? b = some o → s'.heap.get? b = some o) ∧ s'.os = s₁.os ∧ s'.gens = s₁.gens := by
      intro ρ' l' h' s' pre t ⟨us, hus⟩
      refine ⟨fun b o e => ?_, by rw [t.sh, hΓ]; rfl, by rw [t.sh, hΓ]; rfl⟩
      by_cases hbw : b = w2
      · subst hbw
        obtain ⟨o', g1, vs', m, _, _, _, _, hsc⟩ := t.obj 0 _ b hus (getElem?_pre pre rfl)
        rw [hΓ] at hsc
        have hsc : s₁.heap.get? b = some o' := hsc
        rw [e] at hsc; cases hsc
        exact g1
      · refine t.keepBase b o ?_
        rw [hΓ]
        exact hideAll_get _ e (by simpa using hbw)
    refine ⟨x.nolimit.keeps k1, codeAny_func ?_⟩
    have hbb := hb code
    rw [← hΓ] at hbb
    have hA : f.A = A.deeper (newEnv fd.scope s₁.heap.objs.size fd.globals (cellsFrom (s₁.heap.objs.size + 1) fd.scope.names []) (fd.qualname ++ ".<locals>.") (some fa) fd.code none fd.builtins) := by rw [hf]
    have hEn : f.env = newEnv fd.scope s₁.heap.objs.size fd.globals (cellsFrom (s₁.heap.objs.size + 1) fd.scope.names []) (fd.qualname ++ ".<locals>.") (some fa) fd.code none fd.builtins := by rw [hf]
    have hmt : mtB Γ.tx f.sc code body = true := by rw [hΓ, hf]; exact mt
    have hpr : Γ.prog = prog ∧ Γ.w = w ∧ Γ.G = D.gl := by rw [hΓ]; exact ⟨rfl, rfl, rfl⟩
    have := hbb f body okK hmt [] [w2] _ _ _ (fun fl s' => (Except.ok (.ret (match fl with | .ret v => v | _ => .none)) : Result) = .ok (.ret (.bool true)) ∧ (∀ b o, s₁.heap.get? b = some o → s'.heap.get? b = some o) ∧ s'.os = s₁.os ∧ s'.gens = s₁.gens)
      (fun e s' => wpAny (model prog w) f.A (leaving f.env e) (fun _ s'' => (Except.error e : Result) = .ok (.ret (.bool true)) ∧ (∀ b o, s₁.heap.get? b = some o → s''.heap.get? b = some o) ∧ s''.os = s₁.os ∧ s''.gens = s₁.gens)
        (fun e' s'' => (Except.error e' : Result) = .ok (.ret (.bool true)) ∧ (∀ b o, s₁.heap.get? b = some o → s''.heap.get? b = some o) ∧ s''.os = s₁.os ∧ s''.gens = s₁.gens) s') ent ?_
    · rw [hpr.1, hpr.2.1, hA, hEn] at this
      exact this
    · rw [hpr.2.2]
      unfold Fn.run at p
      rw [if_pos (show [AV.ref 0].length = 1 from rfl)] at p
      simp only at p
      cases r : exec D.gl (callN D.gl W n) W code ([AV.ref 0].map some ++ List.replicate (slots.length - 1) none) [.const (ns.map .int)] with
      | next l' h' => simp only [r] at p; exact absurd p.1 (by decide)
      | ret v h' =>
        simp only [r] at p
        intro v' l' ρ' s' pre t vr
        obtain ⟨rfl, hus⟩ := p
        have vr : v' = .bool true := vr
        subst vr
        exact ⟨rfl, fin ρ' l' h' s' pre t hus⟩
      | exc c l' h' => simp only [r] at p; exact p.elim
      | err => simp only [r] at p; exact p.elim
end
end Sk


namespace Sk
open PySem PySem.Calls PySem.W PyProof.Rows PySem.Spec

theorem noIsi {Γ : Cx} (h : Γ.tx.exc = false) : IsiX Γ := by
  intro f hid ρ l hp s Q E i c ty tv ad t hi had htv p
  obtain ⟨o, g, C, hx, _⟩ := t.obj i _ ad hi had
  rw [h] at hx; cases hx

section
variable {D : TxD} {prog : Program} {w : World} {s₁ : Shared} {K : Frag} {mg mb : Str → Option Value} {w2 : Addr} {vs : List Value} {ns : List Int}

theorem good_true {c : ClaimW} {cl : Str → Option Addr} {mean : ExcName → Option Value} {args : List WData} {r : Result} {s' : Shared} (hg : s₁.gens = #[]) (hn : ∀ cls, c.raises args cls = false) (hp : c.post args (.bool true) args = true)
    (h : r = .ok (.ret (.bool true)) ∧ (∀ b o, s₁.heap.get? b = some o → s'.heap.get? b = some o) ∧ s'.os = s₁.os ∧ s'.gens = s₁.gens) : GoodW c cl mean args s₁ r s' := by
  obtain ⟨rfl, k, os, gs⟩ := h
  exact ⟨.inl ⟨.bool true, .bool true, [], rfl, hn, .bool true, hp, fun _ => ⟨List.nodup_nil, fun _ h => by cases h⟩⟩, k, os, gs.trans hg⟩

/-- a law that raises nothing -/
theorem law_quiet (W n : Nat) (code : CS) (slots : List Str) (x : LawAt D prog w s₁ K mg mb w2 vs ns) (hx : D.exc = false) {A : Around} {fa : Addr} {o : Obj} {fd : FuncData} {body : List Stmt}
    (ho : s₁.heap.get? fa = some o) (hd : o.data = .func fd) (hcd : s₁.heap.CodeRec fd.code fd.qualname) (bd : fd.body = .stmts body) (clo : fd.closure = []) (glob : fd.globals = mainGlobals)
    (blt : fd.builtins = builtinsNs) (dfl : fd.defaults = .none) (ck : lawCheck D.tx fd.params fd.scope body slots code = true) (hh : A.handled = none) (hroom : A.depth + 2 * n + 3 < recursionLimit) (hunits : A.units + 16 * n + 20 < cLine)
    (p : Post ((⟨1, slots.length, code⟩ : Fn).run D.gl (callN D.gl W n) W [.ref 0] [.const (ns.map .int)]) (fun v h' => v = .bool true ∧ ∃ us, h'[0]? = some (.const us)) (fun _ _ => False)) :
    codeAny (model prog w) A (.call (.ref fa) ⟨[.ref w2], []⟩) (fun r s' => r = .ok (.ret (.bool true)) ∧ (∀ b o, s₁.heap.get? b = some o → s'.heap.get? b = some o) ∧ s'.os = s₁.os ∧ s'.gens = s₁.gens) s₁ := by
  have ix : IsiX (lawCx D prog w s₁ K mg mb w2) := noIsi hx
  have ih := sim_calls (Rz := NoRise) (W := W) x.cxOk x.cxFn ix x.txFn noRise_ok noRise_call (fun cl n _ => noRise_exc hx) n
  have al : AllE (lawCx D prog w s₁ K mg mb w2) NoRise (callN D.gl W n) n := ⟨simE x.cxOk x.cxFn ix ih, simEs x.cxOk x.cxFn ix ih⟩
  exact sim_law x (fun b => (simB_all x.cxOk x.cxFn noRise_ok al (noRise_exc hx) b).1) ho hd hcd bd clo glob blt dfl ck hh hroom hunits p
end
end Sk


namespace Sk

/-! ## plain laws: steps of the mini-language -/
section
variable {G : Gl} {cl : CallO} {W : Nat} {l l1 : LOC} {h h1 h2 : HP}

theorem x_seq {a b : CS} {r : RS} (ha : exec G cl W a l h = .next l1 h1) (hb : exec G cl W b l1 h1 = r) : exec G cl W (.seq a b) l h = r := by
  unfold exec; rw [ha]; exact hb
theorem x_seqR {a b : CS} {v : AV} (ha : exec G cl W a l h = .ret v h1) : exec G cl W (.seq a b) l h = .ret v h1 := by
  unfold exec; rw [ha]; rfl
theorem x_seqX {a b : CS} {c : Nat} (ha : exec G cl W a l h = .exc c l1 h1) : exec G cl W (.seq a b) l h = .exc c l1 h1 := by
  unfold exec; rw [ha]; rfl
theorem x_skip : exec G cl W .skip l h = .next l h := by unfold exec; rfl
theorem x_asg {k : Nat} {e : CE} {v : AV} (he : ev G cl e l h = .ok v h1) : exec G cl W (.asg k e) l h = .next (l.set k (some v)) h1 := by
  unfold exec; rw [he]; rfl
theorem x_ex {e : CE} {v : AV} (he : ev G cl e l h = .ok v h1) : exec G cl W (.ex e) l h = .next l h1 := by
  unfold exec; rw [he]; rfl
theorem x_ret {e : CE} {v : AV} (he : ev G cl e l h = .ok v h1) : exec G cl W (.ret e) l h = .ret v h1 := by
  unfold exec; rw [he]; rfl
theorem x_iteT {t : CE} {a b : CS} {r : RS} (ht : ev G cl t l h = .ok (.bool true) h1) (ha : exec G cl W a l h1 = r) : exec G cl W (.ite t a b) l h = r := by
  unfold exec; rw [ht]; exact ha
theorem x_iteF {t : CE} {a b : CS} {r : RS} (ht : ev G cl t l h = .ok (.bool false) h1) (hb : exec G cl W b l h1 = r) : exec G cl W (.ite t a b) l h = r := by
  unfold exec; rw [ht]; exact hb
/-- a loop, by what stands at each turn -/
theorem forL_inv {g : Grd} {step : AV → Nat → LOC → HP → RS} (I : Nat → LOC → HP → Prop) : ∀ (items : List AV) (k : Nat) (l : LOC) (h : HP), I k l h →
    (∀ (j : Nat) v l h, items[j]? = some v → I (k + j) l h → okG g h = true ∧ ∃ l' h', step v (k + j) l h = .next l' h' ∧ I (k + j + 1) l' h') → (∀ l h, I (k + items.length) l h → okG g h = true) →
    ∃ l' h', forL g step items k l h = .next l' h' ∧ I (k + items.length) l' h'
  | [], k, l, h, h0, _, he => ⟨l, h, by unfold forL; rw [if_pos (he l h h0)], h0⟩
  | v :: r, k, l, h, h0, hs, he => by
    obtain ⟨hg, l', h', e1, h1⟩ := hs 0 v l h rfl h0
    obtain ⟨l'', h'', e2, h2⟩ := forL_inv I r (k + 1) l' h' h1 (fun j w l h hj hI => by
      have := hs (j + 1) w l h (by simpa using hj) (by rw [show k + (j + 1) = k + 1 + j by omega]; exact hI)
      rw [show k + (j + 1) = k + 1 + j by omega] at this
      exact this) (fun l h hI => he l h (by rw [List.length_cons, show k + (r.length + 1) = k + 1 + r.length by omega]; exact hI))
    refine ⟨l'', h'', ?_, by rw [List.length_cons, show k + (r.length + 1) = k + 1 + r.length by omega]; exact h2⟩
    unfold forL
    rw [if_pos hg]
    have e1' : step v k l h = .next l' h' := e1
    rw [e1']
    exact e2
theorem x_for1 {k : Nat} {ik : IK} {es : CEs} {b : CS} {vs items : List AV} {g : Grd} {r : RS} (he : evs G cl es l h = .ok vs h1) (hi : itemsOf ik vs h1 = some (items, g))
    (hf : forL g (fun v _ l' h' => exec G cl W b (l'.set k (some v)) h') items 0 l h1 = r) : exec G cl W (.for1 k ik es b) l h = r := by
  unfold exec; rw [he]
  show (match itemsOf ik vs h1 with | some (items, g) => forL g (fun v _ l' h' => exec G cl W b (l'.set k (some v)) h') items 0 l h1 | Option.none => .err) = r
  rw [hi]; exact hf
theorem c_run {f : Nat} {fn : Fn} {args : List AV} {n : Nat} {v : AV} (hf : G.fns f = some fn) (ha : args.length = fn.np) (he : exec G (callN G W n) W fn.code (args.map some ++ List.replicate (fn.ns - fn.np) Option.none) h = .ret v h1) :
    callN G W (n + 1) f args h = .ok v h1 := by
  show (match G.fns f with | some fn => fn.run G (callN G W n) W args h | Option.none => .err) = _
  rw [hf]
  show fn.run G (callN G W n) W args h = _
  unfold Fn.run
  rw [if_pos ha, he]
theorem c_runN {f : Nat} {fn : Fn} {args : List AV} {n : Nat} (hf : G.fns f = some fn) (ha : args.length = fn.np) (he : exec G (callN G W n) W fn.code (args.map some ++ List.replicate (fn.ns - fn.np) Option.none) h = .next l1 h1) :
    callN G W (n + 1) f args h = .ok .none h1 := by
  show (match G.fns f with | some fn => fn.run G (callN G W n) W args h | Option.none => .err) = _
  rw [hf]
  show fn.run G (callN G W n) W args h = _
  unfold Fn.run
  rw [if_pos ha, he]
end

/-! ### the helpers that every law has -/
noncomputable def k_cell_at : CS :=
  (.seq (.ite (.cmp .lt (.loc 1) (.bf .len (.cons (.loc 0) .nil)))
    (.seq (.ret (.item (.loc 0) (.loc 1)))
    .skip)
    .skip)
  (.seq (.ret (.int 0))
  .skip))
noncomputable def k_whole : CS :=
  (.seq (.ret (.and (.isinst (.loc 0) .int) (.not (.isinst (.loc 0) .bool))))
  .skip)
noncomputable def k_power : CS :=
  (.seq (.asg 2 (.int 1))
  (.seq (.for1 3 .range1 (.cons (.loc 1) .nil)
    (.seq (.asg 2 (.bin .mul (.loc 2) (.loc 0)))
    .skip))
  (.seq (.ret (.loc 2))
  .skip)))

noncomputable def cellOf (ns : List Int) (k : Nat) : Int := (ns[k]?).getD 0

section
variable {G : Gl} {W n : Nat} {h : HP}
theorem r_cell {i : Nat} {ns : List Int} {k : Nat} (hG : G.fns i = some ⟨2, 2, k_cell_at⟩) (h0 : h[0]? = some (.const (ns.map .int))) : callN G W (n + 1) i [.ref 0, .int k] h = .ok (.int (cellOf ns k)) h := by
  refine c_run hG rfl ?_
  unfold k_cell_at
  by_cases hk : k < ns.length
  · refine x_seqR (x_iteT (h1 := h) ?_ (x_seqR (x_ret ?_)))
    · simp [ev, evs, R.bind, bfop, h0, cmpop, cmpI, hk]
    · have hk' : (k : Int) < ns.length := by omega
      simp [ev, R.bind, itemop, h0, place, hk', show ¬ ((k : Int) < 0) by omega, cellOf, hk]
  · refine x_seq (x_iteF (h1 := h) ?_ x_skip) (x_seqR (x_ret ?_))
    · simp [ev, evs, R.bind, bfop, h0, cmpop, cmpI]; omega
    · simp [ev, cellOf, List.getElem?_eq_none (Nat.not_lt.mp hk)]
theorem r_whole {i : Nat} {v : Int} (hG : G.fns i = some ⟨1, 1, k_whole⟩) : callN G W (n + 1) i [.int v] h = .ok (.bool true) h := by
  refine c_run hG rfl ?_
  unfold k_whole
  refine x_seqR (x_ret ?_)
  simp [ev, R.bind, isinstop, truthy]
theorem r_power {w L : Int} (hG : G.fns 0 = some ⟨2, 4, k_power⟩) (hw : w.natAbs < 2 ^ 64) (hL : L.natAbs < 2 ^ 62) : callN G W (n + 1) 0 [.int w, .int L] h = .ok (.int (w ^ L.toNat)) h := by
  refine c_run hG rfl ?_
  unfold k_power
  refine x_seq (x_asg (v := .int 1) (h1 := h) (by simp [ev])) ?_
  have loop := forL_inv (g := Option.none) (step := fun v _ l' h' => exec G (callN G W n) W (.seq (.asg 2 (.bin .mul (.loc 2) (.loc 0))) .skip) (l'.set 3 (some v)) h')
    (fun j l' h' => ∃ t, l' = [some (.int w), some (.int L), some (.int (w ^ j)), t] ∧ h' = h) ((List.range L.toNat).map fun (k : Nat) => AV.int (k : Int)) 0
    [some (.int w), some (.int L), some (.int 1), Option.none] h ⟨Option.none, by simp, rfl⟩ (fun j v l' h' hj ⟨t, hl, hh⟩ => by
      subst hl; subst hh
      refine ⟨rfl, _, _, x_seq (x_asg (v := .int (w ^ (0 + j) * w)) (h1 := h') ?_) x_skip, some v, ?_, rfl⟩
      · simp [ev, R.bind, binop, mulOk, hw]
      · simp [Int.pow_succ]) (fun _ _ _ => rfl)
  obtain ⟨l', h', e, t, hl, hh⟩ := loop
  refine x_seq (x_for1 (vs := [.int L]) (h1 := h) (items := (List.range L.toNat).map fun (k : Nat) => AV.int (k : Int)) (g := Option.none) (by simp [ev, evs, R.bind]) (by simp [itemsOf, hL]) e) ?_
  subst hl; subst hh
  refine x_seqR (x_ret ?_)
  simp [ev]
end
end Sk


namespace Sk
theorem fm (a b : Int) (hb : 0 < b) : 0 ≤ a.fmod b ∧ a.fmod b < b := ⟨Int.fmod_nonneg_of_pos a hb, Int.fmod_lt_of_pos a hb⟩
theorem pow_le9 {w : Int} (h0 : 0 ≤ w) (h2 : w ≤ 9) : ∀ k : Nat, 0 ≤ w ^ k ∧ w ^ k ≤ 9 ^ k
  | 0 => by simp
  | k + 1 => by
    obtain ⟨a, b⟩ := pow_le9 h0 h2 k
    rw [Int.pow_succ, Int.pow_succ]
    exact ⟨Int.mul_nonneg a h0, Int.mul_le_mul b h2 h0 (Int.le_trans a b)⟩
theorem pow_bd {w : Int} {k : Nat} (h1 : 2 ≤ w) (h2 : w ≤ 9) (hk : k ≤ 12) : 1 ≤ w ^ k ∧ w ^ k ≤ 282429536481 := by
  refine ⟨Int.pow_pos (by omega), Int.le_trans (pow_le9 (by omega) h2 k).2 ?_⟩
  have := Nat.pow_le_pow_right (n := 9) (by decide) hk
  have h3 : (9 : Int) ^ k = ((9 ^ k : Nat) : Int) := by push_cast; rfl
  rw [h3]
  have h4 : (9 : Nat) ^ 12 = 282429536481 := by decide
  omega
section
variable {G : Gl} {cl : CallO} {W : Nat} {l : LOC} {h : HP}
theorem compL_map {α : Type} {g : Grd} {cond elt : AV → HP → R AV} {e f : α → AV} {p : α → Bool} (hg : okG g h = true) : ∀ L : List α, (∀ k ∈ L, cond (e k) h = .ok (.bool (p k)) h) → (∀ k ∈ L, p k = true → elt (e k) h = .ok (f k) h) →
    compL g cond elt (L.map e) h = .ok ((L.filter p).map f) h
  | [], _, _ => by simp only [List.map_nil, List.filter_nil]; unfold compL; rw [if_pos hg]
  | a :: r, hc, he => by
    have ih := compL_map hg r (fun k hk => hc k (.tail _ hk)) (fun k hk => he k (.tail _ hk))
    rw [List.map_cons]
    unfold compL
    rw [if_pos hg, hc a (.head _)]
    cases q : p a with
    | true =>
      show ((elt (e a) h).noexc.bind fun x h₂ => (compL g cond elt (r.map e) h₂).bind fun xs h₃ => .ok (x :: xs) h₃) = _
      rw [he a (.head _) q]
      show ((compL g cond elt (r.map e) h).bind fun xs h₃ => .ok (f a :: xs) h₃) = _
      rw [ih, List.filter_cons, if_pos q]
      rfl
    | false =>
      show compL g cond elt (r.map e) h = _
      rw [ih, List.filter_cons, if_neg (by rw [q]; decide)]
theorem e_comp {elt cond : CE} {ik : IK} {es : CEs} {vs items xs : List AV} {g : Grd} {h1 : HP} (he : evs G cl es l h = .ok vs h1) (hi : itemsOf ik vs h1 = some (items, g)) (hs : szOk items.length = true)
    (hc : compL g (fun v h' => ev G cl cond (l ++ [some v]) h') (fun v h' => ev G cl elt (l ++ [some v]) h') items h1 = .ok xs h1) : ev G cl (.comp elt ik es cond) l h = .ok (.ref h1.length) (h1 ++ [.list xs]) := by
  simp only [ev, he, R.bind, hi, if_pos hs, hc]
theorem e_and {a b : CE} {h1 : HP} {r : R AV} (ha : ev G cl a l h = .ok (.bool true) h1) (hb : ev G cl b l h1 = r) : ev G cl (.and a b) l h = r := by
  simp only [ev, ha, R.bind, truthy]; exact hb
theorem e_orT {a b : CE} {h1 : HP} (ha : ev G cl a l h = .ok (.bool true) h1) : ev G cl (.or a b) l h = .ok (.bool true) h1 := by
  simp only [ev, ha, R.bind, truthy]
theorem e_orF {a b : CE} {h1 : HP} {r : R AV} (ha : ev G cl a l h = .ok (.bool false) h1) (hb : ev G cl b l h1 = r) : ev G cl (.or a b) l h = r := by
  simp only [ev, ha, R.bind, truthy]; exact hb
theorem e_notT {a : CE} {h1 : HP} (ha : ev G cl a l h = .ok (.bool true) h1) : ev G cl (.not a) l h = .ok (.bool false) h1 := by
  simp only [ev, ha, R.bind, truthy]; rfl
theorem e_cmp {a b : CE} {o : COp} {h1 h2 : HP} {x y : AV} {r : R AV} (ha : ev G cl a l h = .ok x h1) (hb : ev G cl b l h1 = .ok y h2) (hc : cmpop o x y h2 = r) : ev G cl (.cmp o a b) l h = r := by
  simp only [ev, ha, hb, R.bind]; exact hc
theorem item_at {r k : Nat} {vs : List AV} {v : AV} (hr : h[r]? = some (.list vs)) (hv : vs[k]? = some v) : itemop (.ref r) (.int (k : Int)) h = .ok v h := by
  have hk : (k : Int) < vs.length := by have := (List.getElem?_eq_some_iff.mp hv).1; omega
  simp [itemop, hr, place, show ¬ (k : Int) < 0 by omega, hk, hv]
theorem item_last {r : Nat} {vs : List AV} {v : AV} (hr : h[r]? = some (.list (vs ++ [v]))) : itemop (.ref r) (.int (-1)) h = .ok v h := by
  have : (-1 + ((vs.length : Int) + 1)).toNat = vs.length := by omega
  simp [itemop, hr, place, this, show (0 : Int) ≤ -1 + (vs.length + 1) by omega, show (-1 : Int) + (vs.length + 1) < vs.length + 1 by omega]
theorem eqv_ints {n : Nat} : ∀ L : List Int, allEq (List.zipWith (eqv (n + 1) h) (L.map .int) (L.map .int)) = some true
  | [] => rfl
  | a :: r => by
    have e : eqv (n + 1) h (.int a) (.int a) = some true := by simp [eqv]
    show allEq (eqv (n + 1) h (.int a) (.int a) :: List.zipWith (eqv (n + 1) h) (r.map .int) (r.map .int)) = _
    rw [e]
    show (allEq (List.zipWith (eqv (n + 1) h) (r.map .int) (r.map .int))).map (true && ·) = _
    rw [eqv_ints r]; rfl
theorem cmp_ints {i j : Nat} {L : List Int} (hi : h[i]? = some (.list (L.map .int))) (hj : h[j]? = some (.list (L.map .int))) : cmpop .eq (.ref i) (.ref j) h = .ok (.bool true) h := by
  have e : eqv 6 h (.ref i) (.ref j) = some true := by
    have u : eqv 6 h (.ref i) (.ref j) = (match h[i]?, h[j]? with
      | some (.list xs), some (.list ys) => if xs.length = ys.length then allEq (List.zipWith (eqv 5 h) xs ys) else some false
      | some (.tup xs), some (.tup ys) => if xs.length = ys.length then allEq (List.zipWith (eqv 5 h) xs ys) else Option.none
      | _, _ => Option.none) := rfl
    rw [u, hi, hj]
    show (if _ then _ else _) = _
    rw [if_pos rfl]
    exact eqv_ints L
  simp only [cmpop, e]
theorem e_loc {k : Nat} {v : AV} (hk : l[k]? = some (some v)) : ev G cl (.loc k) l h = .ok v h := by
  simp only [ev, hk]
theorem e_bf1 {f : BF} {e : CE} {v : AV} {h1 : HP} {r : R AV} (he : ev G cl e l h = .ok v h1) (hf : bfop f [v] h1 = r) : ev G cl (.bf f (.cons e .nil)) l h = r := by
  simp only [ev, evs, he, R.bind]; exact hf
theorem bf_all {α : Type} {k : Nat} {L : List α} (hk : h[k]? = some (.list (L.map fun _ => .bool true))) : bfop .all [.ref k] h = .ok (.bool true) h := by
  have bs : ∀ L : List α, boolsOf (L.map fun _ => AV.bool true) = some (L.map fun _ => true) := fun L => by
    induction L with
    | nil => rfl
    | cons a r ih => simp only [List.map_cons, boolsOf, ih]; rfl
  show (match h[k]? with
    | some (.list vs) => (match boolsOf vs with
      | some bs => R.ok (AV.bool (bs.all id)) h
      | Option.none => .err)
    | _ => .err) = _
  rw [hk]
  simp only [bs]
  simp
theorem okG_at {i : Nat} {o : AO} (hi : h[i]? = some o) : okG (some (i, o)) h = true := by unfold okG; exact decide_eq_true hi
theorem divOk_of {b : Int} (h1 : 1 ≤ b) (h2 : b ≤ 282429536481) : divOk b = true := by unfold divOk; exact decide_eq_true ⟨by omega, by omega⟩
theorem x_whil {t : CE} {b : CS} {r : RS} (hw : whileL (fun l' h' => ev G cl t l' h') (fun l' h' => exec G cl W b l' h') W l h = r) : exec G cl W (.whil t b) l h = r := by
  unfold exec; exact hw
end
end Sk


namespace L02
open Sk
/-- power -/
noncomputable def c_power : CS := 
  (.seq (.asg 2 (.int 1))
  (.seq (.for1 3 .range1 (.cons (.loc 1) .nil) 
    (.seq (.asg 2 (.bin .mul (.loc 2) (.loc 0)))
    .skip))
  (.seq (.ret (.loc 2))
  .skip)))
/-- thinned -/
noncomputable def c_thinned : CS := 
  (.seq (.asg 3 (.call 0 (.cons (.loc 0) (.cons (.loc 1) .nil))))
  (.seq (.asg 4 (.list .nil))
  (.seq (.for1 5 .val (.cons (.loc 2) .nil) 
    (.seq (.ite (.or (.cmp .eq (.loc 4) (.list .nil)) (.cmp .ne (.bin .fdiv (.item (.loc 4) (.neg (.int 1))) (.loc 3)) (.bin .fdiv (.loc 5) (.loc 3)))) 
      (.seq (.ex (.bm .append (.loc 4) (.cons (.loc 5) .nil)))
      .skip) 
      .skip)
    .skip))
  (.seq (.ret (.loc 4))
  .skip))))
/-- _law_whole -/
noncomputable def c_law_whole : CS := 
  (.seq (.ret (.and (.isinst (.loc 0) .int) (.not (.isinst (.loc 0) .bool))))
  .skip)
/-- _law_cell_at -/
noncomputable def c_law_cell_at : CS := 
  (.seq (.ite (.cmp .lt (.loc 1) (.bf .len (.cons (.loc 0) .nil))) 
    (.seq (.ret (.item (.loc 0) (.loc 1)))
    .skip) 
    .skip)
  (.seq (.ret (.int 0))
  .skip))
/-- _law_row_by -/
noncomputable def c_law_row_by : CS := 
  (.seq (.asg 2 (.list .nil))
  (.seq (.asg 3 (.bin .mod (.call 26 (.cons (.loc 0) (.cons (.int 3) .nil))) (.int 1000)))
  (.seq (.for1 4 .range1 (.cons (.loc 1) .nil) 
    (.seq (.ex (.bm .append (.loc 2) (.cons (.loc 3) .nil)))
    (.seq (.asg 5 (.bin .add (.call 26 (.cons (.loc 0) (.cons (.bin .add (.int 4) (.loc 4)) .nil))) (.bin .mul (.int 17) (.loc 4))))
    (.seq (.asg 3 (.bin .add (.bin .add (.loc 3) (.int 1)) (.bin .mod (.loc 5) (.int 30))))
    (.seq (.ite (.cmp .eq (.bin .mod (.loc 5) (.int 5)) (.int 0)) 
      (.seq (.asg 3 (.bin .add (.loc 3) (.bin .mod (.bin .fdiv (.loc 5) (.int 5)) (.pow 10 12))))
      .skip) 
      .skip)
    .skip)))))
  (.seq (.ret (.loc 2))
  .skip))))
/-- law -/
noncomputable def c_law : CS := 
  (.seq (.asg 1 (.bin .add (.int 2) (.bin .mod (.call 26 (.cons (.loc 0) (.cons (.int 0) .nil))) (.int 8))))
  (.seq (.asg 2 (.bin .mod (.call 26 (.cons (.loc 0) (.cons (.int 1) .nil))) (.int 13)))
  (.seq (.asg 3 (.bin .mod (.call 26 (.cons (.loc 0) (.cons (.int 2) .nil))) (.int 9)))
  (.seq (.ite (.cmp .eq (.bin .mod (.bin .fdiv (.call 26 (.cons (.loc 0) (.cons (.int 2) .nil))) (.int 9)) (.int 4)) (.int 1)) 
    (.seq (.asg 3 (.bin .mod (.bin .fdiv (.call 26 (.cons (.loc 0) (.cons (.int 2) .nil))) (.int 36)) (.int 60)))
    .skip) 
    .skip)
  (.seq (.asg 4 (.int 1))
  (.seq (.for1 5 .range1 (.cons (.loc 2) .nil) 
    (.seq (.asg 4 (.bin .mul (.loc 4) (.loc 1)))
    .skip))
  (.seq (.asg 6 (.call 27 (.cons (.loc 0) (.cons (.loc 3) .nil))))
  (.seq (.asg 7 (.comp (.item (.loc 6) (.loc 10)) .range1 (.cons (.loc 3) .nil) (.or (.cmp .eq (.loc 10) (.int 0)) (.cmp .lt (.bin .fdiv (.item (.loc 6) (.bin .sub (.loc 10) (.int 1))) (.loc 4)) (.bin .fdiv (.item (.loc 6) (.loc 10)) (.loc 4))))))
  (.seq (.asg 8 (.bf .list (.cons (.loc 6) .nil)))
  (.seq (.asg 9 (.call 1 (.cons (.loc 1) (.cons (.loc 2) (.cons (.loc 8) .nil)))))
  (.seq (.ite (.or (.not (.isinst (.loc 9) .list)) (.not (.bf .all (.cons (.comp (.call 25 (.cons (.loc 10) .nil)) .val (.cons (.loc 9) .nil) (.bool true)) .nil)))) 
    (.seq (.ret (.bool false))
    .skip) 
    .skip)
  (.seq (.ret (.and (.cmp .eq (.loc 9) (.loc 7)) (.cmp .eq (.loc 8) (.loc 6))))
  .skip))))))))))))
noncomputable def D : TxD where
  fns := [(0, ⟨some "power", 21, ["width", "level", "found", "turn"], 2, c_power⟩),
    (1, ⟨some "thinned", 28, ["width", "level", "row", "size", "found", "number"], 3, c_thinned⟩),
    (25, ⟨some "_law_whole", 35, ["_law_found"], 1, c_law_whole⟩),
    (26, ⟨some "_law_cell_at", 42, ["_law_script", "_law_k"], 2, c_law_cell_at⟩),
    (27, ⟨some "_law_row_by", 49, ["_law_script", "_law_many", "_law_row", "_law_number", "_law_k", "_law_cell"], 2, c_law_row_by⟩)]
  cls := []
  attrs := []
  mths := []
  methT := []
  init := none
  sub := fun c d => c == d || d == 1
  exc := false
noncomputable def lawSlots : List PySem.Str := ["_law_script", "_law_width", "_law_level", "_law_many", "_law_size", "_law_turn", "_law_row", "_law_due", "_law_handed", "_law_found"]

/-- the row's numbers -/
noncomputable def R (ns : List Int) : Nat → Int
  | 0 => (cellOf ns 3).fmod 1000
  | k + 1 => R ns k + 1 + (cellOf ns (4 + k) + 17 * (k : Int)).fmod 30 + (if (cellOf ns (4 + k) + 17 * (k : Int)).fmod 5 = 0 then ((cellOf ns (4 + k) + 17 * (k : Int)).fdiv 5).fmod 1000000000000 else 0)
theorem R_up (ns : List Int) (k : Nat) : R ns k < R ns (k + 1) := by
  have a := fm (cellOf ns (4 + k) + 17 * (k : Int)) 30 (by decide)
  have b := fm ((cellOf ns (4 + k) + 17 * (k : Int)).fdiv 5) 1000000000000 (by decide)
  have e : R ns (k + 1) = R ns k + 1 + (cellOf ns (4 + k) + 17 * (k : Int)).fmod 30 + (if (cellOf ns (4 + k) + 17 * (k : Int)).fmod 5 = 0 then ((cellOf ns (4 + k) + 17 * (k : Int)).fdiv 5).fmod 1000000000000 else 0) := rfl
  rw [e]
  split <;> omega
noncomputable def isNew (ns : List Int) (P : Int) (k : Nat) : Bool := decide (k = 0) || decide ((R ns (k - 1)).fdiv P < (R ns k).fdiv P)
noncomputable def thin (ns : List Int) (P : Int) (j : Nat) : List Int := ((List.range j).filter (isNew ns P)).map (R ns)
theorem thin_succ (ns : List Int) (P : Int) (j : Nat) : thin ns P (j + 1) = thin ns P j ++ (if isNew ns P j then [R ns j] else []) := by
  unfold thin
  rw [List.range_succ, List.filter_append, List.map_append, List.filter_cons, List.filter_nil]
  split <;> rfl
theorem thin_last (ns : List Int) {P : Int} (hP : 0 < P) : ∀ j, ∃ z x, thin ns P (j + 1) = z ++ [x] ∧ x.fdiv P = (R ns j).fdiv P
  | 0 => ⟨[], R ns 0, by rw [thin_succ]; rfl, rfl⟩
  | j + 1 => by
    obtain ⟨z, x, e1, e2⟩ := thin_last ns hP j
    rw [thin_succ]
    by_cases q : isNew ns P (j + 1) = true
    · exact ⟨thin ns P (j + 1), _, by rw [if_pos q], rfl⟩
    · refine ⟨z, x, by rw [if_neg q, e1, List.append_nil], ?_⟩
      have m : (R ns j).fdiv P ≤ (R ns (j + 1)).fdiv P := by
        rw [Int.fdiv_eq_ediv_of_nonneg _ (Int.le_of_lt hP), Int.fdiv_eq_ediv_of_nonneg _ (Int.le_of_lt hP)]
        exact Int.ediv_le_ediv hP (Int.le_of_lt (R_up ns j))
      unfold isNew at q
      simp only [Nat.add_sub_cancel, Bool.or_eq_true, decide_eq_true_eq, not_or] at q
      omega
section
variable {G : Gl} {n : Nat} {ns : List Int} {w : Int} {M : Nat}
theorem cmp_empty {h : HP} {i j : Nat} {xs : List AV} (hi : h[i]? = some (.list xs)) (hj : h[j]? = some (.list [])) : cmpop .eq (.ref i) (.ref j) h = .ok (.bool xs.isEmpty) h := by
  have e : eqv 6 h (.ref i) (.ref j) = some xs.isEmpty := by
    have u : eqv 6 h (.ref i) (.ref j) = (match h[i]?, h[j]? with
      | some (.list xs), some (.list ys) => if xs.length = ys.length then allEq (List.zipWith (eqv 5 h) xs ys) else some false
      | some (.tup xs), some (.tup ys) => if xs.length = ys.length then allEq (List.zipWith (eqv 5 h) xs ys) else Option.none
      | _, _ => Option.none) := rfl
    rw [u, hi, hj]
    cases xs with
    | nil => rfl
    | cons a r => rfl
  simp only [cmpop, e]
noncomputable def rowL (ns : List Int) (j : Nat) : List AV := ((List.range j).map (R ns)).map .int
theorem rowL_succ (j : Nat) : rowL ns (j + 1) = rowL ns j ++ [.int (R ns j)] := by simp [rowL, List.range_succ]
theorem rowL_get {j k : Nat} (hk : k < j) : (rowL ns j)[k]? = some (.int (R ns k)) := by simp [rowL, hk]
theorem rowL_len (j : Nat) : (rowL ns j).length = j := by simp [rowL]
abbrev rbody : CS := (.seq (.ex (.bm .append (.loc 2) (.cons (.loc 3) .nil)))
    (.seq (.asg 5 (.bin .add (.call 26 (.cons (.loc 0) (.cons (.bin .add (.int 4) (.loc 4)) .nil))) (.bin .mul (.int 17) (.loc 4))))
    (.seq (.asg 3 (.bin .add (.bin .add (.loc 3) (.int 1)) (.bin .mod (.loc 5) (.int 30))))
    (.seq (.ite (.cmp .eq (.bin .mod (.loc 5) (.int 5)) (.int 0)) 
      (.seq (.asg 3 (.bin .add (.loc 3) (.bin .mod (.bin .fdiv (.loc 5) (.int 5)) (.pow 10 12))))
      .skip) 
      .skip)
    .skip))))
theorem r_row (g26 : G.fns 26 = some ⟨2, 2, k_cell_at⟩) (g27 : G.fns 27 = some ⟨2, 6, c_law_row_by⟩) (hM : M < 60) : callN G 100 (n + 2) 27 [.ref 0, .int M] [.const (ns.map .int)] = .ok (.ref 1) [.const (ns.map .int), .list (rowL ns M)] := by
  have cell : ∀ (h : HP), h[0]? = some (.const (ns.map .int)) → ∀ k : Nat, callN G 100 (n + 1) 26 [.ref 0, .int k] h = .ok (.int (cellOf ns k)) h := fun h h0 k => r_cell g26 h0
  generalize ns.map AV.int = c at *
  refine c_run g27 rfl ?_
  unfold c_law_row_by
  refine x_seq (x_asg (v := .ref 1) (h1 := [.const c, .list []]) (by simp [ev, evs, R.bind, szOk])) ?_
  have c3 := cell [.const c, .list []] rfl 3
  refine x_seq (x_asg (v := .int (R ns 0)) (h1 := [.const c, .list []]) (by simp only [ev, evs, R.bind]; simp; erw [c3]; simp [binop, show divOk 1000 = true by decide, L02.R])) ?_
  have loop := forL_inv (g := Option.none) (step := fun v _ l' h' => exec G (callN G 100 (n + 1)) 100 rbody (l'.set 4 (some v)) h')
    (fun j l' h' => (∃ t u, l' = [some (.ref 0), some (.int M), some (.ref 1), some (.int (R ns j)), t, u]) ∧ h' = [.const c, .list (rowL ns j)] ∧ j ≤ M) ((List.range M).map fun (k : Nat) => AV.int (k : Int)) 0
    [some (.ref 0), some (.int M), some (.ref 1), some (.int (R ns 0)), Option.none, Option.none] [.const c, .list []] ⟨⟨_, _, rfl⟩, rfl, by omega⟩ (fun j v l' h' hj ⟨⟨t, u, hl⟩, hh, hjl⟩ => by
      subst hl; subst hh
      simp only [Nat.zero_add]
      have hj' : j < M := by have := (List.getElem?_eq_some_iff.mp hj).1; simpa using this
      have hv : v = .int j := by
        rw [List.getElem?_map, List.getElem?_range hj'] at hj
        exact (Option.some.inj hj).symm
      subst hv
      have cj := cell [.const c, .list (rowL ns (j + 1))] rfl (4 + j)
      have ln : (rowL ns j).length = j := rowL_len j
      refine ⟨rfl, ?_⟩
      obtain ⟨q, hq⟩ : ∃ q : Int, q = cellOf ns (4 + j) + 17 * (j : Int) := ⟨_, rfl⟩
      have d5 : divOk 5 = true := by decide
      have hR : R ns (j + 1) = R ns j + 1 + q.fmod 30 + (if q.fmod 5 = 0 then (q.fdiv 5).fmod 1000000000000 else 0) := by rw [hq]; rfl
      have s1 : exec G (callN G 100 (n + 1)) 100 (.ex (.bm .append (.loc 2) (.cons (.loc 3) .nil))) [some (.ref 0), some (.int M), some (.ref 1), some (.int (R ns j)), some (.int j), u] [.const c, .list (rowL ns j)] = .next [some (.ref 0), some (.int M), some (.ref 1), some (.int (R ns j)), some (.int j), u] [.const c, .list (rowL ns (j + 1))] :=
        x_ex (v := .none) (by rw [rowL_succ]; simp [ev, evs, R.bind, bmKind, bmop, szOk, ln, show j ≤ 100000 by omega])
      have s2 : exec G (callN G 100 (n + 1)) 100 (.asg 5 (.bin .add (.call 26 (.cons (.loc 0) (.cons (.bin .add (.int 4) (.loc 4)) .nil))) (.bin .mul (.int 17) (.loc 4)))) [some (.ref 0), some (.int M), some (.ref 1), some (.int (R ns j)), some (.int j), u] [.const c, .list (rowL ns (j + 1))] = .next [some (.ref 0), some (.int M), some (.ref 1), some (.int (R ns j)), some (.int j), some (.int q)] [.const c, .list (rowL ns (j + 1))] :=
        x_asg (v := .int q) (by
          have e : ((4 + j : Nat) : Int) = 4 + (j : Int) := by push_cast; rfl
          rw [e] at cj
          simp [ev, evs, R.bind, binop, cj, mulOk, hq])
      have s3 : exec G (callN G 100 (n + 1)) 100 (.asg 3 (.bin .add (.bin .add (.loc 3) (.int 1)) (.bin .mod (.loc 5) (.int 30)))) [some (.ref 0), some (.int M), some (.ref 1), some (.int (R ns j)), some (.int j), some (.int q)] [.const c, .list (rowL ns (j + 1))] = .next [some (.ref 0), some (.int M), some (.ref 1), some (.int (R ns j + 1 + q.fmod 30)), some (.int j), some (.int q)] [.const c, .list (rowL ns (j + 1))] :=
        x_asg (v := .int (R ns j + 1 + q.fmod 30)) (by simp [ev, R.bind, binop, show divOk 30 = true by decide])
      by_cases h5 : q.fmod 5 = 0
      · refine ⟨_, _, x_seq s1 (x_seq s2 (x_seq s3 (x_seq (x_iteT (h1 := [.const c, .list (rowL ns (j + 1))]) (by simp [ev, R.bind, binop, d5, cmpop, eqv, h5]) (x_seq (x_asg (v := .int (R ns (j + 1))) (h1 := [.const c, .list (rowL ns (j + 1))]) ?_) x_skip)) x_skip))), ⟨_, _, rfl⟩, rfl, by omega⟩
        rw [hR, if_pos h5]
        simp [ev, R.bind, binop, d5, show divOk 1000000000000 = true by decide]
      · refine ⟨_, _, x_seq s1 (x_seq s2 (x_seq s3 (x_seq (x_iteF (h1 := [.const c, .list (rowL ns (j + 1))]) (by simp [ev, R.bind, binop, d5, cmpop, eqv, h5]) x_skip) x_skip))), ⟨some (.int j), some (.int q), ?_⟩, rfl, by omega⟩
        rw [hR, if_neg h5, Int.add_zero]) (fun _ _ _ => rfl)
  obtain ⟨l', h', e, ⟨t, u, hl⟩, hh, _⟩ := loop
  simp only [List.length_map, List.length_range, Nat.zero_add] at hh hl
  subst hl; subst hh
  refine x_seq (x_for1 (vs := [.int M]) (h1 := [.const c, .list []]) (items := (List.range M).map fun (k : Nat) => AV.int (k : Int)) (g := Option.none) (by simp [ev, evs, R.bind]) (by simp [itemsOf]; omega) e) (x_seqR (x_ret (by simp [ev])))
abbrev tbody : CS := (.seq (.ite (.or (.cmp .eq (.loc 4) (.list .nil)) (.cmp .ne (.bin .fdiv (.item (.loc 4) (.neg (.int 1))) (.loc 3)) (.bin .fdiv (.loc 5) (.loc 3)))) 
      (.seq (.ex (.bm .append (.loc 4) (.cons (.loc 5) .nil)))
      .skip) 
      .skip)
    .skip)
theorem r_thin {x : AO} {L : Int} {due : List AV} (g0 : G.fns 0 = some ⟨2, 4, k_power⟩) (g1 : G.fns 1 = some ⟨3, 6, c_thinned⟩) (hM : M < 60) (hw : 2 ≤ w) (hw9 : w ≤ 9) (hL0 : 0 ≤ L) (hL : L ≤ 12) :
    ∃ gb, callN G 100 (n + 2) 1 [.int w, .int L, .ref 3] [x, .list (rowL ns M), .list due, .list (rowL ns M)] = .ok (.ref 4) (x :: .list (rowL ns M) :: .list due :: .list (rowL ns M) :: .list ((thin ns (w ^ L.toNat) M).map .int) :: gb) := by
  have bd := pow_bd (w := w) (k := L.toNat) hw hw9 (by omega)
  have told : ∀ h, callN G 100 (n + 1) 0 [.int w, .int L] h = .ok (.int (w ^ L.toNat)) h := fun h => r_power g0 (by omega) (by omega)
  generalize w ^ L.toNat = P at *
  have dP : divOk P = true := divOk_of bd.1 bd.2
  have loop := forL_inv (g := some (3, .list (rowL ns M))) (step := fun v _ l' h' => exec G (callN G 100 (n + 1)) 100 tbody (l'.set 5 (some v)) h')
    (fun j l' h' => (∃ t, l' = [some (.int w), some (.int L), some (.ref 3), some (.int P), some (.ref 4), t]) ∧ (∃ gb, h' = x :: .list (rowL ns M) :: .list due :: .list (rowL ns M) :: .list ((thin ns P j).map .int) :: gb) ∧ j ≤ M) (rowL ns M) 0
    [some (.int w), some (.int L), some (.ref 3), some (.int P), some (.ref 4), Option.none] [x, .list (rowL ns M), .list due, .list (rowL ns M), .list []] ⟨⟨_, rfl⟩, ⟨[], rfl⟩, by omega⟩ (fun j v l' h' hj ⟨⟨t, hl⟩, ⟨gb, hh⟩, hjl⟩ => by
      simp only [Nat.zero_add] at hl hh hjl ⊢
      have hj' : j < M := by have := (List.getElem?_eq_some_iff.mp hj).1; rw [rowL_len] at this; exact this
      rw [rowL_get hj'] at hj
      have hv : v = .int (R ns j) := (Option.some.inj hj).symm
      subst hv
      refine ⟨okG_at (by rw [hh]; rfl), ?_⟩
      obtain ⟨F, hF⟩ : ∃ F, F = (thin ns P j).map AV.int := ⟨_, rfl⟩
      have lnF : F.length ≤ j := by rw [hF, List.length_map]; unfold thin; rw [List.length_map]; exact Nat.le_trans (List.length_filter_le _ _) (by simp)
      rw [← hF] at hh
      have e0 : ev G (callN G 100 (n + 1)) (.cmp .eq (.loc 4) (.list .nil)) [some (.int w), some (.int L), some (.ref 3), some (.int P), some (.ref 4), some (.int (R ns j))] h' = .ok (.bool F.isEmpty) (h' ++ [.list []]) := by
        refine e_cmp (h1 := h') (h2 := h' ++ [.list []]) (x := .ref 4) (y := .ref h'.length) (by simp [ev]) (by simp [ev, evs, R.bind, szOk]) (cmp_empty (xs := F) (by rw [hh]; rfl) (by simp))
      have app : ∀ h'' : HP, h''[4]? = some (.list F) → exec G (callN G 100 (n + 1)) 100 (.seq (.ex (.bm .append (.loc 4) (.cons (.loc 5) .nil))) .skip) [some (.int w), some (.int L), some (.ref 3), some (.int P), some (.ref 4), some (.int (R ns j))] h'' = .next [some (.int w), some (.int L), some (.ref 3), some (.int P), some (.ref 4), some (.int (R ns j))] (h''.set 4 (.list (F ++ [.int (R ns j)]))) := fun h'' h4 =>
        x_seq (x_ex (v := .none) (by simp [ev, evs, R.bind, bmKind, h4, bmop, szOk, show F.length ≤ 100000 by omega])) x_skip
      have h'4 : (h' ++ [AO.list []])[4]? = some (.list F) := by rw [hh]; rfl
      have yes : isNew ns P j = true → ∃ gb', (h' ++ [AO.list []]).set 4 (.list (F ++ [.int (R ns j)])) = x :: .list (rowL ns M) :: .list due :: .list (rowL ns M) :: .list ((thin ns P (j + 1)).map .int) :: gb' := fun q => by
        rw [hh, thin_succ, if_pos q, List.map_append, ← hF]
        exact ⟨_, rfl⟩
      cases j with
      | zero =>
        have F0 : F = [] := List.length_eq_zero_iff.mp (by omega)
        rw [F0] at e0
        refine ⟨[some (.int w), some (.int L), some (.ref 3), some (.int P), some (.ref 4), some (.int (R ns 0))], _, ?_, ⟨_, rfl⟩, yes rfl, by omega⟩
        rw [hl]
        exact x_seq (x_iteT (e_orT e0) (app _ h'4)) x_skip
      | succ i =>
        obtain ⟨z, y, z1, z2⟩ := thin_last ns (P := P) (by omega) i
        have Fz : F = z.map .int ++ [.int y] := by rw [hF, z1]; simp
        have F0 : F.isEmpty = false := by rw [Fz]; simp
        rw [F0] at e0
        have il : itemop (.ref 4) (.int (-1)) (h' ++ [AO.list []]) = .ok (.int y) (h' ++ [AO.list []]) := item_last (vs := z.map .int) (by rw [h'4, Fz])
        have e1 : ev G (callN G 100 (n + 1)) (.cmp .ne (.bin .fdiv (.item (.loc 4) (.neg (.int 1))) (.loc 3)) (.bin .fdiv (.loc 5) (.loc 3))) [some (.int w), some (.int L), some (.ref 3), some (.int P), some (.ref 4), some (.int (R ns (i + 1)))] (h' ++ [AO.list []]) = .ok (.bool (!decide ((R ns i).fdiv P = (R ns (i + 1)).fdiv P))) (h' ++ [AO.list []]) := by
          rw [← z2]
          simp [ev, R.bind, il, binop, dP, cmpop, eqv]
        have m : (R ns i).fdiv P ≤ (R ns (i + 1)).fdiv P := by
          rw [Int.fdiv_eq_ediv_of_nonneg _ (show 0 ≤ P by omega), Int.fdiv_eq_ediv_of_nonneg _ (show 0 ≤ P by omega)]
          exact Int.ediv_le_ediv (by omega) (Int.le_of_lt (R_up ns i))
        by_cases q : (R ns i).fdiv P = (R ns (i + 1)).fdiv P
        · have nq : isNew ns P (i + 1) = false := by unfold isNew; simp [q]
          rw [decide_eq_true q] at e1
          refine ⟨[some (.int w), some (.int L), some (.ref 3), some (.int P), some (.ref 4), some (.int (R ns (i + 1)))], h' ++ [.list []], ?_, ⟨_, rfl⟩, ⟨gb ++ [.list []], ?_⟩, by omega⟩
          · rw [hl]
            exact x_seq (x_iteF (e_orF e0 e1) x_skip) x_skip
          · rw [thin_succ, if_neg (by rw [nq]; decide), List.append_nil, ← hF, hh]
            rfl
        · rw [decide_eq_false q] at e1
          refine ⟨[some (.int w), some (.int L), some (.ref 3), some (.int P), some (.ref 4), some (.int (R ns (i + 1)))], _, ?_, ⟨_, rfl⟩, yes (by unfold isNew; simp; omega), by omega⟩
          rw [hl]
          exact x_seq (x_iteT (e_orF e0 e1) (app _ h'4)) x_skip) (fun l h ⟨_, ⟨gb, hh⟩, _⟩ => okG_at (by rw [hh]; rfl))
  obtain ⟨l', h', e, ⟨t, hl⟩, ⟨gb, hh⟩, _⟩ := loop
  simp only [rowL_len, Nat.zero_add] at hh hl
  refine ⟨gb, c_run g1 rfl ?_⟩
  rw [← hh]
  unfold c_thinned
  refine x_seq (x_asg (v := .int P) (h1 := [x, .list (rowL ns M), .list due, .list (rowL ns M)]) (by simp [ev, evs, R.bind, told])) ?_
  refine x_seq (x_asg (v := .ref 4) (h1 := [x, .list (rowL ns M), .list due, .list (rowL ns M), .list []]) (by simp [ev, evs, R.bind, szOk])) ?_
  refine x_seq (x_for1 (vs := [.ref 3]) (h1 := [x, .list (rowL ns M), .list due, .list (rowL ns M), .list []]) (items := rowL ns M) (g := some (3, .list (rowL ns M))) (by simp [ev, evs, R.bind]) (by simp [itemsOf]) e) ?_
  rw [hl]
  exact x_seqR (x_ret (by simp [ev]))
end
theorem plain (ns : List Int) (hn : ns.length ≤ 63) : Post ((⟨1, lawSlots.length, c_law⟩ : Fn).run D.gl (callN D.gl 100 4) 100 [.ref 0] [.const (ns.map .int)]) (fun v h' => v = .bool true ∧ ∃ us, h'[0]? = some (.const us)) (fun _ _ => False) := by
  have g0 : D.gl.fns 0 = some ⟨2, 4, k_power⟩ := rfl
  have g1 : D.gl.fns 1 = some ⟨3, 6, c_thinned⟩ := rfl
  have g25 : D.gl.fns 25 = some ⟨1, 1, k_whole⟩ := rfl
  have g26 : D.gl.fns 26 = some ⟨2, 2, k_cell_at⟩ := rfl
  have g27 : D.gl.fns 27 = some ⟨2, 6, c_law_row_by⟩ := rfl
  generalize D.gl = G at *
  obtain ⟨w, hw⟩ : ∃ w : Int, w = 2 + (cellOf ns 0).fmod 8 := ⟨_, rfl⟩
  obtain ⟨L, hL⟩ : ∃ L : Int, L = (cellOf ns 1).fmod 13 := ⟨_, rfl⟩
  have f1 := fm (cellOf ns 0) 8 (by decide)
  have f2 := fm (cellOf ns 1) 13 (by decide)
  have hw2 : 2 ≤ w := by omega
  have hw9 : w ≤ 9 := by omega
  have hL0 : 0 ≤ L := by omega
  have hL12 : L ≤ 12 := by omega
  have key : ∃ h' us, exec G (callN G 100 4) 100 c_law [some (.ref 0), Option.none, Option.none, Option.none, Option.none, Option.none, Option.none, Option.none, Option.none, Option.none] [.const (ns.map .int)] = .ret (.bool true) h' ∧ h'[0]? = some (.const us) := by
    have cell : ∀ k : Nat, callN G 100 4 26 [.ref 0, .int k] [.const (ns.map .int)] = .ok (.int (cellOf ns k)) [.const (ns.map .int)] := fun k => r_cell g26 rfl
    have c0 := cell 0
    have c1 := cell 1
    have c2 := cell 2
    have d8 : divOk 8 = true := by decide
    have d13 : divOk 13 = true := by decide
    have d9 : divOk 9 = true := by decide
    have d4 : divOk 4 = true := by decide
    have d36 : divOk 36 = true := by decide
    have d60 : divOk 60 = true := by decide
    simp only [show ((0 : Nat) : Int) = 0 from rfl, show ((1 : Nat) : Int) = 1 from rfl, show ((2 : Nat) : Int) = 2 from rfl] at c0 c1 c2
    have bd := pow_bd (w := w) (k := L.toNat) hw2 hw9 (by omega)
    have tail : ∀ M : Nat, M < 60 → ∃ h' us, exec G (callN G 100 4) 100 (.seq (.asg 4 (.int 1))
        (.seq (.for1 5 .range1 (.cons (.loc 2) .nil) 
          (.seq (.asg 4 (.bin .mul (.loc 4) (.loc 1)))
          .skip))
        (.seq (.asg 6 (.call 27 (.cons (.loc 0) (.cons (.loc 3) .nil))))
        (.seq (.asg 7 (.comp (.item (.loc 6) (.loc 10)) .range1 (.cons (.loc 3) .nil) (.or (.cmp .eq (.loc 10) (.int 0)) (.cmp .lt (.bin .fdiv (.item (.loc 6) (.bin .sub (.loc 10) (.int 1))) (.loc 4)) (.bin .fdiv (.item (.loc 6) (.loc 10)) (.loc 4))))))
        (.seq (.asg 8 (.bf .list (.cons (.loc 6) .nil)))
        (.seq (.asg 9 (.call 1 (.cons (.loc 1) (.cons (.loc 2) (.cons (.loc 8) .nil)))))
        (.seq (.ite (.or (.not (.isinst (.loc 9) .list)) (.not (.bf .all (.cons (.comp (.call 25 (.cons (.loc 10) .nil)) .val (.cons (.loc 9) .nil) (.bool true)) .nil)))) 
          (.seq (.ret (.bool false))
          .skip) 
          .skip)
        (.seq (.ret (.and (.cmp .eq (.loc 9) (.loc 7)) (.cmp .eq (.loc 8) (.loc 6))))
        .skip)))))))) [some (.ref 0), some (.int w), some (.int L), some (.int M), Option.none, Option.none, Option.none, Option.none, Option.none, Option.none] [.const (ns.map .int)] = .ret (.bool true) h' ∧ h'[0]? = some (.const us) := by
      intro M hM
      obtain ⟨c, hc⟩ : ∃ c, c = ns.map AV.int := ⟨_, rfl⟩
      have loop := forL_inv (g := Option.none) (step := fun v _ l' h' => exec G (callN G 100 4) 100 (.seq (.asg 4 (.bin .mul (.loc 4) (.loc 1))) .skip) (l'.set 5 (some v)) h')
        (fun j l' h' => (∃ t, l' = [some (.ref 0), some (.int w), some (.int L), some (.int M), some (.int (w ^ j)), t, Option.none, Option.none, Option.none, Option.none]) ∧ h' = [.const c]) ((List.range L.toNat).map fun (k : Nat) => AV.int (k : Int)) 0
        [some (.ref 0), some (.int w), some (.int L), some (.int M), some (.int 1), Option.none, Option.none, Option.none, Option.none, Option.none] [.const c] ⟨⟨Option.none, by simp⟩, rfl⟩ (fun j v l' h' hj ⟨⟨t, hl⟩, hh⟩ => by
          subst hl; subst hh
          refine ⟨rfl, _, _, x_seq (x_asg (v := .int (w ^ (0 + j) * w)) (h1 := [.const c]) ?_) x_skip, ⟨some v, ?_⟩, rfl⟩
          · simp [ev, R.bind, binop, mulOk, show w.natAbs < 2 ^ 64 by omega]
          · simp [Int.pow_succ]) (fun _ _ _ => rfl)
      obtain ⟨l', h', e, ⟨t, hl⟩, hh⟩ := loop
      simp only [List.length_map, List.length_range, Nat.zero_add] at hl
      subst hl; subst hh
      obtain ⟨gb, et⟩ := r_thin (n := 2) (ns := ns) (x := .const c) (due := (thin ns (w ^ L.toNat) M).map .int) g0 g1 hM hw2 hw9 hL0 hL12
      have er := r_row (n := 2) (ns := ns) g26 g27 hM
      rw [← hc] at er ⊢
      generalize w ^ L.toNat = P at *
      have dP : divOk P = true := divOk_of bd.1 bd.2
      refine ⟨.const c :: .list (rowL ns M) :: .list ((thin ns P M).map .int) :: .list (rowL ns M) :: .list ((thin ns P M).map .int) :: (gb ++ [.list ((thin ns P M).map fun _ => .bool true)]), c, x_seq (x_asg (v := .int 1) (h1 := [.const c]) (by simp [ev])) (x_seq (x_for1 (vs := [.int L]) (h1 := [.const c]) (items := (List.range L.toNat).map fun (k : Nat) => AV.int (k : Int)) (g := Option.none) (by simp [ev, evs, R.bind]) (by simp [itemsOf]; omega) e)
        (x_seq (x_asg (v := .ref 1) (h1 := [.const c, .list (rowL ns M)]) (by simp [ev, evs, R.bind, er])) (x_seq (x_asg (v := .ref 2) (h1 := [.const c, .list (rowL ns M), .list ((thin ns P M).map .int)]) ?_) (x_seq (x_asg (v := .ref 3) (h1 := [.const c, .list (rowL ns M), .list ((thin ns P M).map .int), .list (rowL ns M)]) (by simp [ev, evs, R.bind, bfop]))
        (x_seq (x_asg (v := .ref 4) (h1 := .const c :: .list (rowL ns M) :: .list ((thin ns P M).map .int) :: .list (rowL ns M) :: .list ((thin ns P M).map .int) :: gb) (by simp [ev, evs, R.bind, et])) (x_seq (x_iteF (h1 := .const c :: .list (rowL ns M) :: .list ((thin ns P M).map .int) :: .list (rowL ns M) :: .list ((thin ns P M).map .int) :: (gb ++ [.list ((thin ns P M).map fun _ => .bool true)])) ?_ x_skip) (x_seqR (x_ret ?_)))))))), ?_⟩
      · have cm := compL_map (h := [.const c, .list (rowL ns M)]) (g := Option.none) (cond := fun v h' => ev G (callN G 100 4) (.or (.cmp .eq (.loc 10) (.int 0)) (.cmp .lt (.bin .fdiv (.item (.loc 6) (.bin .sub (.loc 10) (.int 1))) (.loc 4)) (.bin .fdiv (.item (.loc 6) (.loc 10)) (.loc 4)))) ([some (.ref 0), some (.int w), some (.int L), some (.int M), some (.int P), t, some (.ref 1), Option.none, Option.none, Option.none] ++ [some v]) h')
          (elt := fun v h' => ev G (callN G 100 4) (.item (.loc 6) (.loc 10)) ([some (.ref 0), some (.int w), some (.int L), some (.int M), some (.int P), t, some (.ref 1), Option.none, Option.none, Option.none] ++ [some v]) h') (e := fun (k : Nat) => AV.int (k : Int)) (f := fun (k : Nat) => AV.int (R ns k)) (p := isNew ns P) rfl (List.range M)
          (fun k hk => by
            have it := item_at (h := [.const c, .list (rowL ns M)]) (r := 1) rfl (rowL_get (ns := ns) (List.mem_range.mp hk))
            cases k with
            | zero => simp [ev, R.bind, cmpop, eqv, truthy, isNew]
            | succ i =>
              have it' := item_at (h := [.const c, .list (rowL ns M)]) (r := 1) rfl (rowL_get (ns := ns) (show i < M by have := List.mem_range.mp hk; omega))
              simp only [List.cons_append, List.nil_append]
              refine e_orF (h1 := [.const c, .list (rowL ns M)]) ?_ ?_
              · simp [ev, R.bind, cmpop, eqv]; omega
              · have e1 : ((i + 1 : Nat) : Int) - 1 = (i : Int) := by omega
                simp only [ev, R.bind, List.getElem?_cons_succ, List.getElem?_cons_zero, binop, e1, it, it', dP, if_true, cmpop, cmpI, isNew]
                simp)
          (fun k hk _ => by
            have it := item_at (h := [.const c, .list (rowL ns M)]) (r := 1) rfl (rowL_get (ns := ns) (List.mem_range.mp hk))
            simp only [ev, R.bind, List.cons_append, List.nil_append, List.getElem?_cons_succ, List.getElem?_cons_zero]
            exact it)
        have := e_comp (G := G) (cl := callN G 100 4) (vs := [.int M]) (h := [.const c, .list (rowL ns M)]) (es := .cons (.loc 3) .nil) (ik := .range1) (h1 := [.const c, .list (rowL ns M)]) (l := [some (.ref 0), some (.int w), some (.int L), some (.int M), some (.int P), t, some (.ref 1), Option.none, Option.none, Option.none]) (by simp [ev, evs, R.bind]) (by simp [itemsOf]; omega) (by simp [szOk]; omega) cm
        rw [show ((thin ns P M).map AV.int) = (List.map (fun (k : Nat) => AV.int (R ns k)) (List.filter (isNew ns P) (List.range M))) by unfold thin; rw [List.map_map]; rfl]
        exact this
      · have hb := compL_map (h := .const c :: .list (rowL ns M) :: .list ((thin ns P M).map .int) :: .list (rowL ns M) :: .list ((thin ns P M).map .int) :: gb) (g := some (4, .list ((thin ns P M).map .int))) (cond := fun v h' => ev G (callN G 100 4) (.bool true) ([some (.ref 0), some (.int w), some (.int L), some (.int M), some (.int P), t, some (.ref 1), some (.ref 2), some (.ref 3), some (.ref 4)] ++ [some v]) h')
          (elt := fun v h' => ev G (callN G 100 4) (.call 25 (.cons (.loc 10) .nil)) ([some (.ref 0), some (.int w), some (.int L), some (.int M), some (.int P), t, some (.ref 1), some (.ref 2), some (.ref 3), some (.ref 4)] ++ [some v]) h') (e := AV.int) (f := fun _ => .bool true) (p := fun _ => true) (okG_at rfl) (thin ns P M)
          (fun k hk => by simp [ev]) (fun k hk _ => by
            have wh : ∀ (v : Int) (h : HP), callN G 100 4 25 [.int v] h = .ok (.bool true) h := fun v h => r_whole g25
            simp [ev, evs, R.bind, wh])
        rw [List.filter_eq_self.mpr (fun _ _ => rfl)] at hb
        have lt : (thin ns P M).length ≤ 100000 := by unfold thin; rw [List.length_map]; exact Nat.le_trans (List.length_filter_le _ _) (by simp; omega)
        have ec := e_comp (G := G) (cl := callN G 100 4) (vs := [.ref 4]) (h := .const c :: .list (rowL ns M) :: .list ((thin ns P M).map .int) :: .list (rowL ns M) :: .list ((thin ns P M).map .int) :: gb) (es := .cons (.loc 9) .nil) (ik := .val) (h1 := .const c :: .list (rowL ns M) :: .list ((thin ns P M).map .int) :: .list (rowL ns M) :: .list ((thin ns P M).map .int) :: gb)
          (l := [some (.ref 0), some (.int w), some (.int L), some (.int M), some (.int P), t, some (.ref 1), some (.ref 2), some (.ref 3), some (.ref 4)]) (by simp [ev, evs, R.bind]) (by simp [itemsOf]) (by simp [szOk, lt]) hb
        refine e_orF (h1 := .const c :: .list (rowL ns M) :: .list ((thin ns P M).map .int) :: .list (rowL ns M) :: .list ((thin ns P M).map .int) :: gb) (by simp [ev, R.bind, isinstop, truthy]) ?_
        have ea : ev G (callN G 100 4) (.bf .all (.cons (.comp (.call 25 (.cons (.loc 10) .nil)) .val (.cons (.loc 9) .nil) (.bool true)) .nil)) [some (.ref 0), some (.int w), some (.int L), some (.int M), some (.int P), t, some (.ref 1), some (.ref 2), some (.ref 3), some (.ref 4)] (.const c :: .list (rowL ns M) :: .list ((thin ns P M).map .int) :: .list (rowL ns M) :: .list ((thin ns P M).map .int) :: gb) = .ok (.bool true) (.const c :: .list (rowL ns M) :: .list ((thin ns P M).map .int) :: .list (rowL ns M) :: .list ((thin ns P M).map .int) :: (gb ++ [.list ((thin ns P M).map fun _ => .bool true)])) := by
          exact e_bf1 ec (bf_all (L := thin ns P M) (by simp))
        exact e_notT ea
      · exact e_and (e_cmp (x := .ref 4) (y := .ref 2) (e_loc rfl) (e_loc rfl) (cmp_ints (L := thin ns P M) rfl rfl)) (e_cmp (x := .ref 3) (y := .ref 1) (e_loc rfl) (e_loc rfl) (cmp_ints (L := (List.range M).map (R ns)) rfl rfl))
      · rfl
    have f9 := fm (cellOf ns 2) 9 (by decide)
    have f60 := fm ((cellOf ns 2).fdiv 36) 60 (by decide)
    have pre : ∀ (X : CS) (r : RS), exec G (callN G 100 4) 100 X [some (.ref 0), some (.int w), some (.int L), some (.int ((cellOf ns 2).fmod 9)), Option.none, Option.none, Option.none, Option.none, Option.none, Option.none] [.const (ns.map .int)] = r →
      exec G (callN G 100 4) 100 (.seq (.asg 1 (.bin .add (.int 2) (.bin .mod (.call 26 (.cons (.loc 0) (.cons (.int 0) .nil))) (.int 8))))
        (.seq (.asg 2 (.bin .mod (.call 26 (.cons (.loc 0) (.cons (.int 1) .nil))) (.int 13)))
        (.seq (.asg 3 (.bin .mod (.call 26 (.cons (.loc 0) (.cons (.int 2) .nil))) (.int 9))) X))) [some (.ref 0), Option.none, Option.none, Option.none, Option.none, Option.none, Option.none, Option.none, Option.none, Option.none] [.const (ns.map .int)] = r := fun X r hX => by
      refine x_seq (x_asg (v := .int w) (h1 := [.const (ns.map .int)]) (by simp [ev, evs, R.bind, binop, c0, d8, hw])) ?_
      refine x_seq (x_asg (v := .int L) (h1 := [.const (ns.map .int)]) (by simp [ev, evs, R.bind, binop, c1, d13, hL])) ?_
      exact x_seq (x_asg (v := .int ((cellOf ns 2).fmod 9)) (h1 := [.const (ns.map .int)]) (by simp [ev, evs, R.bind, binop, c2, d9])) hX
    unfold c_law
    by_cases q : ((cellOf ns 2).fdiv 9).fmod 4 = 1
    · obtain ⟨h', us, e1, e2⟩ := tail (((cellOf ns 2).fdiv 36).fmod 60).toNat (by omega)
      rw [Int.toNat_of_nonneg f60.1] at e1
      exact ⟨h', us, pre _ _ (x_seq (x_iteT (h1 := [.const (ns.map .int)]) (by simp [ev, evs, R.bind, binop, c2, d9, d4, cmpop, eqv, q]) (x_seq (x_asg (v := .int (((cellOf ns 2).fdiv 36).fmod 60)) (h1 := [.const (ns.map .int)]) (by simp [ev, evs, R.bind, binop, c2, d36, d60])) x_skip)) e1), e2⟩
    · obtain ⟨h', us, e1, e2⟩ := tail ((cellOf ns 2).fmod 9).toNat (by omega)
      rw [Int.toNat_of_nonneg f9.1] at e1
      exact ⟨h', us, pre _ _ (x_seq (x_iteF (h1 := [.const (ns.map .int)]) (by simp [ev, evs, R.bind, binop, c2, d9, d4, cmpop, eqv, q]) x_skip) e1), e2⟩
  obtain ⟨h', us, key, hus⟩ := key
  unfold Fn.run
  rw [if_pos (show [AV.ref 0].length = 1 from rfl)]
  show Post (match exec G (callN G 100 4) 100 c_law [some (.ref 0), Option.none, Option.none, Option.none, Option.none, Option.none, Option.none, Option.none, Option.none, Option.none] [.const (ns.map .int)] with
    | .next _ h' => .ok .none h'
    | .ret v h' => .ok v h'
    | .exc c _ h' => .exc c h'
    | .err => .err) _ _
  rw [key]
  exact ⟨rfl, us, hus⟩
end L02



namespace Hx
open PySem PySem.W
noncomputable def topT (ok : Thread → Bool) (st : SharedT → Thread → Option (SharedT × Thread)) (n : Nat) : SharedT → Thread → Option SharedT := Nat.rec (fun _ _ => none) (fun _ go s t => cond (through t) (some s) (cond (ok t) ((st s t).bind fun r => go r.1 r.2) none)) n
theorem topT_of {p : Program} {w : World} {s' : SharedT} (n : Nat) : ∀ (s : SharedT) (t : Thread), topT (stepOk 11 (some (.ref 6))) (stepT (denote treeTable) p w) n s t = some s' → topRun treeTable p w 11 (some (.ref 6)) n s.abs t = some s'.abs := by
  induction n with
  | zero => exact fun _ _ h => nomatch (show none = some s' from h)
  | succ n ih =>
    intro s t h
    have h : cond (through t) (some s) (cond (stepOk 11 (some (.ref 6)) t) ((stepT (denote treeTable) p w s t).bind fun r => topT (stepOk 11 (some (.ref 6))) (stepT (denote treeTable) p w) n r.1 r.2) none) = some s' := h
    unfold topRun
    cases e : through t with
    | true => rw [e] at h; exact congrArg (Option.map SharedT.abs) h
    | false =>
      rw [e] at h
      cases k : stepOk 11 (some (.ref 6)) t with
      | false => rw [k] at h; exact nomatch (show none = some s' from h)
      | true =>
        rw [k] at h
        obtain ⟨r, g, h⟩ := Option.bind_eq_some_iff.mp (show (stepT (denote treeTable) p w s t).bind _ = some s' from h)
        rw [stepT_spec (s' := r.1) (t' := r.2) g]
        exact ih r.1 r.2 h
noncomputable def s0 (w : World) (os : OsState) : SharedT := ⟨((boot_heap w.params).objs.toList.foldl (fun a o => (a.1.ins a.2 o, a.2 + 1)) (BT.nil, 0)).1, 11, (boot_heap w.params).life, #[], boot_drawn, boot_toks, os⟩
noncomputable def fine (mods : List Str) (p : Program) (w : World) (s : Shared) : Bool := staticsOk mods (boot_heap w.params) s.heap && namesBound p s.heap && gensDone s && laidKept (boot_heap w.params) s.heap
theorem size0 (w : World) : ((boot_heap w.params).isNs mainGlobals, (boot_heap w.params).objs.size, (boot_heap w.params).nsMap mainGlobals "__annotations__") = (true, 11, some (.ref 6)) := by kernel_rfl
theorem ends {p : Program} {N : Nat} (e : opening p = plainProg p.main.scope.names) (hN : Nat.ble 600 N = true) (fc : ∀ s, fenceModules? p s = some s)
    (run : ∀ w os, (topT (stepOk 11 (some (.ref 6))) (stepT (denote treeTable) p w) N (s0 w os) (topStub p)).map (fun t => fine (importedModules p.main.body) p w t.abs) = some true) (w : World) : ∃ os t, topT (stepOk 11 (some (.ref 6))) (stepT (denote treeTable) p w) N (s0 w os) (topStub p) = some t ∧ openEnds treeTable p w N = some t.abs := by
  obtain ⟨⟨h, gs, d, k, os⟩, hs, hv⟩ := Option.map_eq_some_iff.mp (boot_open e hN fc w)
  have e1 : h = boot_heap w.params := congrArg (·.1) hv
  have e2 : gs = #[] := congrArg (·.2.1) hv
  have e3 : d = boot_drawn := congrArg (·.2.2.1) hv
  have e4 : k = boot_toks := congrArg (·.2.2.2) hv
  subst e1 e2 e3 e4
  obtain ⟨t, ht, hr⟩ := Option.map_eq_some_iff.mp (run w os)
  refine ⟨os, t, ht, ?_⟩
  have r := topT_of _ _ _ ht
  rw [show (s0 w os).abs = ⟨boot_heap w.params, #[], boot_drawn, boot_toks, os⟩ by kernel_rfl] at r
  unfold openEnds
  rw [hs]
  show topFrom treeTable p w N _ = _
  unfold topFrom
  dsimp only
  rw [show (boot_heap w.params).isNs mainGlobals = true from congrArg (·.1) (size0 w), show (boot_heap w.params).objs.size = 11 from congrArg (·.2.1) (size0 w), show (boot_heap w.params).nsMap mainGlobals "__annotations__" = some (.ref 6) from congrArg (·.2.2) (size0 w), r]
  show (match fine (importedModules p.main.body) p w t.abs with | true => some t.abs | false => none : Option Shared) = _
  rw [hr]
theorem put {α : Type} {f : Shared → α} {v : α} {o : Option SharedT} {t : SharedT} (h : o.map (fun t => f t.abs) = some v) (e : o = some t) : f t.abs = v := by
  subst e; exact Option.some.inj h
theorem two {α β γ : Type} {f : α → β} {g : α → γ} {a : β} {b : γ} {o : Option α} (h : o.map (fun t => (f t, g t)) = some (a, b)) : o.map f = some a ∧ o.map g = some b := by
  cases o with
  | none => cases h
  | some t => cases h; exact ⟨rfl, rfl⟩
end Hx
namespace L02
open PySem PySem.W PyProof.Rows
noncomputable def stA (i : Nat) : Stmt := (PySem.Challenge.rw_uf050019_02.row.prog.main.body[i]?).getD (.Pass ⟨0, 0, 0, 0⟩)
noncomputable def stC (i j : Nat) : Stmt := match stA i with | .ClassDef _ _ _ b _ _ _ _ _ _ _ => (b[j]?).getD (.Pass ⟨0, 0, 0, 0⟩) | s => s
noncomputable def fArgs (s : Stmt) : Arguments := match s with | .FunctionDef _ a _ _ _ _ _ _ _ _ => a | _ => ⟨[], [], none, [], [], none, []⟩
noncomputable def fBody (s : Stmt) : List Stmt := match s with | .FunctionDef _ _ b _ _ _ _ _ _ _ => b | _ => []
noncomputable def fScope (s : Stmt) : Scope := match s with | .FunctionDef _ _ _ _ _ _ c _ _ _ => c | _ => PySem.Challenge.rw_uf050019_02.row.prog.main.scope
abbrev zS (s : String) : Str := Str.ofString s
abbrev zV (s : Str) (n : Nat) : Value := .str s n
abbrev zW (s : String) (n : Nat) : Value := .str (.ofString s) n
abbrev zJ (i : Int) (n : Nat) : Value := .int i n
abbrev zA {α : Type} (l : List α) : Array α := l.toArray
abbrev zO (c : Value) (d : Option Addr) (x : Data) (s : Array (Option Value)) : Obj := ⟨c, d, x, s⟩
abbrev zK (P : Params) (s : String) (n : Nat) (v : Value) : DictEntry := ⟨PyData.keyHash P (.ofString s), .str (.ofString s) n, v⟩
noncomputable def K : Params → Frag := fun P => [
    (2, (zO .none (none) (.dict (zA []) 0) (zA []))),
    (3, (zO (.type "dict") (none) (.dict (zA [(zK P "__name__" 165 (zW "law_uf050019_02" 211)), (zK P "__doc__" 166 .none), (zK P "__package__" 167 .none), (zK P "__loader__" 168 (.builtin "__main__.__loader__#opaque")), (zK P "__spec__" 169 .none), (zK P "__annotations__" 170 (.ref 6)), (zK P "__builtins__" 171 (.ref 4)), (zK P "__file__" 173 (zW "/claim/cut.py" 172)), (zK P "__cached__" 174 .none), (zK P "power" 198 (.ref 21)), (zK P "thinned" 210 (.ref 28)), (zK P "_law_whole" 219 (.ref 35)), (zK P "_law_cell_at" 227 (.ref 42)), (zK P "_law_row_by" 239 (.ref 49)), (zK P "law" 245 (.ref 54))]) 15) (zA []))),
    (6, (zO (.type "dict") (none) (.dict (zA []) 0) (zA []))),
    (15, (zO (.type "tuple") (none) (.seq (zA []) 0) (zA []))),
    (17, (zO (.type "tuple") (none) (.seq (zA [(zW "width" 192), (zW "level" 193), (zW "found" 194), (zW "turn" 195)]) 0) (zA []))),
    (18, (zO (.type "tuple") (none) (.seq (zA []) 0) (zA []))),
    (20, (zO (.type "code") (none) (.fields (zA [(zW "power" 189), (zW "power" 190), (zW "/claim/cut.py" 191), (zJ 2 0), (zJ 2 0), (zJ 0 0), (zJ 0 0), (zJ 3 0), (.ref 15), (.bool Bool.true), (zJ 181 0), (.ref 16), .none, (.ref 17), (.ref 18), (.ref 19), (zJ 196 0), (zJ 2 0), (zW "/claim/cut.py" 197)])) (zA []))),
    (21, (zO (.type "function") (none) (.func (PySem.FuncData.mk (zS "power") (zS "power") (fArgs (stA 1)) (PySem.FuncBody.stmts (fBody (stA 1))) (fScope (stA 1)) 3 [] .none .none .none (zW "skipladder.blocks" 187) (none) (.ref 20) .none 0)) (zA []))),
    (22, (zO (.type "tuple") (none) (.seq (zA []) 0) (zA []))),
    (24, (zO (.type "tuple") (none) (.seq (zA [(zW "width" 202), (zW "level" 203), (zW "row" 204), (zW "size" 205), (zW "found" 206), (zW "number" 207)]) 0) (zA []))),
    (25, (zO (.type "tuple") (none) (.seq (zA []) 0) (zA []))),
    (27, (zO (.type "code") (none) (.fields (zA [(zW "thinned" 199), (zW "thinned" 200), (zW "/claim/cut.py" 201), (zJ 7 0), (zJ 3 0), (zJ 0 0), (zJ 0 0), (zJ 3 0), (.ref 22), (.bool Bool.true), (zJ 181 0), (.ref 23), .none, (.ref 24), (.ref 25), (.ref 26), (zJ 208 0), (zJ 7 0), (zW "/claim/cut.py" 209)])) (zA []))),
    (28, (zO (.type "function") (none) (.func (PySem.FuncData.mk (zS "thinned") (zS "thinned") (fArgs (stA 2)) (PySem.FuncBody.stmts (fBody (stA 2))) (fScope (stA 2)) 3 [] .none .none .none (zW "skipladder.blocks" 187) (none) (.ref 27) .none 0)) (zA []))),
    (29, (zO (.type "tuple") (none) (.seq (zA []) 0) (zA []))),
    (31, (zO (.type "tuple") (none) (.seq (zA [(zW "_law_found" 216)]) 0) (zA []))),
    (32, (zO (.type "tuple") (none) (.seq (zA []) 0) (zA []))),
    (34, (zO (.type "code") (none) (.fields (zA [(zW "_law_whole" 213), (zW "_law_whole" 214), (zW "/claim/cut.py" 215), (zJ 15 0), (zJ 1 0), (zJ 0 0), (zJ 0 0), (zJ 3 0), (.ref 29), (.bool Bool.true), (zJ 181 0), (.ref 30), .none, (.ref 31), (.ref 32), (.ref 33), (zJ 217 0), (zJ 15 0), (zW "/claim/cut.py" 218)])) (zA []))),
    (35, (zO (.type "function") (none) (.func (PySem.FuncData.mk (zS "_law_whole") (zS "_law_whole") (fArgs (stA 4)) (PySem.FuncBody.stmts (fBody (stA 4))) (fScope (stA 4)) 3 [] .none .none .none (zW "law_uf050019_02" 211) (none) (.ref 34) .none 0)) (zA []))),
    (36, (zO (.type "tuple") (none) (.seq (zA []) 0) (zA []))),
    (38, (zO (.type "tuple") (none) (.seq (zA [(zW "_law_script" 223), (zW "_law_k" 224)]) 0) (zA []))),
    (39, (zO (.type "tuple") (none) (.seq (zA []) 0) (zA []))),
    (41, (zO (.type "code") (none) (.fields (zA [(zW "_law_cell_at" 220), (zW "_law_cell_at" 221), (zW "/claim/cut.py" 222), (zJ 17 0), (zJ 2 0), (zJ 0 0), (zJ 0 0), (zJ 3 0), (.ref 36), (.bool Bool.true), (zJ 181 0), (.ref 37), .none, (.ref 38), (.ref 39), (.ref 40), (zJ 225 0), (zJ 17 0), (zW "/claim/cut.py" 226)])) (zA []))),
    (42, (zO (.type "function") (none) (.func (PySem.FuncData.mk (zS "_law_cell_at") (zS "_law_cell_at") (fArgs (stA 5)) (PySem.FuncBody.stmts (fBody (stA 5))) (fScope (stA 5)) 3 [] .none .none .none (zW "law_uf050019_02" 211) (none) (.ref 41) .none 0)) (zA []))),
    (43, (zO (.type "tuple") (none) (.seq (zA []) 0) (zA []))),
    (45, (zO (.type "tuple") (none) (.seq (zA [(zW "_law_script" 231), (zW "_law_many" 232), (zW "_law_row" 233), (zW "_law_number" 234), (zW "_law_k" 235), (zW "_law_cell" 236)]) 0) (zA []))),
    (46, (zO (.type "tuple") (none) (.seq (zA []) 0) (zA []))),
    (48, (zO (.type "code") (none) (.fields (zA [(zW "_law_row_by" 228), (zW "_law_row_by" 229), (zW "/claim/cut.py" 230), (zJ 21 0), (zJ 2 0), (zJ 0 0), (zJ 0 0), (zJ 3 0), (.ref 43), (.bool Bool.true), (zJ 181 0), (.ref 44), .none, (.ref 45), (.ref 46), (.ref 47), (zJ 237 0), (zJ 21 0), (zW "/claim/cut.py" 238)])) (zA []))),
    (49, (zO (.type "function") (none) (.func (PySem.FuncData.mk (zS "_law_row_by") (zS "_law_row_by") (fArgs (stA 6)) (PySem.FuncBody.stmts (fBody (stA 6))) (fScope (stA 6)) 3 [] .none .none .none (zW "law_uf050019_02" 211) (none) (.ref 48) .none 0)) (zA []))),
    (50, (zO (.type "tuple") (none) (.seq (zA []) 0) (zA []))),
    (53, (zO (.type "code") (none) (.fields (zA [(zW "law" 240), (zW "law" 241), (zW "/claim/cut.py" 242), (zJ 31 0), (zJ 1 0), (zJ 0 0), (zJ 0 0), (zJ 3 0), (.ref 50), (.bool Bool.true), (zJ 181 0), (.ref 51), .none, .none, .none, (.ref 52), (zJ 243 0), (zJ 31 0), (zW "/claim/cut.py" 244)])) (zA []))),
    (54, (zO (.type "function") (none) (.func (PySem.FuncData.mk (zS "law") (zS "law") (fArgs (stA 7)) (PySem.FuncBody.stmts (fBody (stA 7))) (fScope (stA 7)) 3 [] .none .none .none (zW "law_uf050019_02" 211) (none) (.ref 53) .none 0)) (zA [])))]
noncomputable abbrev H : Hook := kHook K [2, 3, 6, 15, 17, 18, 20, 21, 22, 24, 25, 27, 28, 29, 31, 32, 34, 35, 36, 38, 39, 41, 42, 43, 45, 46, 48, 49, 50, 53, 54] (fun _ => by kernel_rfl)
noncomputable abbrev q : Program := view PySem.Challenge.rw_uf050019_02.row.prog [1, 2, 4, 5, 6, 7]
set_option maxHeartbeats 8000000
theorem ws : PySem.Challenge.rw_uf050019_02.wellSaid = true := by
  unfold OpenLaw.wellSaid OpenRow.wellSaid OpenRow.partSaid looksOpen
  repeat' with_reducible refine look_both ?_ ?_
  all_goals decide +kernel
theorem lA (w : World) (os : OsState) : (Hx.topT (stepOk 11 (some (.ref 6))) (stepT (denote treeTable) PySem.Challenge.rw_uf050019_02.row.prog w) 880 (Hx.s0 w os) (topStub PySem.Challenge.rw_uf050019_02.row.prog)).map (fun t => (Hx.fine (importedModules PySem.Challenge.rw_uf050019_02.row.prog.main.body) PySem.Challenge.rw_uf050019_02.row.prog w t.abs, H.obs t.abs)) = some (true, H.val w) := by
  rewrite [PySem.W.Fast.te5923862056798008813, PySem.W.Fast.te10156331382660048174, PySem.W.Fast.te11892475500146522536, PySem.W.Fast.te6613529449190102663, PySem.W.Fast.te14364793385576792824]
  kernel_rfl
theorem lB (w : World) (os : OsState) : (Hx.topT (stepOk 11 (some (.ref 6))) (stepT (denote treeTable) PySem.Challenge.rw_uf050019_02.row.prog w) 880 (Hx.s0 w os) (topStub PySem.Challenge.rw_uf050019_02.row.prog)).map (fun t => (openSeen q [] (importedModules PySem.Challenge.rw_uf050019_02.row.prog.main.body) (fun s => xlAt q [] s && recOk (RowW.records (OpenRow.toRowW PySem.Challenge.rw_uf050019_02.row)) s) true t.abs).1) = some ((openGood q []).1) := by
  rewrite [PySem.W.Fast.te4187177175401517315, PySem.W.Fast.te5923862056798008813, PySem.W.Fast.te10156331382660048174, PySem.W.Fast.te11892475500146522536, PySem.W.Fast.te6613529449190102663, PySem.W.Fast.te14364793385576792824]
  kernel_rfl
theorem lC (w : World) (os : OsState) : (Hx.topT (stepOk 11 (some (.ref 6))) (stepT (denote treeTable) PySem.Challenge.rw_uf050019_02.row.prog w) 880 (Hx.s0 w os) (topStub PySem.Challenge.rw_uf050019_02.row.prog)).map (fun t => (openSeen q [] (importedModules PySem.Challenge.rw_uf050019_02.row.prog.main.body) (fun s => xlAt q [] s && recOk (RowW.records (OpenRow.toRowW PySem.Challenge.rw_uf050019_02.row)) s) true t.abs).2) = some ((openGood q []).2) := by
  rewrite [PySem.W.Fast.te4187177175401517315, PySem.W.Fast.te5923862056798008813, PySem.W.Fast.te10156331382660048174, PySem.W.Fast.te11892475500146522536, PySem.W.Fast.te6613529449190102663, PySem.W.Fast.te14364793385576792824]
  kernel_rfl
theorem left (w : World) : (openEnds treeTable PySem.Challenge.rw_uf050019_02.row.prog w 880).map (fun s => (openSeen q [] (importedModules PySem.Challenge.rw_uf050019_02.row.prog.main.body) (fun s => xlAt q [] s && recOk (RowW.records (OpenRow.toRowW PySem.Challenge.rw_uf050019_02.row)) s) true s, H.obs s)) = some (openGood q [], H.val w) := by
  obtain ⟨os, t, ht, e⟩ := Hx.ends (by rfl) (by rfl) (fun s => by rfl) (fun w os => (Hx.two (lA w os)).1) w
  rw [e]
  exact congrArg some (Prod.ext (Prod.ext (Hx.put (f := fun s => (openSeen q [] (importedModules PySem.Challenge.rw_uf050019_02.row.prog.main.body) (fun s => xlAt q [] s && recOk (RowW.records (OpenRow.toRowW PySem.Challenge.rw_uf050019_02.row)) s) true s).1) (lB w os) ht) (Hx.put (f := fun s => (openSeen q [] (importedModules PySem.Challenge.rw_uf050019_02.row.prog.main.body) (fun s => xlAt q [] s && recOk (RowW.records (OpenRow.toRowW PySem.Challenge.rw_uf050019_02.row)) s) true s).2) (lC w os) ht)) (Hx.put (f := H.obs) (Hx.two (lA w os)).2 ht))
end L02

open PySem PySem.W PyProof.Rows
set_option maxHeartbeats 8000000 in
theorem PySem.Challenge.cw_uf050019_02_holds : PySem.Challenge.rw_uf050019_02.Holds := by
  w_on
  refine holds_law L02.ws fun said => ?_
  refine holds_open (q := L02.q) (loose := []) (Xt := fun s => xlAt L02.q [] s && recOk (RowW.records (OpenRow.toRowW PySem.Challenge.rw_uf050019_02.row)) s) (XP := XL L02.q []) (Yf := Hook.obs L02.H) (Ya := Hook.val L02.H) (YP := Hook.says L02.H) (N := 880) L02.left (Hook.of L02.H) (Hook.keeps L02.H) (fun s e => xl_of s (Bool.and_eq_true_iff.mp e).1) XL.keeps (by rfl) (by rfl) (by rfl) (fun s e => recFacts_of (Bool.and_eq_true_iff.mp e).2) (by rfl) said (by decide +kernel) ⟨rfl, rfl, rfl, rfl, rfl, by decide +kernel⟩ ?hw ?hc
  case hw => w_witness2
  clear said
  k_fill
  intro w s₀ s₁ mg mb G Y fa o pm cd doc dV kV ho hd hcd hD hmg hg args vals as hpre hlay hrd hwl hlo
  have KX := kIn_of Y
  refine Ground.open G ?_
  intro T B _ TE TW
  try (obtain ⟨_, _, he, B0⟩ := based_of_top T rfl hmg ho hd; have he' : cd = _ := he; subst he'; clear he)
  have sysm := (T.seer (by decide +kernel)).mods
  have dfl := (hD.pos.resolve_right (fun h => h.1 rfl)).2
  wrow_args hpre hlay hrd hwl hlo
  all_goals (
    first | refine callC_kw (enter_call ?_) | refine enter_call ?_ | refine callC_kw (enter_callW ?_) | refine enter_callW ?_
    w_top on
    refine codeAny_mono ?_ (fun _ _ g => GoodW.toG g))
  rename_i hL _ _ _ hI _ hc _
  have la : Sk.LawAt L02.D PySem.Challenge.rw_uf050019_02.row.prog w s₁ _ mg mb _ _ _ := ⟨KX, T.g, T.b, T.nolimit, T.builtins, sysm.imp fun _ h => h.1, hL, hI, by omega, by kernel_rfl⟩
  refine codeAny_mono (Sk.law_quiet 100 4 L02.c_law L02.lawSlots la rfl ho hd hcd rfl rfl rfl rfl dfl (by kernel_rfl) rfl (by decide) (by decide) (L02.plain _ (by omega))) ?_
  exact (fun r s1 h => Sk.good_true hg (fun _ => rfl) (by first | (with_unfolding_all rfl) | kernel_rfl | decide +kernel) h)
