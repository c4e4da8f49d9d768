import PyProof.Rows.All
import PyProof.P3In
import Flt.Ops
import PyProof.ListNew
import PyProof.FactsAll.list
import PyProof.Walks
import Wide.All
import Open.Line
import PySem.Challenge.RW_uf050036_08
set_option autoImplicit false
set_option linter.unusedSimpArgs false
set_option linter.unusedVariables false
set_option Elab.async false
namespace Mine
open PySem

/-- values of the small meaning -/
inductive V where
  | none
  | scr
  | bool (b : Bool)
  | int (i : Int)
  | str (s : Str)
  | tup (vs : List V)
  | ref (i : Nat)
  | fn (k : Nat)
  | exc (c : Nat)

inductive Cell where
  | list (vs : List V)
  | dictI (kvs : List (Int × Int))
  | dictS (kvs : List (Str × Int))

abbrev Store := List Cell
abbrev Loc := List (Option V)

inductive R (α : Type) where
  | ok (a : α) (σ : Store)
  | err (c : Nat) (σ : Store)
  | stuck

noncomputable def R.bind {α β : Type} (r : R α) (f : α → Store → R β) : R β :=
  match r with
  | .ok a σ => f a σ
  | .err c σ => .err c σ
  | .stuck => .stuck

/-- a raise within has no meaning here -/
noncomputable def R.noErr {α : Type} (r : R α) : R α :=
  match r with
  | .ok a σ => .ok a σ
  | _ => .stuck

inductive Ty where
  | int | bool | list | tuple | str

noncomputable def Ty.isList : Ty → Bool
  | .list => true
  | _ => false

set_option genInjectivity false in
set_option genSizeOf false in
mutual
inductive E where
  | none
  | bool (b : Bool)
  | int (i : Int)
  | str (s : Str)
  | var (i : Nat)
  | glob (g : Nat)
  | fn (k : Nat)
  | bin (op : Operator) (a b : E)
  | neg (a : E)
  | not (a : E)
  | and (a b : E)
  | or (a b : E)
  | cmp (op : CmpOp) (a b : E)
  | cmp2 (o1 o2 : CmpOp) (a b c : E)
  | list (es : Es)
  | tup (es : Es)
  | dictS (ks : List Str) (es : Es)
  | dictI
  | idx (a i : E)
  | sl (a lo hi : E)
  | slFrom (a lo : E)
  | slTo (a hi : E)
  | call (f : Nat) (es : Es)
  | callv (f : E) (es : Es)
  | len (a : E)
  | listOf (a : E)
  | listRange (a : E)
  | listRev (a : E)
  | isinst (a : E) (t : Ty)
  | toInt (a : E)
  | max (a b : E)
  | min (a b : E)
  | sum (a : E)
  | upper (a : E)
  | rep (a n : E)
  | comp (elt : E) (x : Nat) (it : It)
  | compIf (elt : E) (x : Nat) (it : It) (c : E)
inductive It where
  | range (e : E)
  | seq (e : E)
inductive Es where
  | nil
  | cons (e : E) (es : Es)
end

inductive Itr where
  | vals (vs : List V)
  | ref (i k : Nat)

/-- one step of an iterator: `none`: no meaning; `some none`: its end -/
noncomputable def itNext (it : Itr) (σ : Store) : Option (Option (V × Itr)) :=
  match it with
  | .vals [] => some .none
  | .vals (v :: vs) => some (some (v, .vals vs))
  | .ref i k => match σ[i]? with
    | some (.list vs) => match vs[k]? with
      | some v => some (some (v, .ref i (k + 1)))
      | Option.none => some .none
    | _ => Option.none

noncomputable def itFuel (it : Itr) (σ : Store) : Nat :=
  match it with
  | .vals vs => vs.length + 1
  | .ref i _ => match σ[i]? with
    | some (.list vs) => vs.length + 1
    | _ => 0

/-- what a value reads as -/
noncomputable def den (σ : Store) : Nat → V → Option PyData
  | _, .none => some .none
  | _, .bool b => some (.bool b)
  | _, .int i => some (.int i)
  | _, .str s => some (.str s)
  | n + 1, .tup vs => (vs.mapM (den σ n)).map .tuple
  | n + 1, .ref i => match σ[i]? with
    | some (.list vs) => (vs.mapM (den σ n)).map .list
    | _ => Option.none
  | _, _ => Option.none

noncomputable def eqD (σ : Store) (a b : V) : Option Bool :=
  match den σ 8 a, den σ 8 b with
  | some d, some e => some (PyData.eqv d e)
  | _, _ => Option.none

noncomputable def eqV (σ : Store) (a b : V) : Option Bool :=
  match a, b with
  | .int a, .int b => some (a == b)
  | .str a, .str b => some (a == b)
  | .bool a, .bool b => some (a == b)
  | a, b => eqD σ a b

noncomputable def sizeMax : Nat := 1048576

noncomputable def look {K : Type} [DecidableEq K] (k : K) : List (K × Int) → Option Int
  | [] => .none
  | (j, v) :: r => if j = k then some v else look k r
noncomputable def put {K : Type} [DecidableEq K] (k : K) (v : Int) : List (K × Int) → List (K × Int)
  | [] => [(k, v)]
  | (j, u) :: r => if j = k then (j, v) :: r else (j, u) :: put k v r

noncomputable def inV (σ : Store) (a b : V) : Option Bool :=
  match b with
  | .ref i => match σ[i]? with
    | some (.list _) => match den σ 8 a, den σ 8 b with
      | some d, some (.list ds) => some (ds.any fun e => PyData.eqv e d)
      | _, _ => Option.none
    | some (.dictI kvs) => match a with
      | .int k => some (look k kvs).isSome
      | _ => Option.none
    | some (.dictS kvs) => match a with
      | .str k => some (look k kvs).isSome
      | _ => Option.none
    | _ => Option.none
  | _ => Option.none

noncomputable def isNone : V → Option Bool
  | .none => some true
  | .bool _ | .int _ | .str _ | .tup _ | .ref _ => some false
  | _ => Option.none

noncomputable def cmpV (σ : Store) (op : CmpOp) (a b : V) : Option Bool :=
  match op with
  | .Eq => eqV σ a b
  | .NotEq => (eqV σ a b).map (!·)
  | .Lt => match a, b with | .int a, .int b => some (decide (a < b)) | _, _ => Option.none
  | .LtE => match a, b with | .int a, .int b => some (decide (a ≤ b)) | _, _ => Option.none
  | .Gt => match a, b with | .int a, .int b => some (decide (b < a)) | _, _ => Option.none
  | .GtE => match a, b with | .int a, .int b => some (decide (b ≤ a)) | _, _ => Option.none
  | .Is => match b with | .none => isNone a | _ => Option.none
  | .IsNot => match b with | .none => (isNone a).map (!·) | _ => Option.none
  | .In => inV σ a b
  | .NotIn => (inV σ a b).map (!·)

noncomputable def R.ofB (o : Option Bool) (σ : Store) : R V :=
  match o with
  | some b => .ok (.bool b) σ
  | .none => .stuck

/-- a new list -/
noncomputable def newL (vs : List V) (σ : Store) : R V :=
  if vs.length ≤ sizeMax then .ok (.ref σ.length) (σ ++ [.list vs]) else .stuck

noncomputable def big : Int := 2 ^ 250

noncomputable def binI (op : Operator) (a b : Int) (σ : Store) : R V :=
  match op with
  | .Add => .ok (.int (a + b)) σ
  | .Sub => .ok (.int (a - b)) σ
  | .Mult =>
    if (-(2 ^ 64) < a ∧ a < 2 ^ 64) ∨ (-(2 ^ 64) < b ∧ b < 2 ^ 64) ∨ (-big < a ∧ a < big ∧ -big < b ∧ b < big) then .ok (.int (a * b)) σ else .stuck
  | .FloorDiv => if b ≠ 0 ∧ -big < b ∧ b < big then .ok (.int (a.fdiv b)) σ else .stuck
  | .Mod => if b ≠ 0 then .ok (.int (a.fmod b)) σ else .stuck
  | .Pow => if 0 ≤ a ∧ a ≤ 16 ∧ 0 ≤ b ∧ b ≤ 100 then .ok (.int (a ^ b.toNat)) σ else .stuck
  | _ => .stuck
noncomputable def binV (op : Operator) (a b : V) (σ : Store) : R V :=
  match a, b with
  | .int a, .int b => binI op a b σ
  | .ref i, .ref j => (match op with
    | .Add => (match σ[i]?, σ[j]? with
      | some (.list xs), some (.list ys) => newL (xs ++ ys) σ
      | _, _ => .stuck)
    | _ => .stuck)
  | _, _ => .stuck

/-- an item at an index, counted from the end below nought -/
noncomputable def itemAt {α : Type} (vs : List α) (k : Int) : Option α :=
  if 0 ≤ k then vs[k.toNat]? else if 0 ≤ k + vs.length then vs[(k + vs.length).toNat]? else .none

noncomputable def idxV (ns : List Int) (a i : V) (σ : Store) : R V :=
  match a, i with
  | .scr, .int k => match (if 0 ≤ k then ns[k.toNat]? else .none) with
    | some x => .ok (.int x) σ
    | .none => .stuck
  | .tup vs, .int k => match itemAt vs k with
    | some v => .ok v σ
    | .none => .stuck
  | .ref j, i => match σ[j]?, i with
    | some (.list vs), .int k => (match itemAt vs k with
      | some v => .ok v σ
      | .none => .stuck)
    | some (.dictI kvs), .int k => (match look k kvs with
      | some v => .ok (.int v) σ
      | .none => .stuck)
    | some (.dictS kvs), .str k => (match look k kvs with
      | some v => .ok (.int v) σ
      | .none => .stuck)
    | _, _ => .stuck
  | _, _ => .stuck

noncomputable def cut {α : Type} (l : List α) (lo hi : Option Int) : List α :=
  (match hi with | some h => l.take h.toNat | .none => l).drop (lo.getD 0).toNat

/-- a slice by parts that are not below nought -/
noncomputable def slV (ns : List Int) (a : V) (lo hi : Option Int) (σ : Store) : R V :=
  if 0 ≤ lo.getD 0 ∧ 0 ≤ hi.getD 0 then
    match a with
    | .scr => newL ((cut ns lo hi).map .int) σ
    | .ref i => match σ[i]? with
      | some (.list vs) => newL (cut vs lo hi) σ
      | _ => .stuck
    | _ => .stuck
  else .stuck

noncomputable def lenV (ns : List Int) (a : V) (σ : Store) : R V :=
  match a with
  | .scr => .ok (.int ns.length) σ
  | .tup vs => .ok (.int vs.length) σ
  | .ref i => match σ[i]? with
    | some (.list vs) => .ok (.int vs.length) σ
    | some (.dictI kvs) => if kvs.length ≤ sizeMax then .ok (.int kvs.length) σ else .stuck
    | _ => .stuck
  | _ => .stuck

noncomputable def isinstV (a : V) (t : Ty) (σ : Store) : Option Bool :=
  match a, t with
  | .none, _ => some false
  | .bool _, .int => some true
  | .bool _, .bool => some true
  | .bool _, _ => some false
  | .int _, .int => some true
  | .int _, _ => some false
  | .str _, .str => some true
  | .str _, _ => some false
  | .tup _, .tuple => some true
  | .tup _, _ => some false
  | .ref i, t => match σ[i]? with
    | some (.list _) => some t.isList
    | _ => Option.none
  | _, _ => Option.none

noncomputable def intsOf : List V → Option (List Int)
  | [] => some []
  | .int i :: r => (intsOf r).map (i :: ·)
  | _ :: _ => .none

noncomputable def rangeV (n : Nat) : List V := (List.range n).map fun (i : Nat) => V.int (i : Int)

noncomputable def compL (f : V → Store → R (Option V)) : Nat → Itr → Store → R (List V)
  | 0, _, _ => .stuck
  | n + 1, it, σ => match itNext it σ with
    | .none => .stuck
    | some .none => .ok [] σ
    | some (some (v, it')) => (f v σ).bind fun o σ1 => (compL f n it' σ1).bind fun r σ2 => .ok (match o with | some y => y :: r | .none => r) σ2

section
variable (ns : List Int) (G : List Int) (C : Nat → List V → Store → R V)

mutual
noncomputable def evE (ρ : Loc) : E → Store → R V
  | .none, σ => .ok .none σ
  | .bool b, σ => .ok (.bool b) σ
  | .int i, σ => .ok (.int i) σ
  | .str s, σ => .ok (.str s) σ
  | .var i, σ => match ρ[i]? with
    | some (some v) => .ok v σ
    | _ => .stuck
  | .glob g, σ => match G[g]? with
    | some i => .ok (.int i) σ
    | _ => .stuck
  | .fn k, σ => .ok (.fn k) σ
  | .bin op a b, σ => (evE ρ a σ).bind fun x σ1 => (evE ρ b σ1).bind fun y σ2 => binV op x y σ2
  | .neg a, σ => (evE ρ a σ).bind fun x σ1 => match x with
    | .int i => .ok (.int (-i)) σ1
    | _ => .stuck
  | .not a, σ => (evE ρ a σ).bind fun x σ1 => match x with
    | .bool b => .ok (.bool (!b)) σ1
    | _ => .stuck
  | .and a b, σ => (evE ρ a σ).bind fun x σ1 => match x with
    | .bool true => evE ρ b σ1
    | .bool false => .ok (.bool false) σ1
    | _ => .stuck
  | .or a b, σ => (evE ρ a σ).bind fun x σ1 => match x with
    | .bool true => .ok (.bool true) σ1
    | .bool false => evE ρ b σ1
    | _ => .stuck
  | .cmp op a b, σ => (evE ρ a σ).bind fun x σ1 => (evE ρ b σ1).bind fun y σ2 => R.ofB (cmpV σ2 op x y) σ2
  | .cmp2 o1 o2 a b c, σ => (evE ρ a σ).bind fun x σ1 => (evE ρ b σ1).bind fun y σ2 => match cmpV σ2 o1 x y with
    | some true => (evE ρ c σ2).bind fun z σ3 => R.ofB (cmpV σ3 o2 y z) σ3
    | some false => .ok (.bool false) σ2
    | .none => .stuck
  | .list es, σ => (evEs ρ es σ).bind fun vs σ1 => newL vs σ1
  | .tup es, σ => (evEs ρ es σ).bind fun vs σ1 => if vs.length ≤ 64 then .ok (.tup vs) σ1 else .stuck
  | .dictS ks es, σ => (evEs ρ es σ).bind fun vs σ1 => match intsOf vs with
    | some l => .ok (.ref σ1.length) (σ1 ++ [.dictS (ks.zip l)])
    | .none => .stuck
  | .dictI, σ => .ok (.ref σ.length) (σ ++ [.dictI []])
  | .idx a i, σ => (evE ρ a σ).bind fun x σ1 => (evE ρ i σ1).bind fun k σ2 => idxV ns x k σ2
  | .sl a lo hi, σ => (evE ρ a σ).bind fun x σ1 => (evE ρ lo σ1).bind fun l σ2 => (evE ρ hi σ2).bind fun h σ3 => match l, h with
    | .int l, .int h => slV ns x (some l) (some h) σ3
    | _, _ => .stuck
  | .slFrom a lo, σ => (evE ρ a σ).bind fun x σ1 => (evE ρ lo σ1).bind fun l σ2 => match l with
    | .int l => slV ns x (some l) .none σ2
    | _ => .stuck
  | .slTo a hi, σ => (evE ρ a σ).bind fun x σ1 => (evE ρ hi σ1).bind fun h σ2 => match h with
    | .int h => slV ns x .none (some h) σ2
    | _ => .stuck
  | .call f es, σ => (evEs ρ es σ).bind fun vs σ1 => C f vs σ1
  | .callv f es, σ => (evE ρ f σ).bind fun x σ1 => match x with
    | .fn k => (evEs ρ es σ1).bind fun vs σ2 => C k vs σ2
    | _ => .stuck
  | .len a, σ => (evE ρ a σ).bind fun x σ1 => lenV ns x σ1
  | .listOf a, σ => (evE ρ a σ).bind fun x σ1 => match x with
    | .ref i => match σ1[i]? with
      | some (.list vs) => newL vs σ1
      | _ => .stuck
    | _ => .stuck
  | .listRange a, σ => (evE ρ a σ).bind fun x σ1 => match x with
    | .int n => if 0 ≤ n ∧ n ≤ sizeMax then newL (rangeV n.toNat) σ1 else .stuck
    | _ => .stuck
  | .listRev a, σ => (evE ρ a σ).bind fun x σ1 => match x with
    | .ref i => match σ1[i]? with
      | some (.list vs) => newL vs.reverse σ1
      | _ => .stuck
    | _ => .stuck
  | .isinst a t, σ => (evE ρ a σ).bind fun x σ1 => R.ofB (isinstV x t σ1) σ1
  | .toInt a, σ => (evE ρ a σ).bind fun x σ1 => match x with
    | .bool b => .ok (.int (if b then 1 else 0)) σ1
    | _ => .stuck
  | .max a b, σ => (evE ρ a σ).bind fun x σ1 => (evE ρ b σ1).bind fun y σ2 => match x, y with
    | .int a, .int b => .ok (.int (if b > a then b else a)) σ2
    | _, _ => .stuck
  | .min a b, σ => (evE ρ a σ).bind fun x σ1 => (evE ρ b σ1).bind fun y σ2 => match x, y with
    | .int a, .int b => .ok (.int (if b < a then b else a)) σ2
    | _, _ => .stuck
  | .sum a, σ => (evE ρ a σ).bind fun x σ1 => match x with
    | .ref i => match σ1[i]? with
      | some (.list vs) => match intsOf vs with
        | some l => .ok (.int l.sum) σ1
        | .none => .stuck
      | _ => .stuck
    | _ => .stuck
  | .upper _, _ => .stuck
  | .rep a n, σ => (evE ρ a σ).bind fun x σ1 => (evE ρ n σ1).bind fun y σ2 => match y with
    | .int n => if n ≤ sizeMax then newL (List.replicate n.toNat x) σ2 else .stuck
    | _ => .stuck
  | .comp elt x it, σ => (evIt ρ it σ).bind fun i σ1 =>
      (compL (fun v τ => (evE (ρ.set x (some v)) elt τ).bind fun y τ1 => .ok (some y) τ1) (itFuel i σ1) i σ1).noErr.bind newL
  | .compIf elt x it c, σ => (evIt ρ it σ).bind fun i σ1 =>
      (compL (fun v τ => (evE (ρ.set x (some v)) c τ).bind fun b τ1 => match b with
          | .bool true => (evE (ρ.set x (some v)) elt τ1).bind fun y τ2 => .ok (some y) τ2
          | .bool false => .ok .none τ1
          | _ => .stuck) (itFuel i σ1) i σ1).noErr.bind newL
noncomputable def evIt (ρ : Loc) : It → Store → R Itr
  | .range e, σ => (evE ρ e σ).bind fun x σ1 => match x with
    | .int n => if 0 ≤ n ∧ n ≤ sizeMax then .ok (.vals (rangeV n.toNat)) σ1 else .stuck
    | _ => .stuck
  | .seq e, σ => (evE ρ e σ).bind fun x σ1 => match x with
    | .ref i => match σ1[i]? with
      | some (.list _) => .ok (.ref i 0) σ1
      | _ => .stuck
    | _ => .stuck
noncomputable def evEs (ρ : Loc) : Es → Store → R (List V)
  | .nil, σ => .ok [] σ
  | .cons e es, σ => (evE ρ e σ).bind fun v σ1 => (evEs ρ es σ1).bind fun vs σ2 => .ok (v :: vs) σ2
end
end

inductive F where
  | next
  | ret (v : V)

set_option genInjectivity false in
set_option genSizeOf false in
mutual
inductive S where
  | assign (i : Nat) (e : E)
  | setItem (x i e : E)
  | append (x e : E)
  | clear (x : E)
  | expr (e : E)
  | ret (e : E)
  | ite (t : E) (a b : Ss)
  | while (t : E) (b : Ss)
  | for (i : Nat) (it : It) (b : Ss)
  | abort
  | raise (c : Nat)
  | try (b : Ss) (hs : List (Nat × E))
inductive Ss where
  | nil
  | cons (s : S) (ss : Ss)
end

noncomputable def forL (body : Loc → Store → R (F × Loc)) (x : Nat) : Nat → Itr → Loc → Store → R (F × Loc)
  | 0, _, _, _ => .stuck
  | n + 1, it, ρ, σ => match itNext it σ with
    | .none => .stuck
    | some .none => .ok (.next, ρ) σ
    | some (some (v, it')) => (body (ρ.set x (some v)) σ).bind fun fr σ1 => match fr with
      | (.next, ρ1) => forL body x n it' ρ1 σ1
      | (.ret u, ρ1) => .ok (.ret u, ρ1) σ1

noncomputable def whileL (test : Loc → Store → R V) (body : Loc → Store → R (F × Loc)) : Nat → Loc → Store → R (F × Loc)
  | 0, _, _ => .stuck
  | n + 1, ρ, σ => (test ρ σ).bind fun x σ1 => match x with
    | .bool true => (body ρ σ1).bind fun fr σ2 => match fr with
      | (.next, ρ1) => whileL test body n ρ1 σ2
      | (.ret u, ρ1) => .ok (.ret u, ρ1) σ2
    | .bool false => .ok (.next, ρ) σ1
    | _ => .stuck

noncomputable def setV (x i v : V) (σ : Store) : R Unit :=
  match x with
  | .ref j => match σ[j]?, i with
    | some (.list vs), .int k => if 0 ≤ k ∧ k < vs.length then .ok () (σ.set j (.list (vs.set k.toNat v))) else .stuck
    | some (.dictI kvs), .int k => (match v with
      | .int n => if kvs.length < sizeMax then .ok () (σ.set j (.dictI (put k n kvs))) else .stuck
      | _ => .stuck)
    | _, _ => .stuck
  | _ => .stuck

noncomputable def appV (x v : V) (σ : Store) : R Unit :=
  match x with
  | .ref j => match σ[j]? with
    | some (.list vs) => if vs.length < sizeMax then .ok () (σ.set j (.list (vs ++ [v]))) else .stuck
    | _ => .stuck
  | _ => .stuck

noncomputable def isL (x : V) (σ : Store) : Bool :=
  match x with
  | .ref j => match σ[j]? with
    | some (.list _) => true
    | _ => false
  | _ => false

noncomputable def clearV (x : V) (σ : Store) : R Unit :=
  match x with
  | .ref j => match σ[j]? with
    | some (.list _) => .ok () (σ.set j (.list []))
    | _ => .stuck
  | _ => .stuck

/-- own exception classes: c is caught by a clause of class h (0 is the base of all) -/
noncomputable def catches (h c : Nat) : Bool := h == 0 || h == c

section
variable (ns : List Int) (G : List Int) (C : Nat → List V → Store → R V) (N : Nat)

noncomputable def handle (ρ : Loc) (c : Nat) (σ : Store) : List (Nat × E) → R (F × Loc)
  | [] => .err c σ
  | (h, e) :: r => if catches h c then (evE ns G C ρ e σ).bind fun v σ1 => .ok (.ret v, ρ) σ1 else handle ρ c σ r

mutual
noncomputable def exS : S → Loc → Store → R (F × Loc)
  | .assign i e, ρ, σ => (evE ns G C ρ e σ).bind fun v σ1 => .ok (.next, ρ.set i (some v)) σ1
  | .setItem x i e, ρ, σ => (evE ns G C ρ e σ).bind fun v σ1 => (evE ns G C ρ x σ1).bind fun xv σ2 => (evE ns G C ρ i σ2).bind fun iv σ3 =>
      (setV xv iv v σ3).bind fun _ σ4 => .ok (.next, ρ) σ4
  | .append x e, ρ, σ => (evE ns G C ρ x σ).bind fun xv σ1 => if isL xv σ1 = true then (evE ns G C ρ e σ1).bind fun v σ2 =>
      (appV xv v σ2).bind fun _ σ3 => .ok (.next, ρ) σ3 else .stuck
  | .clear x, ρ, σ => (evE ns G C ρ x σ).bind fun xv σ1 => (clearV xv σ1).bind fun _ σ2 => .ok (.next, ρ) σ2
  | .expr e, ρ, σ => (evE ns G C ρ e σ).bind fun _ σ1 => .ok (.next, ρ) σ1
  | .ret e, ρ, σ => (evE ns G C ρ e σ).bind fun v σ1 => .ok (.ret v, ρ) σ1
  | .ite t a b, ρ, σ => (evE ns G C ρ t σ).bind fun x σ1 => match x with
    | .bool true => exSs a ρ σ1
    | .bool false => exSs b ρ σ1
    | _ => .stuck
  | .while t b, ρ, σ => whileL (fun ρ σ => evE ns G C ρ t σ) (fun ρ σ => exSs b ρ σ) N ρ σ
  | .for x it b, ρ, σ => (evIt ns G C ρ it σ).bind fun i σ1 => forL (fun ρ σ => exSs b ρ σ) x (itFuel i σ1) i ρ σ1
  | .abort, _, _ => .stuck
  | .raise c, _, σ => .err c σ
  | .try b hs, ρ, σ => match exSs b ρ σ with
    | .ok a σ1 => .ok a σ1
    | .err c σ1 => handle ns G C ρ c σ1 hs
    | .stuck => .stuck
noncomputable def exSs : Ss → Loc → Store → R (F × Loc)
  | .nil, ρ, σ => .ok (.next, ρ) σ
  | .cons s ss, ρ, σ => (exS s ρ σ).bind fun fr σ1 => match fr with
    | (.next, ρ1) => exSs ss ρ1 σ1
    | (.ret v, ρ1) => .ok (.ret v, ρ1) σ1
end
end

structure Fn where
  nparams : Nat
  nslots : Nat
  body : Ss

section
variable (ns : List Int) (G : List Int) (P : List Fn) (N : Nat)
noncomputable def callF : Nat → Nat → List V → Store → R V
  | 0, _, _, _ => .stuck
  | d + 1, k, args, σ => match P[k]? with
    | some f => if args.length = f.nparams then
        (exSs ns G (callF d) N f.body (args.map some ++ List.replicate (f.nslots - f.nparams) Option.none) σ).bind fun fr σ1 => match fr.1 with
          | .next => .ok .none σ1
          | .ret v => .ok v σ1
      else .stuck
    | .none => .stuck
end

end Mine

namespace Mine
open PySem PyProof.Rows

/-- what stands fixed for the whole call -/
structure Tp where
  prog : Program
  w : World
  h₀ : Heap
  sa : Addr
  ns : List Int
  fa : List Addr

section
variable (T : Tp)

mutual
inductive VR (h : Heap) (β : List Addr) : V → Value → Prop
  | none : VR h β .none .none
  | bool (b : Bool) : VR h β (.bool b) (.bool b)
  | int (i : Int) (t : Tok) : VR h β (.int i) (.int i t)
  | str (x : Str) (t : Tok) : PyData.strOk x = true → VR h β (.str x) (.str x t)
  | scr : VR h β .scr (.ref T.sa)
  | fn {k : Nat} {a : Addr} : T.fa[k]? = some a → VR h β (.fn k) (.ref a)
  | ref {i : Nat} {a : Addr} : β[i]? = some a → VR h β (.ref i) (.ref a)
  | tup {a : Addr} {vs : List V} {vals : List Value} {n : Nat} : h.get? a = some { cls := .type "tuple", data := .seq vals.toArray n } → a ∉ β → VRs h β vs vals → vs.length ≤ 64 → VR h β (.tup vs) (.ref a)
inductive VRs (h : Heap) (β : List Addr) : List V → List Value → Prop
  | nil : VRs h β [] []
  | cons {v : V} {x : Value} {vs : List V} {xs : List Value} : VR h β v x → VRs h β vs xs → VRs h β (v :: vs) (x :: xs)
end

/-- from one state to a later one: what is not of the store stays -/
structure Ext (β : List Addr) (s : Shared) (β' : List Addr) (s' : Shared) : Prop where
  pre : β <+: β'
  new : ∀ a ∈ β', a ∈ β ∨ s.heap.get? a = none
  keep : ∀ b o, b ∉ β → s.heap.get? b = some o → s'.heap.get? b = some o
  gens : s'.gens = s.gens
  os : s'.os = s.os

/-- an int table stands at an address -/
inductive IntPairs {K : Type} : List (K × Int) → List (K × Value) → Prop
  | nil : IntPairs [] []
  | cons {k : K} {i : Int} {t : Tok} {kvs : List (K × Int)} {kvals : List (K × Value)} : IntPairs kvs kvals → IntPairs ((k, i) :: kvs) ((k, .int i t) :: kvals)

noncomputable def CR (h : Heap) (β : List Addr) : Cell → Addr → Prop
  | .list vs, a => ∃ vals : List Value, h.PlainList a vals.toArray ∧ VRs T h β vs vals ∧ vs.length ≤ sizeMax
  | .dictI kvs, a => ∃ kvals, h.DictOf (intKind T.prog T.w) a kvals ∧ IntPairs kvs kvals
  | .dictS kvs, a => ∃ kvals, h.DictOf (strKind T.prog T.w) a kvals ∧ IntPairs kvs kvals

structure SR (β : List Addr) (σ : Store) (s : Shared) : Prop where
  len : β.length = σ.length
  nodup : β.Nodup
  lo : ∀ a ∈ β, T.h₀.get? a = none ∧ a ≠ sysModules
  cell : ∀ (i : Nat) c a, σ[i]? = some c → β[i]? = some a → CR T s.heap β c a
  base : ∀ b o, T.h₀.get? b = some o → s.heap.get? b = some o
end

theorem nodup_at : ∀ {l : List Addr}, l.Nodup → ∀ {i j : Nat} {a : Addr}, l[i]? = some a → l[j]? = some a → i = j
  | [], _, _, _, _, h, _ => by simp at h
  | x :: l, hn, 0, 0, _, _, _ => rfl
  | x :: l, hn, 0, j + 1, a, h, k => by
    simp at h k; subst h
    exact absurd (List.mem_of_getElem? k) (List.nodup_cons.mp hn).1
  | x :: l, hn, i + 1, 0, a, h, k => by
    simp at h k; subst k
    exact absurd (List.mem_of_getElem? h) (List.nodup_cons.mp hn).1
  | x :: l, hn, i + 1, j + 1, a, h, k => by
    simp at h k
    rw [nodup_at (List.nodup_cons.mp hn).2 h k]

theorem Ext.refl (β : List Addr) (s : Shared) : Ext β s β s := ⟨List.prefix_refl _, fun _ h => .inl h, fun _ _ _ h => h, rfl, rfl⟩
theorem Ext.trans {β β' β'' : List Addr} {s s' s'' : Shared} (x : Ext β s β' s') (y : Ext β' s' β'' s'') : Ext β s β'' s'' := by
  have nin : ∀ b o, b ∉ β → s.heap.get? b = some o → b ∉ β' := fun b o hb ho hm => by
    rcases x.new b hm with h | h
    · exact hb h
    · rw [ho] at h; cases h
  refine ⟨x.pre.trans y.pre, fun a ha => ?_, fun b o hb ho => y.keep b o (nin b o hb ho) (x.keep b o hb ho), y.gens.trans x.gens, y.os.trans x.os⟩
  by_cases hab : a ∈ β
  · exact .inl hab
  · right
    cases hq : s.heap.get? a with
    | none => rfl
    | some o =>
      rcases y.new a ha with h | h
      · exact absurd h (nin a o hab hq)
      · rw [x.keep a o hab hq] at h; cases h
theorem Ext.nin {β β' : List Addr} {s s' : Shared} (x : Ext β s β' s') {b : Addr} {o : Obj} (hb : b ∉ β) (ho : s.heap.get? b = some o) : b ∉ β' := fun hm => by
  rcases x.new b hm with h | h
  · exact hb h
  · rw [ho] at h; cases h
theorem Ext.at {β β' : List Addr} {s s' : Shared} (x : Ext β s β' s') {i : Nat} {a : Addr} (h : β[i]? = some a) : β'[i]? = some a := by
  obtain ⟨γ, rfl⟩ := x.pre
  rw [List.getElem?_append_left (List.getElem?_eq_some_iff.mp h).1]; exact h

section
variable {T : Tp}
mutual
theorem VR.mono {h h' : Heap} {β β' : List Addr} (hat : ∀ (i : Nat) a, β[i]? = some a → β'[i]? = some a) (hk : ∀ b o, b ∉ β → h.get? b = some o → h'.get? b = some o ∧ b ∉ β') :
    ∀ {v : V} {x : Value}, VR T h β v x → VR T h' β' v x
  | _, _, .none => .none
  | _, _, .bool b => .bool b
  | _, _, .int i t => .int i t
  | _, _, .str x t e => .str x t e
  | _, _, .scr => .scr
  | _, _, .fn e => .fn e
  | _, _, .ref e => .ref (hat _ _ e)
  | _, _, .tup ho hb r z => .tup (hk _ _ hb ho).1 (hk _ _ hb ho).2 (VRs.mono hat hk r) z
theorem VRs.mono {h h' : Heap} {β β' : List Addr} (hat : ∀ (i : Nat) a, β[i]? = some a → β'[i]? = some a) (hk : ∀ b o, b ∉ β → h.get? b = some o → h'.get? b = some o ∧ b ∉ β') :
    ∀ {vs : List V} {xs : List Value}, VRs T h β vs xs → VRs T h' β' vs xs
  | _, _, .nil => .nil
  | _, _, .cons a r => .cons (VR.mono hat hk a) (VRs.mono hat hk r)
end
theorem VR.ext {β β' : List Addr} {s s' : Shared} (x : Ext β s β' s') {v : V} {y : Value} (h : VR T s.heap β v y) : VR T s'.heap β' v y :=
  h.mono (fun _ _ e => x.at e) fun b o hb ho => ⟨x.keep b o hb ho, x.nin hb ho⟩
theorem VRs.ext {β β' : List Addr} {s s' : Shared} (x : Ext β s β' s') {v : List V} {y : List Value} (h : VRs T s.heap β v y) : VRs T s'.heap β' v y :=
  h.mono (fun _ _ e => x.at e) fun b o hb ho => ⟨x.keep b o hb ho, x.nin hb ho⟩

theorem VRs.length {h : Heap} {β : List Addr} : ∀ {vs : List V} {xs : List Value}, VRs T h β vs xs → vs.length = xs.length
  | _, _, .nil => rfl
  | _, _, .cons _ r => by simp [VRs.length r]
theorem VRs.get {h : Heap} {β : List Addr} : ∀ {vs : List V} {xs : List Value}, VRs T h β vs xs → ∀ {k : Nat} {v : V}, vs[k]? = some v → ∃ x, xs[k]? = some x ∧ VR T h β v x
  | _, _, .nil, k, v, e => by simp at e
  | _, _, .cons a r, 0, v, e => by simp at e; subst e; exact ⟨_, rfl, a⟩
  | _, _, .cons a r, k + 1, v, e => by simpa using VRs.get r (k := k) (by simpa using e)
theorem VRs.append {h : Heap} {β : List Addr} {vs ws : List V} {xs ys : List Value} (a : VRs T h β vs xs) (b : VRs T h β ws ys) : VRs T h β (vs ++ ws) (xs ++ ys) := by
  induction vs generalizing xs with
  | nil => cases a; exact b
  | cons v vs ih => cases a with | cons p q => exact .cons p (ih q)
theorem VRs.take {h : Heap} {β : List Addr} : ∀ {vs : List V} {xs : List Value}, VRs T h β vs xs → ∀ n, VRs T h β (vs.take n) (xs.take n)
  | _, _, _, 0 => by simpa using VRs.nil
  | _, _, .nil, n + 1 => by simpa using VRs.nil
  | _, _, .cons a r, n + 1 => by simpa using VRs.cons a (VRs.take r n)
theorem VRs.drop {h : Heap} {β : List Addr} : ∀ {vs : List V} {xs : List Value}, VRs T h β vs xs → ∀ n, VRs T h β (vs.drop n) (xs.drop n)
  | _, _, r, 0 => by simpa using r
  | _, _, .nil, n + 1 => by simpa using VRs.nil
  | _, _, .cons a r, n + 1 => by simpa using VRs.drop r n
theorem VRs.set {h : Heap} {β : List Addr} : ∀ {vs : List V} {xs : List Value}, VRs T h β vs xs → ∀ (k : Nat) {v : V} {x : Value}, VR T h β v x → VRs T h β (vs.set k v) (xs.set k x)
  | _, _, .nil, k, v, x, _ => by simpa using VRs.nil
  | _, _, .cons a r, 0, v, x, h => by simpa using VRs.cons h r
  | _, _, .cons a r, k + 1, v, x, h => by simpa using VRs.cons a (VRs.set r k h)
theorem VRs.reverse {h : Heap} {β : List Addr} {vs : List V} {xs : List Value} (a : VRs T h β vs xs) : VRs T h β vs.reverse xs.reverse := by
  induction vs generalizing xs with
  | nil => cases a; exact .nil
  | cons v vs ih => cases a with | cons p q => simp only [List.reverse_cons]; exact (ih q).append (.cons p .nil)
theorem VRs.replicate {h : Heap} {β : List Addr} {v : V} {x : Value} (a : VR T h β v x) (n : Nat) : VRs T h β (List.replicate n v) (List.replicate n x) := by
  induction n with
  | zero => exact .nil
  | succ n ih => exact .cons a ih

theorem CR.ext {β β' : List Addr} {h h' : Heap} {c : Cell} {a : Addr} (hat : ∀ (i : Nat) a, β[i]? = some a → β'[i]? = some a) (hk : ∀ b o, b ∉ β → h.get? b = some o → h'.get? b = some o ∧ b ∉ β')
    (ha : ∀ o, h.get? a = some o → h'.get? a = some o) (x : CR T h β c a) : CR T h' β' c a := by
  cases c with
  | list vs => obtain ⟨vals, hl, hv, hz⟩ := x; exact ⟨vals, hl.at ha, hv.mono hat hk, hz⟩
  | dictI kvs => obtain ⟨kv, hd, hp⟩ := x; exact ⟨kv, hd.at ha, hp⟩
  | dictS kvs => obtain ⟨kv, hd, hp⟩ := x; exact ⟨kv, hd.at ha, hp⟩

/-- a step that changes no object that stands -/
theorem SR.keeps {β : List Addr} {σ : Store} {s s' : Shared} (R : SR T β σ s) (hk : ∀ b o, s.heap.get? b = some o → s'.heap.get? b = some o) : SR T β σ s' :=
  ⟨R.len, R.nodup, R.lo, fun i c a hc ha => (R.cell i c a hc ha).ext (fun _ _ e => e) (fun b o hb ho => ⟨hk b o ho, hb⟩) (fun o ho => hk _ o ho), fun b o e => hk b o (R.base b o e)⟩
theorem Ext.keeps {β : List Addr} {s s' : Shared} (hk : ∀ b o, s.heap.get? b = some o → s'.heap.get? b = some o) (hg : s'.gens = s.gens) (ho : s'.os = s.os) : Ext β s β s' :=
  ⟨List.prefix_refl _, fun _ h => .inl h, fun b o _ e => hk b o e, hg, ho⟩

/-- the base: the statics' address stands, the script is a list of ints -/
structure Tp.Ok (T : Tp) : Prop where
  statics : ∃ o, T.h₀.get? cStatics = some o
  script : ∃ vals : List Value, T.h₀.IsList T.sa vals.toArray ∧ vals.length = T.ns.length ∧ ∀ (k : Nat) n, T.ns[k]? = some n → ∃ t, vals[k]? = some (.int n t)
  scriptLen : T.ns.length ≤ sizeMax

theorem SR.fresh {β : List Addr} {σ : Store} {s : Shared} (hT : T.Ok) (R : SR T β σ s) : T.h₀.get? s.heap.objs.size = none ∧ s.heap.objs.size ≠ sysModules ∧ s.heap.get? s.heap.objs.size = none ∧ s.heap.objs.size ∉ β := by
  have h0 : s.heap.get? s.heap.objs.size = none := by
    cases hq : s.heap.get? s.heap.objs.size with
    | none => rfl
    | some o => exact absurd (Heap.lt_size hq) (Nat.lt_irrefl _)
  refine ⟨?_, ?_, h0, ?_⟩
  · cases hq : T.h₀.get? s.heap.objs.size with
    | none => rfl
    | some o => rw [R.base _ _ hq] at h0; cases h0
  · obtain ⟨o, ho⟩ := hT.statics
    have := Heap.lt_size (R.base _ _ ho)
    intro e
    rw [e] at this
    exact absurd this (by decide)
  · intro hm
    obtain ⟨i, hi, he⟩ := List.getElem_of_mem hm
    have hb : β[i]? = some s.heap.objs.size := by rw [List.getElem?_eq_getElem hi, he]
    have hs : i < σ.length := by rw [← R.len]; exact hi
    have hc := R.cell i _ _ (List.getElem?_eq_getElem hs) hb
    cases hcs : σ[i] with
    | list vs => rw [hcs] at hc; obtain ⟨vals, ⟨o, ho⟩, _⟩ := hc; rw [h0] at ho; cases ho
    | dictI vs =>
      rw [hcs] at hc; obtain ⟨kv, hd, _⟩ := hc
      obtain ⟨o, ho, _⟩ := Heap.dictOf_iff.mp hd; rw [h0] at ho; cases ho
    | dictS vs =>
      rw [hcs] at hc; obtain ⟨kv, hd, _⟩ := hc
      obtain ⟨o, ho, _⟩ := Heap.dictOf_iff.mp hd; rw [h0] at ho; cases ho

/-- a new cell of the store -/
theorem SR.new {β : List Addr} {σ : Store} {s s' : Shared} {a : Addr} {c : Cell} (R : SR T β σ s) (hk : ∀ b o, s.heap.get? b = some o → s'.heap.get? b = some o)
    (ha : T.h₀.get? a = none) (hs : a ≠ sysModules) (hn : s.heap.get? a = none) (hb : a ∉ β) (hc : CR T s'.heap (β ++ [a]) c a) (hg : s'.gens = s.gens) (ho : s'.os = s.os) :
    SR T (β ++ [a]) (σ ++ [c]) s' ∧ Ext β s (β ++ [a]) s' ∧ VR T s'.heap (β ++ [a]) (.ref σ.length) (.ref a) := by
  have hat : ∀ (i : Nat) b, β[i]? = some b → (β ++ [a])[i]? = some b := fun i b e => by
    rw [List.getElem?_append_left (List.getElem?_eq_some_iff.mp e).1]; exact e
  refine ⟨⟨by simp [R.len], ?_, ?_, ?_, fun b o e => hk b o (R.base b o e)⟩, ⟨List.prefix_append _ _, ?_, fun b o _ e => hk b o e, hg, ho⟩, .ref ?_⟩
  · rw [List.nodup_append]; exact ⟨R.nodup, by simp, fun x hx y hy => by simp at hy; subst hy; intro e; exact hb (e ▸ hx)⟩
  · intro b hm
    rcases List.mem_append.mp hm with h | h
    · exact R.lo b h
    · simp at h; subst h; exact ⟨ha, hs⟩
  · intro i c' b hc' hb'
    by_cases hi : i < σ.length
    · rw [List.getElem?_append_left hi] at hc'
      rw [List.getElem?_append_left (by rw [R.len]; exact hi)] at hb'
      refine (R.cell i c' b hc' hb').ext hat (fun x o hx hxo => ⟨hk x o hxo, fun hm => ?_⟩) fun o ho => hk _ o ho
      rcases List.mem_append.mp hm with h | h
      · exact hx h
      · simp at h; subst h; rw [hn] at hxo; cases hxo
    · have : i = σ.length := by
        have := (List.getElem?_eq_some_iff.mp hc').1
        simp at this; omega
      subst this
      simp at hc'
      rw [← R.len] at hb'
      simp at hb'
      subst hc' hb'
      exact hc
  · intro b hm
    rcases List.mem_append.mp hm with h | h
    · exact .inl h
    · simp at h; subst h; exact .inr hn
  · rw [← R.len]; simp

/-- a cell of the store is turned -/
theorem SR.turn {β : List Addr} {σ : Store} {s s' : Shared} {a : Addr} {c : Cell} {i : Nat} (R : SR T β σ s) (hi : β[i]? = some a) (hs : Heap.SameBut a s.heap s'.heap)
    (hc : CR T s'.heap β c a) (hg : s'.gens = s.gens) (ho : s'.os = s.os) : SR T β (σ.set i c) s' ∧ Ext β s β s' := by
  have hm : a ∈ β := List.mem_of_getElem? hi
  have hk : ∀ b o, b ≠ a → s.heap.get? b = some o → s'.heap.get? b = some o := fun b o hb e => (hs.2 b hb).trans e
  have hk' : ∀ b o, b ∉ β → s.heap.get? b = some o → s'.heap.get? b = some o ∧ b ∉ β := fun b o hb e => ⟨hk b o (fun q => hb (q ▸ hm)) e, hb⟩
  refine ⟨⟨by simp [R.len], R.nodup, R.lo, ?_, fun b o e => hk b o (fun q => ?_) (R.base b o e)⟩, ⟨List.prefix_refl _, fun _ h => .inl h, fun b o hb e => (hk' b o hb e).1, hg, ho⟩⟩
  · intro j c' b hc' hb'
    rw [List.getElem?_set] at hc'
    by_cases hij : i = j
    · subst hij
      have hl : i < σ.length := by rw [← R.len]; exact (List.getElem?_eq_some_iff.mp hi).1
      simp [hl] at hc'
      rw [hi] at hb'; cases hb'; subst hc'; exact hc
    · simp [hij] at hc'
      have hne : b ≠ a := fun q => hij (by
        subst q
        exact nodup_at R.nodup hi hb')
      exact (R.cell j c' b hc' hb').ext (fun _ _ e => e) hk' fun o ho => hk b o hne ho
  · subst q; rw [(R.lo _ hm).1] at e; cases e
end
end Mine

namespace Mine
open PySem PyProof.Rows

/-- an exception in flight (not served yet) -/
noncomputable def XR (_T : Tp) (_s : Shared) (_c : Nat) (_e : Value) : Prop := False

section
variable {T : Tp} {A : Around} {β : List Addr} {σ : Store} {s : Shared}

noncomputable def Good (T : Tp) (A : Around) (β : List Addr) (s : Shared) {α α' : Type} (Rel : Heap → List Addr → α → α' → Prop) (t : Sem α') (r : R α) : Prop :=
  match r with
  | .ok v σ' => ∀ (Q : α' → Shared → Prop) (E : Value → Shared → Prop), (∀ v' s' β', Ext β s β' s' → SR T β' σ' s' → Rel s'.heap β' v v' → Q v' s') → wpAny (model T.prog T.w) A t Q E s
  | .err c σ' => ∀ (Q : α' → Shared → Prop) (E : Value → Shared → Prop), (∀ e s' β', Ext β s β' s' → SR T β' σ' s' → XR T s' c e → E e s') → wpAny (model T.prog T.w) A t Q E s
  | .stuck => True

/-- what a tree is asked: a post, a post of raises -/
abbrev PT (α : Type) := (α → Shared → Prop) → (Value → Shared → Prop) → Shared → Prop

noncomputable def Gd (T : Tp) (β : List Addr) (s : Shared) {α α' : Type} (Rel : Heap → List Addr → α → α' → Prop) (W : PT α') (r : R α) : Prop :=
  match r with
  | .ok v σ' => ∀ (Q : α' → Shared → Prop) (E : Value → Shared → Prop), (∀ v' s' β', Ext β s β' s' → SR T β' σ' s' → Rel s'.heap β' v v' → Q v' s') → W Q E s
  | .err c σ' => ∀ (Q : α' → Shared → Prop) (E : Value → Shared → Prop), (∀ e s' β', Ext β s β' s' → SR T β' σ' s' → XR T s' c e → E e s') → W Q E s
  | .stuck => True

theorem Good.gd {α α' : Type} {Rel : Heap → List Addr → α → α' → Prop} {t : Sem α'} {r : R α} (h : Good T A β s Rel t r) : Gd T β s Rel (fun Q E s => wpAny (model T.prog T.w) A t Q E s) r := h

theorem Gd.bind {α α' γ γ' : Type} {Rel : Heap → List Addr → α → α' → Prop} {Rel' : Heap → List Addr → γ → γ' → Prop} {W : PT α'} {W' : α' → PT γ'} {r : R α} {g : α → Store → R γ}
    (h : Gd T β s Rel W r) (k : ∀ v v' σ' s' β', Ext β s β' s' → SR T β' σ' s' → Rel s'.heap β' v v' → Gd T β' s' Rel' (W' v') (g v σ')) : Gd T β s Rel' (fun Q E s => W (fun v s' => W' v Q E s') E s) (r.bind g) := by
  cases r with
  | stuck => exact trivial
  | err c σ' => exact fun Q E hE => h _ E hE
  | ok v σ' =>
    show Gd T β s Rel' _ (g v σ')
    cases hg : g v σ' with
    | stuck => exact trivial
    | ok u σ2 =>
      intro Q E hQ
      refine h _ E fun v' s' β' x R y => ?_
      have := k v v' σ' s' β' x R y
      rw [hg] at this
      exact this Q E fun u' s2 β2 x2 R2 y2 => hQ u' s2 β2 (x.trans x2) R2 y2
    | err c σ2 =>
      intro Q E hE
      refine h _ E fun v' s' β' x R y => ?_
      have := k v v' σ' s' β' x R y
      rw [hg] at this
      exact this Q E fun e s2 β2 x2 R2 y2 => hE e s2 β2 (x.trans x2) R2 y2
theorem Gd.of {α α' : Type} {Rel : Heap → List Addr → α → α' → Prop} {W W' : PT α'} {r : R α} (h : Gd T β s Rel W r) (k : ∀ Q E, W Q E s → W' Q E s) : Gd T β s Rel W' r := by
  cases r with
  | stuck => exact trivial
  | ok v σ' => exact fun Q E hQ => k _ _ (h Q E hQ)
  | err v σ' => exact fun Q E hQ => k _ _ (h Q E hQ)
theorem Gd.tree {α α' : Type} {Rel : Heap → List Addr → α → α' → Prop} {W : PT α'} {t : Sem α'} {r : R α} (h : Gd T β s Rel W r) (k : ∀ Q E, W Q E s → wpAny (model T.prog T.w) A t Q E s) : Good T A β s Rel t r := Gd.of h k
theorem Gd.conj {α α' : Type} {Rel : Heap → List Addr → α → α' → Prop} {W : PT α'} {r : R α} {P : Shared → Prop} (hp : P s) (h : Gd T β s Rel W r) : Gd T β s Rel (fun Q E s => P s ∧ W Q E s) r :=
  h.of fun _ _ w => ⟨hp, w⟩

theorem Good.bind {α α' γ γ' : Type} {Rel : Heap → List Addr → α → α' → Prop} {Rel' : Heap → List Addr → γ → γ' → Prop} {t : Sem α'} {f : α' → Sem γ'} {r : R α} {g : α → Store → R γ}
    (h : Good T A β s Rel t r) (k : ∀ v v' σ' s' β', Ext β s β' s' → SR T β' σ' s' → Rel s'.heap β' v v' → Good T A β' s' Rel' (f v') (g v σ')) : Good T A β s Rel' (t >>= f) (r.bind g) := by
  cases r with
  | stuck => exact trivial
  | err c σ' => exact fun Q E hE => wpAny_bind (h _ E hE)
  | ok v σ' =>
    show Good T A β s Rel' (t >>= f) (g v σ')
    cases hg : g v σ' with
    | stuck => exact trivial
    | ok u σ2 =>
      intro Q E hQ
      refine wpAny_bind (h _ E fun v' s' β' x R y => ?_)
      have := k v v' σ' s' β' x R y
      rw [hg] at this
      exact this Q E fun u' s2 β2 x2 R2 y2 => hQ u' s2 β2 (x.trans x2) R2 y2
    | err c σ2 =>
      intro Q E hE
      refine wpAny_bind (h _ E fun v' s' β' x R y => ?_)
      have := k v v' σ' s' β' x R y
      rw [hg] at this
      exact this Q E fun e s2 β2 x2 R2 y2 => hE e s2 β2 (x.trans x2) R2 y2

/-- by another tree of the same wp -/
theorem Good.of {α α' : Type} {Rel : Heap → List Addr → α → α' → Prop} {t t' : Sem α'} {r : R α} (h : Good T A β s Rel t r)
    (k : ∀ Q E, wpAny (model T.prog T.w) A t Q E s → wpAny (model T.prog T.w) A t' Q E s) : Good T A β s Rel t' r := by
  cases r with
  | stuck => exact trivial
  | ok v σ' => exact fun Q E hQ => k _ _ (h Q E hQ)
  | err v σ' => exact fun Q E hQ => k _ _ (h Q E hQ)

theorem Good.ret {α α' : Type} {Rel : Heap → List Addr → α → α' → Prop} {v : α} {v' : α'} (R : SR T β σ s) (h : Rel s.heap β v v') : Good T A β s Rel (pure v') (.ok v σ) :=
  fun _ _ hQ => wpAny_pure (hQ _ _ _ (.refl _ _) R h)

/-- the heap stays; only a number of tokens goes on -/
theorem SR.tok (R : SR T β σ s) (n : Nat) : SR T β σ { s with toks := n } := R.keeps fun _ _ e => e
theorem Ext.tok (n : Nat) : Ext β s β { s with toks := n } := .keeps (fun _ _ e => e) rfl rfl

abbrev VRel (T : Tp) : Heap → List Addr → V → Value → Prop := fun h β v x => VR T h β v x
abbrev VsRel (T : Tp) : Heap → List Addr → List V → List Value → Prop := fun h β v x => VRs T h β v x

theorem sizeMax_le : sizeMax ≤ sizeLine := by rw [sizeLine_eq]; decide

theorem good_newL (hT : T.Ok) (R : SR T β σ s) {vs : List V} {vals : List Value} (hv : VRs T s.heap β vs vals) : Good T A β s (VRel T) (newList vals) (newL vs σ) := by
  unfold newL
  split
  · rename_i hz
    intro Q E hQ
    obtain ⟨f1, f2, f3, f4⟩ := R.fresh hT
    have hk : ∀ b o, s.heap.get? b = some o → (s.heap.push { cls := .type "list", dict := none, data := .seq vals.toArray }).get? b = some o := fun b o e => Heap.get?_push_of_some _ e
    refine wpAny_newObj_type ?_ (by show vals.toArray.size ≤ sizeLine; rw [List.size_toArray, ← hv.length]; exact Nat.le_trans hz sizeMax_le)
    obtain ⟨R', x, y⟩ := R.new (s' := { s with heap := s.heap.push { cls := .type "list", dict := none, data := .seq vals.toArray } }) (c := .list vs) hk f1 f2 f3 f4
      ⟨vals, ⟨_, Heap.get?_push_size _ rfl⟩, hv.mono (fun i a e => by rw [List.getElem?_append_left (List.getElem?_eq_some_iff.mp e).1]; exact e) (fun b o hb e => ⟨hk b o e, fun hm => by
        rcases List.mem_append.mp hm with h | h
        · exact hb h
        · simp at h; subst h; rw [f3] at e; cases e⟩), hz⟩ rfl rfl
    exact hQ _ _ _ x R' y
  · exact trivial

theorem good_newTuple (hT : T.Ok) (R : SR T β σ s) {vs : List V} {vals : List Value} (hv : VRs T s.heap β vs vals) (hz : vs.length ≤ 64) : Good T A β s (VRel T) (newTuple vals) (.ok (.tup vs) σ) := by
  intro Q E hQ
  obtain ⟨f1, f2, f3, f4⟩ := R.fresh hT
  have hk : ∀ b o, s.heap.get? b = some o → (s.heap.push { cls := .type "tuple", dict := none, data := .seq vals.toArray }).get? b = some o := fun b o e => Heap.get?_push_of_some _ e
  refine wpAny_newObj_type ?_ (by show vals.toArray.size ≤ sizeLine; rw [List.size_toArray, ← hv.length, sizeLine_eq]; omega)
  refine hQ _ _ β (.keeps hk rfl rfl) (R.keeps hk) (.tup (Heap.get?_push_size _ rfl) f4 (hv.mono (fun _ _ e => e) fun b o hb e => ⟨hk b o e, hb⟩) hz)

theorem SR.list (R : SR T β σ s) {i : Nat} {a : Addr} {vs : List V} (hs : σ[i]? = some (.list vs)) (hb : β[i]? = some a) : ∃ vals : List Value, s.heap.PlainList a vals.toArray ∧ VRs T s.heap β vs vals ∧ vs.length ≤ sizeMax := R.cell i _ a hs hb
theorem VR.refAt {h : Heap} {i : Nat} {x : Value} (v : VR T h β (.ref i) x) : ∃ a, x = .ref a ∧ β[i]? = some a := by cases v with | ref e => exact ⟨_, rfl, e⟩

/-- a new list that some rule has laid at the heap's end -/
theorem good_laid (hT : T.Ok) (R : SR T β σ s) {h' : Heap} {tk : Nat} {vs : List V} {vals : List Value} {c : Nat} (hk : ∀ b o, s.heap.get? b = some o → h'.get? b = some o)
    (ho : h'.get? s.heap.objs.size = some { cls := .type "list", dict := none, data := .seq vals.toArray c, slots := #[] }) (hv : VRs T s.heap β vs vals) (hz : vs.length ≤ sizeMax) :
    SR T (β ++ [s.heap.objs.size]) (σ ++ [.list vs]) { s with heap := h', toks := tk } ∧ Ext β s (β ++ [s.heap.objs.size]) { s with heap := h', toks := tk } ∧
      VR T h' (β ++ [s.heap.objs.size]) (.ref σ.length) (.ref s.heap.objs.size) := by
  obtain ⟨f1, f2, f3, f4⟩ := R.fresh hT
  exact R.new (s' := { s with heap := h', toks := tk }) (c := .list vs) hk f1 f2 f3 f4
      ⟨vals, ⟨_, ho⟩, hv.mono (fun i a e => by rw [List.getElem?_append_left (List.getElem?_eq_some_iff.mp e).1]; exact e) (fun b o hb e => ⟨hk b o e, fun hm => by
        rcases List.mem_append.mp hm with h | h
        · exact hb h
        · simp at h; subst h; rw [f3] at e; cases e⟩), hz⟩ rfl rfl

theorem good_int (R : SR T β σ s) {t : Sem Value} {i : Int} (h : ∀ Q E, Q (.int i s.toks) { s with toks := s.toks + 1 } → wpAny (model T.prog T.w) A t Q E s) : Good T A β s (VRel T) t (.ok (.int i) σ) :=
  fun _ _ hQ => h _ _ (hQ _ _ β (.tok _) (R.tok _) (.int _ _))

theorem intBits_big {a : Int} (h1 : -big < a) (h2 : a < big) : Builtin.Int.intBits a ≤ 300 := by
  unfold Builtin.Int.intBits
  split
  · exact Nat.zero_le _
  · rename_i h0
    have hn : a.natAbs < 2 ^ 250 := by unfold big at h1 h2; omega
    have h0' : a.natAbs ≠ 0 := by simpa using h0
    have := (Nat.log2_lt h0').mpr hn
    omega

theorem list_plus {prog : Program} {w : World} {A : Around} {E : Value → Shared → Prop} {l b : Addr} {vs ws : List Value} {Q : Value → Shared → Prop} (hl : s.heap.IsList l vs.toArray) (hb : s.heap.IsList b ws.toArray) (hsz : vs.length + ws.length ≤ sizeLine)
    (h : Q (.ref s.heap.objs.size) { s with heap := s.heap.push { cls := .type "list", data := .seq (vs ++ ws).toArray } }) : wpAny (model prog w) A (binaryOp .Add (.ref l) (.ref b)) Q E s := by
  obtain ⟨⟨cls, dd, data, sl⟩, ho, hc, n, hd⟩ := id hl
  obtain ⟨⟨cls2, dd2, data2, sl2⟩, ho2, hc2, n2, hd2⟩ := id hb
  simp only at hc hd hc2 hd2
  subst hc hd hc2 hd2
  refine concat_meets ⟨_, ho, rfl⟩ ⟨_, ho2, rfl⟩ noFill_list_add seq_list_add PySem.F.slot_list_add PySem.F.entry_list_add (PySem.F.args_list_add_2 _ _) (list_addW l b vs.toArray ws.toArray n n2 dd dd2 sl sl2 (by simpa using hsz)) ⟨ho, ho2, ?_⟩
  have e : vs.toArray ++ ws.toArray = (vs ++ ws).toArray := by simp
  rw [e]
  exact h

theorem good_binI (R : SR T β σ s) (op : Operator) {i j : Int} {t u : Tok} : Good T A β s (VRel T) (binaryOp op (.int i t) (.int j u)) (binI op i j σ) := by
  cases op with
  | Add => exact good_int R fun Q E h => add_int h
  | Sub => exact good_int R fun Q E h => sub_int h
  | Mult =>
    dsimp only [binI]
    split
    · rename_i hc
      refine good_int R fun Q E h => mul_int h ?_
      rcases hc with hc | hc | hc
      · exact IntMulOk.of_left (intBits_le_64 hc.1 hc.2)
      · exact IntMulOk.of_right (intBits_le_64 hc.1 hc.2)
      · have h1 := intBits_big hc.1 hc.2.1
        have h2 := intBits_big hc.2.2.1 hc.2.2.2
        unfold IntMulOk
        have : Builtin.Int.intTooBig (Builtin.Int.intBits i + Builtin.Int.intBits j) = false := by
          unfold Builtin.Int.intTooBig
          simp [bitsLine]
          omega
        rw [this]; simp
    · exact trivial
  | FloorDiv =>
    dsimp only [binI]
    split
    · rename_i hc
      refine good_int R fun Q E h => floordiv_int hc.1 h (.inl (PyProof.noPylong_of_log2 ?_))
      have := intBits_big hc.2.1 hc.2.2
      unfold Builtin.Int.intBits at this
      split at this
      · rename_i h0; simp at h0; exact absurd h0 hc.1
      · omega
    · exact trivial
  | Mod =>
    dsimp only [binI]
    split
    · rename_i hc; exact good_int R fun Q E h => mod_int' hc h
    · exact trivial
  | Pow =>
    dsimp only [binI]
    split
    · rename_i hc
      refine good_int R fun Q E h => pow_int hc.2.2.1 ?_ h
      have h1 := hc.1
      have h2 := hc.2.1
      have h5 := Int.ofNat_le.mpr (intBits_le_64 (k := i) (by omega) (by omega))
      refine Int.le_trans (Int.mul_le_mul h5 hc.2.2.2 hc.2.2.1 (by decide)) (by decide)
    · exact trivial
  | _ => exact trivial
theorem good_bin (hT : T.Ok) (R : SR T β σ s) (op : Operator) {a b : V} {x y : Value} (ha : VR T s.heap β a x) (hb : VR T s.heap β b y) : Good T A β s (VRel T) (binaryOp op x y) (binV op a b σ) := by
  unfold binV
  split
  · cases ha; cases hb
    rename_i i j _ _
    exact good_binI R op
  · cases op with
    | Add =>
      dsimp only
      obtain ⟨l, rfl, hl⟩ := ha.refAt
      obtain ⟨m, rfl, hm⟩ := hb.refAt
      split
      · rename_i xs ys e1 e2
        obtain ⟨v1, l1, r1, z1⟩ := R.list e1 hl
        obtain ⟨v2, l2, r2, z2⟩ := R.list e2 hm
        unfold newL
        split
        · rename_i hz
          intro Q E hQ
          refine list_plus l1.isList l2.isList (by rw [← r1.length, ← r2.length, ← List.length_append]; exact Nat.le_trans hz sizeMax_le) ?_
          obtain ⟨R', x', y'⟩ := good_laid (tk := s.toks) (c := 0) (vals := v1 ++ v2) hT R (fun b o e => Heap.get?_push_of_some { cls := .type "list", data := .seq (v1 ++ v2).toArray } e) (Heap.get?_push_size _ rfl) (r1.append r2) hz
          exact hQ _ _ _ x' R' y'
        · exact trivial
      · exact trivial
    | _ => exact trivial
  · exact trivial
end
end Mine

namespace Mine
open PySem PyProof.Rows

section
variable {T : Tp} {A : Around} {β : List Addr} {σ : Store} {s : Shared}

theorem mapM_cons_some {α γ : Type} {f : α → Option γ} {a : α} {l : List α} {r : List γ} (h : (a :: l).mapM f = some r) : ∃ b bs, f a = some b ∧ l.mapM f = some bs ∧ r = b :: bs := by
  rw [List.mapM_cons] at h
  cases h1 : f a with
  | none => rw [h1] at h; cases h
  | some b =>
    rw [h1] at h
    cases h2 : l.mapM f with
    | none => rw [h2] at h; cases h
    | some bs => rw [h2] at h; cases h; exact ⟨b, bs, rfl, rfl, rfl⟩

theorem den_all {n : Nat} (ih : ∀ v x d, den σ n v = some d → VR T s.heap β v x → (∃ as, Reads s.heap x d as) ∧ d.canLay0 = true ∧ d.depth ≤ n) :
    ∀ (vs : List V) (xs : List Value) (ds : List PyData), vs.mapM (den σ n) = some ds → VRs T s.heap β vs xs → (∃ as, ReadsAll s.heap xs ds as) ∧ PyData.canLayAll0 ds = true ∧ PyData.depthAll ds ≤ n
  | [], _, _, h, .nil => by cases h; exact ⟨⟨_, .nil⟩, rfl, Nat.zero_le _⟩
  | v :: vs, _, _, h, .cons a r => by
    obtain ⟨b, bs, h1, h2, rfl⟩ := mapM_cons_some h
    obtain ⟨⟨as, ra⟩, c1, c2⟩ := ih v _ _ h1 a
    obtain ⟨⟨bs', rb⟩, c3, c4⟩ := den_all ih vs _ _ h2 r
    refine ⟨⟨_, .cons ra rb⟩, ?_, ?_⟩
    · show (PyData.canLay0 b && PyData.canLayAll0 bs) = true; rw [c1, c3]; rfl
    · exact Nat.max_le.mpr ⟨c2, c4⟩

theorem den_reads (R : SR T β σ s) : ∀ (n : Nat) (v : V) (x : Value) (d : PyData), den σ n v = some d → VR T s.heap β v x → (∃ as, Reads s.heap x d as) ∧ d.canLay0 = true ∧ d.depth ≤ n := by
  intro n
  induction n with
  | zero =>
    intro v x d h hv
    cases hv with
    | none => cases h; exact ⟨⟨_, .none⟩, rfl, Nat.zero_le _⟩
    | bool b => cases h; exact ⟨⟨_, .bool b⟩, rfl, Nat.zero_le _⟩
    | int i t => cases h; exact ⟨⟨_, .int i t⟩, rfl, Nat.zero_le _⟩
    | str y t e => cases h; exact ⟨⟨_, .str y t⟩, e, Nat.zero_le _⟩
    | scr => cases h
    | fn e => cases h
    | ref e => cases h
    | tup _ _ _ _ => cases h
  | succ n ih =>
    intro v x d h hv
    cases hv with
    | none => cases h; exact ⟨⟨_, .none⟩, rfl, Nat.zero_le _⟩
    | bool b => cases h; exact ⟨⟨_, .bool b⟩, rfl, Nat.zero_le _⟩
    | int i t => cases h; exact ⟨⟨_, .int i t⟩, rfl, Nat.zero_le _⟩
    | str y t e => cases h; exact ⟨⟨_, .str y t⟩, e, Nat.zero_le _⟩
    | scr => cases h
    | fn e => cases h
    | ref e =>
      rename_i i a
      have h : (match σ[i]? with | some (.list vs) => (vs.mapM (den σ n)).map .list | _ => Option.none) = some d := h
      split at h
      · rename_i vs hs
        cases hm : vs.mapM (den σ n) with
        | none => rw [hm] at h; cases h
        | some ds =>
          rw [hm] at h; cases h
          obtain ⟨vals, ⟨k, ho⟩, hv, _⟩ := R.list hs e
          obtain ⟨⟨as, r⟩, c1, c2⟩ := den_all ih vs vals ds hm hv
          exact ⟨⟨_, .list ho rfl rfl (by simpa using r)⟩, c1, Nat.succ_le_succ c2⟩
      · cases h
    | tup ho hb hv z =>
      rename_i a vs vals k
      have h : (vs.mapM (den σ n)).map PyData.tuple = some d := h
      cases hm : vs.mapM (den σ n) with
      | none => rw [hm] at h; cases h
      | some ds =>
        rw [hm] at h; cases h
        obtain ⟨⟨as, r⟩, c1, c2⟩ := den_all ih vs vals ds hm hv
        exact ⟨⟨_, .tuple ho rfl rfl (by simpa using r)⟩, c1, Nat.succ_le_succ c2⟩

theorem good_ofB (R : SR T β σ s) {t : Sem Value} {o : Option Bool} (h : ∀ b, o = some b → ∀ Q E, (∀ n, Q (.bool b) { s with toks := n }) → wpAny (model T.prog T.w) A t Q E s) : Good T A β s (VRel T) t (Mine.R.ofB o σ) := by
  cases o with
  | none => exact trivial
  | some b => exact fun Q E hQ => h b rfl Q E fun n => hQ _ _ β (.tok n) (R.tok n) (.bool b)

theorem eq_by_den (hu : A.units + 100 < cLine) (R : SR T β σ s) {a b : V} {x y : Value} (ha : VR T s.heap β a x) (hb : VR T s.heap β b y) {k : Bool}
    (h : eqD σ a b = some k) {Q : Value → Shared → Prop} {E : Value → Shared → Prop} (hQ : Q (.bool k) s) :
    wpAny (model T.prog T.w) A (compareOp .Eq x y) Q E s := by
  unfold eqD at h
  cases h1 : den σ 8 a with
  | none => rw [h1] at h; cases h
  | some d =>
    cases h2 : den σ 8 b with
    | none => rw [h1, h2] at h; cases h
    | some e =>
      rw [h1, h2] at h; cases h
      obtain ⟨⟨as, r1⟩, c1, c2⟩ := den_reads R 8 a x d h1 ha
      obtain ⟨⟨bs, r2⟩, c3, c4⟩ := den_reads R 8 b y e h2 hb
      exact eq_dataH r1 r2 (by simp [SeqAt.shaped, c1]; omega) (by simp [SeqAt.shaped, c3]; omega) (by omega) hQ
theorem ne_by_den (hu : A.units + 100 < cLine) (R : SR T β σ s) {a b : V} {x y : Value} (ha : VR T s.heap β a x) (hb : VR T s.heap β b y) {k : Bool}
    (h : eqD σ a b = some k) {Q : Value → Shared → Prop} {E : Value → Shared → Prop} (hQ : Q (.bool (!k)) s) :
    wpAny (model T.prog T.w) A (compareOp .NotEq x y) Q E s := by
  unfold eqD at h
  cases h1 : den σ 8 a with
  | none => rw [h1] at h; cases h
  | some d =>
    cases h2 : den σ 8 b with
    | none => rw [h1, h2] at h; cases h
    | some e =>
      rw [h1, h2] at h; cases h
      obtain ⟨⟨as, r1⟩, c1, c2⟩ := den_reads R 8 a x d h1 ha
      obtain ⟨⟨bs, r2⟩, c3, c4⟩ := den_reads R 8 b y e h2 hb
      exact ne_dataH r1 r2 (by simp [SeqAt.shaped, c1]; omega) (by simp [SeqAt.shaped, c3]; omega) (by omega) hQ

theorem IntPairs.look {K : Type} [DecidableEq K] {k : K} : ∀ {kvs : List (K × Int)} {kvals : List (K × Value)}, IntPairs kvs kvals →
    (∀ i, look k kvs = some i → ∃ t, valueAt kvals k = some (.int i t)) ∧ (look k kvs = none → valueAt kvals k = none)
  | _, _, .nil => by simp [Mine.look, valueAt]
  | _, _, .cons (k := j) (i := i) (t := t) r => by
    have ih := IntPairs.look (k := k) r
    by_cases h : j = k
    · subst h
      simp [Mine.look, valueAt]
    · simp only [Mine.look, h, if_false]
      have e : ∀ l : List (K × Value), valueAt ((j, Value.int i t) :: l) k = valueAt l k := fun l => by simp [valueAt, h]
      rw [e]
      exact ih
theorem IntPairs.isSome {K : Type} [DecidableEq K] {k : K} {kvs : List (K × Int)} {kvals : List (K × Value)} (r : IntPairs kvs kvals) : (valueAt kvals k).isSome = (Mine.look k kvs).isSome := by
  have := r.look (k := k)
  cases h : Mine.look k kvs with
  | none => rw [this.2 h]; rfl
  | some i => obtain ⟨t, e⟩ := this.1 i h; rw [e]; rfl
theorem IntPairs.length {K : Type} : ∀ {kvs : List (K × Int)} {kvals : List (K × Value)}, IntPairs kvs kvals → kvs.length = kvals.length
  | _, _, .nil => rfl
  | _, _, .cons r => by simp [IntPairs.length r]

theorem SR.notSys (R : SR T β σ s) {i : Nat} {a : Addr} (h : β[i]? = some a) : (a == sysModules) = false := by
  have := (R.lo a (List.mem_of_getElem? h)).2
  simpa using this

theorem in_by (hu : A.units + 100 < cLine) (R : SR T β σ s) {a b : V} {x y : Value} (ha : VR T s.heap β a x) (hb : VR T s.heap β b y) {k : Bool} (h : inV σ a b = some k) {Q : Value → Shared → Prop} {E : Value → Shared → Prop} :
    ((∀ n, Q (.bool k) { s with toks := n }) → wpAny (model T.prog T.w) A (compareOp .In x y) Q E s) ∧ ((∀ n, Q (.bool (!k)) { s with toks := n }) → wpAny (model T.prog T.w) A (compareOp .NotIn x y) Q E s) := by
  unfold inV at h
  split at h
  · obtain ⟨l, rfl, hl⟩ := hb.refAt
    split at h
    · rename_i vs hs
      split at h
      · rename_i d ds h1 h2
        cases h
        obtain ⟨⟨as, r1⟩, c1, c2⟩ := den_reads R 8 a x d h1 ha
        obtain ⟨⟨bs, r2⟩, c3, c4⟩ := den_reads R 8 _ _ _ h2 hb
        simp only [PyData.canLay0] at c3
        exact ⟨fun hQ => SeqAt.in_list_reads r2 r1 c3 c1 (by omega) (hQ _), fun hQ => SeqAt.notIn_list_reads r2 r1 c3 c1 (by omega) (hQ _)⟩
      · cases h
    · rename_i kvs hs
      split at h
      · cases h
        cases ha
        obtain ⟨kv, hd, hp⟩ := R.cell _ _ _ hs hl
        refine ⟨fun hQ => wpAny_in_of (intKind_is _ _ _ _) (R.notSys hl) hd.mapOf ?_, fun hQ => wpAny_notIn_of (intKind_is _ _ _ _) (R.notSys hl) hd.mapOf ?_⟩
        · rw [hp.isSome]; exact hQ _
        · rw [hp.isSome]; exact hQ _
      · cases h
    · rename_i kvs hs
      split at h
      · cases h
        cases ha
        obtain ⟨kv, hd, hp⟩ := R.cell _ _ _ hs hl
        refine ⟨fun hQ => wpAny_in_of (strKind_is _ _ _ _) (R.notSys hl) hd.mapOf ?_, fun hQ => wpAny_notIn_of (strKind_is _ _ _ _) (R.notSys hl) hd.mapOf ?_⟩
        · rw [hp.isSome]; exact hQ _
        · rw [hp.isSome]; exact hQ _
      · cases h
    · cases h
  · cases h

theorem isNone_by {a : V} {x : Value} {h : Heap} (ha : VR T h β a x) {k : Bool} (e : isNone a = some k) : (x == .none) = k := by
  cases ha <;> first | (cases e; rfl) | cases e

theorem two_int {f : Int → Int → Bool} {a b : V} {k : Bool} (h : (match a, b with | .int i, .int j => some (f i j) | _, _ => Option.none) = some k) : ∃ i j, a = .int i ∧ b = .int j ∧ f i j = k := by
  split at h
  · exact ⟨_, _, rfl, rfl, Option.some.inj h⟩
  · cases h
theorem on_none {o : Option Bool} {b : V} {k : Bool} (h : (match b with | .none => o | _ => Option.none) = some k) : b = .none ∧ o = some k := by
  cases b <;> first | exact ⟨rfl, h⟩ | cases h
theorem flip {o : Option Bool} {k : Bool} (h : o.map (!·) = some k) : ∃ j, o = some j ∧ (!j) = k := by
  cases o with
  | none => cases h
  | some j => exact ⟨j, rfl, Option.some.inj h⟩
theorem eq_by (hu : A.units + 100 < cLine) (R : SR T β σ s) {a b : V} {x y : Value} (ha : VR T s.heap β a x) (hb : VR T s.heap β b y) {k : Bool} (h : eqV σ a b = some k) {Q : Value → Shared → Prop} {E : Value → Shared → Prop} :
    (Q (.bool k) s → wpAny (model T.prog T.w) A (compareOp .Eq x y) Q E s) ∧ (Q (.bool (!k)) s → wpAny (model T.prog T.w) A (compareOp .NotEq x y) Q E s) := by
  unfold eqV at h
  split at h
  · cases ha; cases hb; cases h; exact ⟨eq_int, ne_int⟩
  · cases ha; cases hb; cases h; exact ⟨eq_str, ne_str⟩
  · cases ha; cases hb; cases h; exact ⟨eq_bool, ne_bool⟩
  · exact ⟨eq_by_den hu R ha hb h, ne_by_den hu R ha hb h⟩

theorem good_cmp (hu : A.units + 100 < cLine) (R : SR T β σ s) (op : CmpOp) {a b : V} {x y : Value} (ha : VR T s.heap β a x) (hb : VR T s.heap β b y) :
    Good T A β s (VRel T) (compareOp op x y) (Mine.R.ofB (cmpV σ op a b) σ) := by
  refine good_ofB R fun k hk Q E hQ => ?_
  have hQ0 := hQ s.toks
  cases op with
  | Eq => exact (eq_by hu R ha hb hk).1 hQ0
  | NotEq => obtain ⟨j, h, rfl⟩ := flip hk; exact (eq_by hu R ha hb h).2 hQ0
  | Lt => obtain ⟨i, j, rfl, rfl, rfl⟩ := two_int hk; cases ha; cases hb; exact lt_int hQ0
  | LtE => obtain ⟨i, j, rfl, rfl, rfl⟩ := two_int hk; cases ha; cases hb; exact le_int hQ0
  | Gt => obtain ⟨i, j, rfl, rfl, rfl⟩ := two_int (f := fun a b => decide (b < a)) hk; cases ha; cases hb; exact gt_int hQ0
  | GtE => obtain ⟨i, j, rfl, rfl, rfl⟩ := two_int (f := fun a b => decide (b ≤ a)) hk; cases ha; cases hb; exact ge_int hQ0
  | Is => obtain ⟨rfl, h⟩ := on_none hk; cases hb; exact is_none_gen (by rw [isNone_by ha h]; exact hQ0)
  | IsNot =>
    obtain ⟨rfl, h⟩ := on_none hk
    obtain ⟨j, h2, rfl⟩ := flip h
    cases hb; exact isNot_none (by rw [isNone_by ha h2]; exact hQ0)
  | In => exact (in_by hu R ha hb hk).1 hQ
  | NotIn => obtain ⟨j, h, rfl⟩ := flip hk; exact (in_by hu R ha hb h).2 hQ
end
end Mine

namespace Mine
open PySem PyProof.Rows

noncomputable def isSl : PySem.Expr → Bool
  | .Slice .. => true
  | _ => false

section
variable {T : Tp} {A : Around} {β : List Addr} {σ : Store} {s : Shared}

theorem subscripted_plain {slice : PySem.Expr} (h : isSl slice = false) (o i : Value) : subscripted slice false o i = operate [o, i] (getItem o i) := by
  unfold subscripted
  split
  · cases h
  · rename_i hh; cases hh
  · rfl

theorem seqIndex_itemAt {α : Type} {vs : List α} {k : Int} {v : α} (h : itemAt vs k = some v) : ∃ j, seqIndex? k vs.length = some j ∧ vs[j]? = some v ∧ -(vs.length : Int) ≤ k ∧ k < vs.length ∧ j = (if k < 0 then k + vs.length else k).toNat := by
  unfold itemAt at h
  unfold seqIndex?
  split at h
  · rename_i h0
    have hl := (List.getElem?_eq_some_iff.mp h).1
    refine ⟨k.toNat, ?_, h, by omega, by omega, by rw [if_neg (by omega)]⟩
    simp only [show ¬ k < 0 from by omega, if_false]
    simp; omega
  · rename_i h0
    split at h
    · rename_i h1
      have hl := (List.getElem?_eq_some_iff.mp h).1
      refine ⟨(k + vs.length).toNat, ?_, h, by omega, by omega, by rw [if_pos (by omega)]⟩
      simp only [show k < 0 from by omega, if_true]
      simp; omega
    · cases h

theorem good_same (R : SR T β σ s) {t : Sem Value} {v : V} {x : Value} (hv : VR T s.heap β v x) (h : ∀ Q E, (∀ n, Q x { s with toks := n }) → wpAny (model T.prog T.w) A t Q E s) : Good T A β s (VRel T) t (.ok v σ) :=
  fun Q E hQ => h Q E fun n => hQ _ _ β (.tok n) (R.tok n) hv

theorem sizeMax_is : sizeMax = 1048576 := rfl

theorem good_idx (hT : T.Ok) (R : SR T β σ s) {value slice : PySem.Expr} (hsl : isSl slice = false) {a i : V} {x y : Value} (ha : VR T s.heap β a x) (hi : VR T s.heap β i y) :
    Good T A β s (VRel T) (subscriptTail value slice x y) (idxV T.ns a i σ) := by
  have hM := sizeMax_is
  unfold idxV
  split
  · cases ha; cases hi
    rename_i k _ t
    split
    · rename_i n hn
      split at hn
      · rename_i h0
        obtain ⟨vals, hl, hlen, hg⟩ := hT.script
        obtain ⟨u, hu⟩ := hg _ _ hn
        have hl' : s.heap.IsList T.sa vals.toArray := hl.at fun o e => R.base _ o e
        have hk := (List.getElem?_eq_some_iff.mp hn).1
        have := hT.scriptLen
        refine good_same R (.int n u) fun Q E hQ => tail_any hl'.typeIs list_getitem_lookup (wpAny_getItem_list hl' h0 (by omega) (by simpa using hu) (hQ s.toks)) (subscripted_plain hsl _ _)
      · cases hn
    · exact trivial
  · rename_i vs k
    cases hi
    cases ha with
    | tup ho hb hv hz =>
      rename_i vals n
      split
      · rename_i v hv'
        obtain ⟨j, h1, h2, h3, h4, _⟩ := seqIndex_itemAt hv'
        obtain ⟨z, hz', hr⟩ := hv.get h2
        have hlen := hv.length
        refine good_same R hr fun Q E hQ => item_tupleT ⟨_, ho, rfl, _, rfl⟩ (by omega) (by omega) (by rw [← hlen]; exact h1) hz' (hQ s.toks) (subscripted_plain hsl _ _)
      · exact trivial
  · rename_i j
    obtain ⟨l, rfl, hl⟩ := ha.refAt
    split
    · rename_i vs k hs
      cases hi
      split
      · rename_i v hv'
        obtain ⟨vals, hP, hv, hz⟩ := R.list hs hl
        have hL := hP.isList
        obtain ⟨j, h1, h2, h3, h4, h5⟩ := seqIndex_itemAt hv'
        obtain ⟨z, hz', hr⟩ := hv.get h2
        have hlen := hv.length
        refine good_same R hr fun Q E hQ => tail_any hL.typeIs list_getitem_lookup ?_ (subscripted_plain hsl _ _)
        by_cases h0 : 0 ≤ k
        · rw [if_neg (by omega)] at h5
          exact wpAny_getItem_list hL h0 (by omega) (by rw [← h5]; simpa using hz') (hQ s.toks)
        · rw [if_pos (by omega)] at h5
          refine wpAny_getItem_list_neg hL (by omega) (by simp; omega) (by omega) ?_ (hQ s.toks)
          have : (k + (vals.toArray.size : Int)).toNat = j := by rw [h5, hlen]; simp
          rw [this]; simpa using hz'
      · exact trivial
    · rename_i kvs k hs
      cases hi
      split
      · rename_i n hn
        obtain ⟨kv, hd, hp⟩ := R.cell _ _ _ hs hl
        obtain ⟨t, ht⟩ := hp.look.1 n hn
        exact good_same R (.int n t) fun Q E hQ => tail_any hd.typeIs slot_dict_getitem.lookup (wpAny_getItem_of (intKind_is _ _ _ _) hd.mapOf ht (hQ _)) (subscripted_plain hsl _ _)
      · exact trivial
    · rename_i kvs k hs
      cases hi
      split
      · rename_i n hn
        obtain ⟨kv, hd, hp⟩ := R.cell _ _ _ hs hl
        obtain ⟨t, ht⟩ := hp.look.1 n hn
        exact good_same R (.int n t) fun Q E hQ => tail_any hd.typeIs slot_dict_getitem.lookup (wpAny_getItem_of (strKind_is _ _ _ _) hd.mapOf ht (hQ _)) (subscripted_plain hsl _ _)
      · exact trivial
    · exact trivial
  · exact trivial

theorem good_len (hT : T.Ok) (R : SR T β σ s) {a : V} {x : Value} (ha : VR T s.heap β a x) : Good T A β s (VRel T) (call (.builtin "len") [x]) (lenV T.ns a σ) := by
  have hM := sizeMax_is
  have fin : ∀ {n : Nat} {t : Sem Value}, (∀ Q E, Q (.int n (s.toks + 1)) { s with toks := s.toks + 1 + 1 } → wpAny (model T.prog T.w) A t Q E s) → Good T A β s (VRel T) t (.ok (.int n) σ) :=
    fun h Q E hQ => h Q E (hQ _ _ β (.tok _) (R.tok _) (.int _ _))
  unfold lenV
  split
  · cases ha
    obtain ⟨vals, hl, hlen, hg⟩ := hT.script
    have hl' : s.heap.IsList T.sa vals.toArray := hl.at fun o e => R.base _ o e
    have := hT.scriptLen
    refine fin fun Q E h => PyProof.Rows.len_list hl' (by simp; omega) ?_
    simpa [hlen] using h
  · cases ha with
    | tup ho hb hv hz =>
      have hlen := hv.length
      refine fin fun Q E h => PyProof.Rows.len_tuple ⟨_, ho, rfl, _, rfl⟩ (by simp; omega) ?_
      simpa [hlen] using h
  · obtain ⟨l, rfl, hl⟩ := ha.refAt
    split
    · rename_i vs hs
      obtain ⟨vals, hP, hv, hz⟩ := R.list hs hl
      have hL := hP.isList
      have hlen := hv.length
      refine fin fun Q E h => PyProof.Rows.len_list hL (by simp; omega) ?_
      simpa [hlen] using h
    · rename_i kvs hs
      obtain ⟨kv, hd, hp⟩ := R.cell _ _ _ hs hl
      split
      · rename_i hz
        have hlen := hp.length
        refine fin fun Q E h => call_len_dict (R.notSys hl) hd (by omega) ?_
        simpa [hlen] using h
      · exact trivial
    · exact trivial
  · exact trivial
end
end Mine

namespace Mine
open PySem PyProof.Rows

section
variable {T : Tp} {A : Around} {β : List Addr} {σ : Store} {s : Shared}

theorem clip_pos {n : Nat} {a : Int} (h : 0 ≤ a) : clipAt n a = min a.toNat n := by
  unfold clipAt
  rw [if_neg (Int.not_lt.mpr h)]
  obtain ⟨m, rfl⟩ := Int.eq_ofNat_of_zero_le h
  show (max 0 (min (m : Int) (n : Int))).toNat = min m n
  rcases Nat.le_total m n with q | q
  · rw [Int.min_eq_left (Int.ofNat_le.mpr q), Nat.min_eq_left q, Int.max_eq_right h]; rfl
  · rw [Int.min_eq_right (Int.ofNat_le.mpr q), Nat.min_eq_right q, Int.max_eq_right (Int.natCast_nonneg _)]; rfl
theorem cut_pick (l : List Value) (lo hi : Option Int) (h0 : 0 ≤ lo.getD 0) (h1 : 0 ≤ hi.getD 0) : slicePick l.toArray lo hi none = (cut l lo hi).toArray := by
  rw [slicePick_plain]
  congr 1
  have hlo : lo.elim 0 (clipAt l.toArray.size) = min (lo.getD 0).toNat l.length := by
    cases lo with
    | none => simp
    | some a => exact clip_pos h0
  rw [hlo]
  unfold Mine.cut
  generalize (lo.getD 0).toNat = a at *
  have key : ∀ h : Nat, (l.drop (min a l.length)).take (min h l.length - min a l.length) = (l.take h).drop a := fun h => by
    by_cases hl : a ≤ l.length
    · rw [Nat.min_eq_left hl, List.drop_take, List.take_eq_take_iff, List.length_drop, Nat.sub_min_sub_right, Nat.sub_min_sub_right, Nat.min_assoc, Nat.min_self]
    · have hl' := Nat.le_of_lt (Nat.lt_of_not_le hl)
      rw [Nat.min_eq_right hl', List.drop_length, List.take_nil, List.drop_eq_nil_of_le (Nat.le_trans (List.length_take_le' ..) hl')]
  cases hi with
  | none =>
    have := key l.length
    rw [Nat.min_self, List.take_length] at this
    exact this
  | some h =>
    have hhi : clipAt l.length h = min h.toNat l.length := clip_pos h1
    simp only [Option.elim, List.size_toArray, hhi]
    exact key h.toNat

theorem VRs.cut {h : Heap} {vs : List V} {xs : List Value} (a : VRs T h β vs xs) (lo hi : Option Int) : VRs T h β (cut vs lo hi) (cut xs lo hi) := by
  unfold Mine.cut
  cases hi with
  | none => exact a.drop _
  | some h => exact (a.take _).drop _
theorem sliceCut {prog : Program} {w : World} {E : Value → Shared → Prop} {Q : Value → Shared → Prop} {value slice : PySem.Expr} {l : Addr} {vals : List Value} {vl vu : Value} {lo hi : Option Int}
    (hsl : ∃ a b p, slice = .Slice a b none p) (hL : s.heap.IsList l vals.toArray) (hz : vals.length ≤ sizeMax) (pl : IsPart vl lo) (pu : IsPart vu hi) (h0 : 0 ≤ lo.getD 0) (h1 : 0 ≤ hi.getD 0)
    (h : Q (.ref (s.heap.objs.size + 1)) { s with heap := (s.heap.push { cls := .type "slice", data := .fields #[vl, vu, .none] }).push { cls := .type "list", data := .seq (cut vals lo hi).toArray } }) :
    wpAny (model prog w) A (newFields "slice" [vl, vu, .none]) (fun i s' => wpAny (model prog w) A (subscriptTail value slice (.ref l) i) Q E s') E s := by
  obtain ⟨a, b, p, rfl⟩ := hsl
  refine wpAny_newObj_type ?_ (by show 3 ≤ sizeLine + 2; rw [sizeLine_eq]; omega)
  have hL' : Heap.IsList (s.heap.push { cls := .type "slice", data := .fields #[vl, vu, .none] }) l vals.toArray := hL.push _
  refine tail_any (Heap.IsList.typeIs (s := { s with heap := s.heap.push { cls := .type "slice", data := .fields #[vl, vu, .none] } }) hL') list_getitem_lookup
    (wpAny_getItem_list_slice (s := { s with heap := s.heap.push { cls := .type "slice", data := .fields #[vl, vu, .none] } }) hL' (Heap.IsSliceOf.new ..) pl pu .none (by simp) ?_ (by rw [List.size_toArray]; exact Nat.le_trans hz sizeMax_le)) rfl
  rw [cut_pick _ _ _ h0 h1]
  simpa using h

/-- a slice of a list -/
theorem good_slice (hT : T.Ok) (R : SR T β σ s) {value slice : PySem.Expr} (hsl : ∃ a b p, slice = .Slice a b none p) {a : V} {x vl vu : Value} {lo hi : Option Int} (ha : VR T s.heap β a x) (pl : IsPart vl lo) (pu : IsPart vu hi) :
    Gd T β s (VRel T) (fun Q E s => wpAny (model T.prog T.w) A (newFields "slice" [vl, vu, .none]) (fun i s' => wpAny (model T.prog T.w) A (subscriptTail value slice x i) Q E s') E s) (slV T.ns a lo hi σ) := by
  unfold slV
  split
  · rename_i hc
    have key : ∀ {l : Addr} {vals : List Value} {ws : List V}, s.heap.IsList l vals.toArray → vals.length ≤ sizeMax → VRs T s.heap β ws (cut vals lo hi) →
        Gd T β s (VRel T) (fun Q E s => wpAny (model T.prog T.w) A (newFields "slice" [vl, vu, .none]) (fun i s' => wpAny (model T.prog T.w) A (subscriptTail value slice (.ref l) i) Q E s') E s) (newL ws σ) := by
      intro l vals ws hL hz hw
      unfold newL
      split
      · rename_i hws
        intro Q E hQ
        refine sliceCut hsl hL hz pl pu hc.1 hc.2 ?_
        have hk : ∀ b o, s.heap.get? b = some o → (s.heap.push { cls := .type "slice", data := .fields #[vl, vu, .none] }).get? b = some o := fun b o e => Heap.get?_push_of_some _ e
        have R1 : SR T β σ { s with heap := s.heap.push { cls := .type "slice", data := .fields #[vl, vu, .none] } } := R.keeps hk
        obtain ⟨R', x', y'⟩ := good_laid (s := { s with heap := s.heap.push { cls := .type "slice", data := .fields #[vl, vu, .none] } }) (h' := (s.heap.push { cls := .type "slice", data := .fields #[vl, vu, .none] }).push { cls := .type "list", data := .seq (cut vals lo hi).toArray })
          (tk := s.toks) (c := 0) (vs := ws) (vals := cut vals lo hi) hT R1 (fun b o e => Heap.get?_push_of_some _ e) (Heap.get?_push_size _ rfl) (hw.mono (fun _ _ e => e) fun b o hb e => ⟨hk b o e, hb⟩) hws
        have := hQ _ _ _ ((Ext.keeps (s' := { s with heap := s.heap.push { cls := .type "slice", data := .fields #[vl, vu, .none] } }) hk rfl rfl).trans x') R' y'
        simpa using this
      · exact trivial
    split
    · cases ha
      obtain ⟨vals, hl, hlen, hg⟩ := hT.script
      have hl' : s.heap.IsList T.sa vals.toArray := hl.at fun o e => R.base _ o e
      have hv : VRs T s.heap β (T.ns.map .int) vals := by
        clear hl hl'
        generalize T.ns = ns at hlen hg
        induction ns generalizing vals with
        | nil => cases vals with | nil => exact .nil | cons => simp at hlen
        | cons n ns ih =>
          cases vals with
          | nil => simp at hlen
          | cons v vals =>
            obtain ⟨t, ht⟩ := hg 0 n rfl
            simp at ht; subst ht
            exact .cons (.int _ _) (ih vals (by simpa using hlen) fun k m hm => by simpa using hg (k + 1) m (by simpa using hm))
      have e : (cut T.ns lo hi).map V.int = cut (T.ns.map V.int) lo hi := by
        unfold cut; cases hi <;> simp
      rw [e]
      exact key hl' (by rw [hlen]; exact hT.scriptLen) (hv.cut lo hi)
    · obtain ⟨l, rfl, hl⟩ := ha.refAt
      split
      · rename_i vs hs
        obtain ⟨vals, hL, hv, hz⟩ := R.list hs hl
        exact key hL.isList (by rw [← hv.length]; exact hz) (hv.cut lo hi)
      · exact trivial
    · exact trivial
  · exact trivial

noncomputable def Ty.name : Ty → String
  | .int => "int" | .bool => "bool" | .list => "list" | .tuple => "tuple" | .str => "str"

theorem good_isinst (R : SR T β σ s) {a : V} {x : Value} (ha : VR T s.heap β a x) (t : Ty) : Good T A β s (VRel T) (call (.builtin "isinstance") [x, .type t.name]) (Mine.R.ofB (isinstV a t σ) σ) := by
  refine good_ofB R fun k hk Q E hQ => ?_
  have yes : ∀ {Tx Ty : String}, s.TypeIs x Tx → typeOf (.type Ty) = pure (.type "type") → isSubtype (.type Tx) (.type Ty) = pure true → Q (.bool true) s → wpAny (model T.prog T.w) A (call (.builtin "isinstance") [x, .type Ty]) Q E s :=
    fun h1 h2 h3 h4 => call_isinstance_yes h1 h2 h3 h4
  cases ha with
  | none =>
    cases t <;> (have hk := Option.some.inj hk; subst hk)
    · exact call_isinstance (isinstance_false_none (by decide +kernel) F.isi_meta_int F.sub_NoneType_int) (hQ _)
    · exact call_isinstance (isinstance_false_none (by decide +kernel) F.isi_meta_bool F.sub_NoneType_bool) (hQ _)
    · exact call_isinstance (isinstance_false_none (by decide +kernel) F.isi_meta_list F.sub_NoneType_list) (hQ _)
    · exact call_isinstance (isinstance_false_none (by decide +kernel) F.isi_meta_tuple F.sub_NoneType_tuple) (hQ _)
    · exact call_isinstance (isinstance_false_none (by decide +kernel) F.isi_meta_str F.sub_NoneType_str) (hQ _)
  | bool b =>
    cases t <;> (have hk := Option.some.inj hk; subst hk)
    · exact call_isinstance (isinstance_true (Tx := "bool") F.isi_meta_int F.sub_bool_int) ⟨rfl, hQ _⟩
    · exact call_isinstance (isinstance_true (Tx := "bool") F.isi_meta_bool F.sub_bool_bool) ⟨rfl, hQ _⟩
    · exact call_isinstance (isinstance_false_bool (by decide +kernel) F.isi_meta_list F.sub_bool_list) (hQ _)
    · exact call_isinstance (isinstance_false_bool (by decide +kernel) F.isi_meta_tuple F.sub_bool_tuple) (hQ _)
    · exact call_isinstance (isinstance_false_bool (by decide +kernel) F.isi_meta_str F.sub_bool_str) (hQ _)
  | int i u =>
    cases t <;> (have hk := Option.some.inj hk; subst hk)
    · exact call_isinstance (isinstance_true (Tx := "int") F.isi_meta_int F.sub_int_int) ⟨rfl, hQ _⟩
    · exact call_isinstance (isinstance_false_int (by decide +kernel) F.isi_meta_bool F.sub_int_bool) (hQ _)
    · exact call_isinstance (isinstance_false_int (by decide +kernel) F.isi_meta_list F.sub_int_list) (hQ _)
    · exact call_isinstance (isinstance_false_int (by decide +kernel) F.isi_meta_tuple F.sub_int_tuple) (hQ _)
    · exact call_isinstance (isinstance_false_int (by decide +kernel) F.isi_meta_str F.sub_int_str) (hQ _)
  | str y u ok =>
    cases t <;> (have hk := Option.some.inj hk; subst hk)
    · exact call_isinstance (isinstance_false_str (by decide +kernel) F.isi_meta_int F.sub_str_int) (hQ _)
    · exact call_isinstance (isinstance_false_str (by decide +kernel) F.isi_meta_bool F.sub_str_bool) (hQ _)
    · exact call_isinstance (isinstance_false_str (by decide +kernel) F.isi_meta_list F.sub_str_list) (hQ _)
    · exact call_isinstance (isinstance_false_str (by decide +kernel) F.isi_meta_tuple F.sub_str_tuple) (hQ _)
    · exact call_isinstance (isinstance_true (Tx := "str") F.isi_meta_str F.sub_str_str) ⟨rfl, hQ _⟩
  | scr => cases hk
  | fn e => cases hk
  | tup ho hb hv hz =>
    cases t <;> (have hk := Option.some.inj hk; subst hk)
    · exact call_isinstance (isinstance_false_tuple (by decide +kernel) F.isi_meta_int F.sub_tuple_int) ⟨⟨_, ho, rfl⟩, hQ _⟩
    · exact call_isinstance (isinstance_false_tuple (by decide +kernel) F.isi_meta_bool F.sub_tuple_bool) ⟨⟨_, ho, rfl⟩, hQ _⟩
    · exact call_isinstance (isinstance_false_tuple (by decide +kernel) F.isi_meta_list F.sub_tuple_list) ⟨⟨_, ho, rfl⟩, hQ _⟩
    · exact call_isinstance (isinstance_true (Tx := "tuple") F.isi_meta_tuple F.sub_tuple_tuple) ⟨⟨_, ho, rfl⟩, hQ _⟩
    · exact call_isinstance (isinstance_false_tuple (by decide +kernel) F.isi_meta_str F.sub_tuple_str) ⟨⟨_, ho, rfl⟩, hQ _⟩
  | ref e =>
    rename_i i _
    have hk : (match σ[i]? with | some (.list _) => some t.isList | _ => Option.none) = some k := hk
    split at hk
    · rename_i vs hs
      obtain ⟨vals, ⟨n, ho⟩, _⟩ := R.list hs e
      cases hk
      cases t
      · exact call_isinstance (isinstance_false_list (by decide +kernel) F.isi_meta_int F.sub_list_int) ⟨⟨_, ho, rfl⟩, hQ _⟩
      · exact call_isinstance (isinstance_false_list (by decide +kernel) F.isi_meta_bool F.sub_list_bool) ⟨⟨_, ho, rfl⟩, hQ _⟩
      · exact call_isinstance (isinstance_true (Tx := "list") F.isi_meta_list F.sub_list_list) ⟨⟨_, ho, rfl⟩, hQ _⟩
      · exact call_isinstance (isinstance_false_list (by decide +kernel) F.isi_meta_tuple F.sub_list_tuple) ⟨⟨_, ho, rfl⟩, hQ _⟩
      · exact call_isinstance (isinstance_false_list (by decide +kernel) F.isi_meta_str F.sub_list_str) ⟨⟨_, ho, rfl⟩, hQ _⟩
    · cases hk
end
end Mine

namespace Mine
open PySem PyProof.Rows

section
variable {T : Tp} {A : Around} {β : List Addr} {σ : Store} {s : Shared}

/-- list(x) of a list -/
theorem good_listOf (hT : T.Ok) (R : SR T β σ s) {i : Nat} {x : Value} (hx : VR T s.heap β (.ref i) x) {vs : List V} (hs : σ[i]? = some (.list vs)) : Good T A β s (VRel T) (call (.type "list") [x]) (newL vs σ) := by
  unfold newL
  split
  · rename_i hz
    intro Q E hQ
    obtain ⟨l, rfl, hl⟩ := hx.refAt
    obtain ⟨vals, ⟨n, ho⟩, hv, _⟩ := R.list hs hl
    refine call_list_seq l (.inl rfl) ho rfl rfl (fun h' c' hk ho' => ?_) (by rw [List.size_toArray, ← hv.length]; exact Nat.le_trans hz sizeMax_le)
    obtain ⟨R', x', y'⟩ := good_laid (tk := s.toks) hT R hk ho' hv hz
    exact hQ _ _ _ x' R' y'
  · exact trivial

theorem VRs.of_at {h : Heap} : ∀ {vs : List V} {xs : List Value}, vs.length = xs.length → (∀ (j : Nat) v x, vs[j]? = some v → xs[j]? = some x → VR T h β v x) → VRs T h β vs xs
  | [], [], _, _ => .nil
  | [], _ :: _, h, _ => by simp at h
  | _ :: _, [], h, _ => by simp at h
  | v :: vs, x :: xs, hl, ha => .cons (ha 0 v x rfl rfl) (VRs.of_at (by simpa using hl) fun j v x h1 h2 => ha (j + 1) v x (by simpa using h1) (by simpa using h2))

theorem rangeV_length (n : Nat) : (rangeV n).length = n := by simp [rangeV]
theorem rangeV_at {n j : Nat} {v : V} (h : (rangeV n)[j]? = some v) : v = .int (j : Int) ∧ j < n := by
  unfold rangeV at h
  rw [List.getElem?_map] at h
  cases hr : (List.range n)[j]? with
  | none => rw [hr] at h; cases h
  | some k =>
    rw [hr] at h
    obtain ⟨h1, h2⟩ := List.getElem?_eq_some_iff.mp hr
    simp at h1 h2
    cases h
    subst h2
    exact ⟨rfl, h1⟩

theorem range_small {n : Int} (h0 : 0 ≤ n) (h : n ≤ sizeMax) : Builtin.Range.small 0 n 1 = true ∧ Builtin.Range.rangeSize 0 n 1 = (n.toNat : Int) := by
  rw [sizeMax_is] at h
  have e : Builtin.Range.rangeSize 0 n 1 = (n.toNat : Int) := by
    unfold Builtin.Range.rangeSize
    simp only [show (1 : Int) > 0 from by decide, if_true]
    split <;> omega
  refine ⟨?_, e⟩
  unfold Builtin.Range.small
  rw [e]
  simp only [Builtin.Range.rangeFitsLong, show (1 : Int) > 0 from by decide, if_true, Bool.and_eq_true, Bool.or_eq_true, decide_eq_true_eq]
  omega

/-- list(range(n)) -/
theorem good_listRange (hh : A.handled = none) (hT : T.Ok) (R : SR T β σ s) {n : Int} {t : Tok} (h0 : 0 ≤ n) (hn : n ≤ sizeMax) :
    Gd T β s (VRel T) (fun Q E s => wpAny (model T.prog T.w) A (call (.type "range") [.int n t]) (fun r s' => wpAny (model T.prog T.w) A (call (.type "list") [r]) Q E s') E s) (newL (rangeV n.toNat) σ) := by
  unfold newL
  rw [rangeV_length, if_pos (by omega)]
  intro Q E hQ
  refine call_range_1 ?_
  have hk0 : ∀ b o, s.heap.get? b = some o → (s.heap.push { cls := .type "range", data := .fields #[.int 0 s.toks, .int n t, .int 1 (s.toks + 1)] }).get? b = some o := fun b o e => Heap.get?_push_of_some _ e
  have R1 : SR T β σ { s with heap := s.heap.push { cls := .type "range", data := .fields #[.int 0 s.toks, .int n t, .int 1 (s.toks + 1)] }, toks := s.toks + 1 + 1 } := R.keeps hk0
  refine call_list_range hh (Heap.get?_push_size _ rfl) (range_small h0 hn).1 (range_small h0 hn).2 (by rw [sizeMax_is] at hn; omega) fun h' tk acc c hk ho hI => ?_
  have hv : VRs T (s.heap.push { cls := .type "range", data := .fields #[.int 0 s.toks, .int n t, .int 1 (s.toks + 1)] }) β (rangeV n.toNat) acc.toList := by
    refine VRs.of_at (by rw [rangeV_length]; simp [hI.1]) fun j v x h1 h2 => ?_
    obtain ⟨rfl, hj⟩ := rangeV_at h1
    obtain ⟨u, rfl⟩ := hI.2 j x (by simpa using h2)
    have : (0 + (j : Int) * 1) = j := by omega
    rw [this]
    exact .int _ _
  obtain ⟨R', x', y'⟩ := good_laid (s := { s with heap := s.heap.push { cls := .type "range", data := .fields #[.int 0 s.toks, .int n t, .int 1 (s.toks + 1)] }, toks := s.toks + 1 + 1 }) (tk := tk) (vals := acc.toList) hT R1 hk (by simpa using ho) hv (by rw [rangeV_length]; omega)
  exact hQ _ _ _ ((Ext.keeps (s' := { s with heap := s.heap.push { cls := .type "range", data := .fields #[.int 0 s.toks, .int n t, .int 1 (s.toks + 1)] }, toks := s.toks + 1 + 1 }) hk0 rfl rfl).trans x') R' y'

theorem good_toInt (R : SR T β σ s) {b : Bool} : Good T A β s (VRel T) (call (.type "int") [.bool b]) (.ok (.int (if b then 1 else 0)) σ) :=
  good_int R fun _ _ h => call_int_bool h

/-- x.append(v) -/
theorem good_append (R : SR T β σ s) {a v : V} {x y : Value} (ha : VR T s.heap β a x) (hv : VR T s.heap β v y) : Good T A β s (fun _ _ _ z => z = Value.none) (call (.builtin "list.append") [x, y]) (appV a v σ) := by
  unfold appV
  split
  · obtain ⟨l, rfl, hl⟩ := ha.refAt
    split
    · rename_i vs hs
      split
      · rename_i hz
        intro Q E hQ
        obtain ⟨vals, hL, hr, _⟩ := R.list hs hl
        refine wpAny_list_append_plain hL (fun h' hL' hsb => ?_) (by rw [List.size_toArray, ← hr.length]; exact Nat.le_trans (Nat.le_of_lt hz) sizeMax_le)
        have hm : l ∈ β := List.mem_of_getElem? hl
        obtain ⟨R', x'⟩ := R.turn (s' := { s with heap := h' }) (c := .list (vs ++ [v])) hl hsb ⟨vals ++ [y], by simpa using hL', (hr.append (.cons hv .nil)).mono (fun _ _ e => e) (fun b o hb e => ⟨(hsb.2 b (fun q => hb (q ▸ hm))).trans e, hb⟩), by simp; omega⟩ rfl rfl
        exact hQ _ _ _ x' R' rfl
      · exact trivial
    · exact trivial
  · exact trivial

theorem IntPairs.put {K : Type} [DecidableEq K] {k : K} {n : Int} {t : Tok} : ∀ {kvs : List (K × Int)} {kvals : List (K × Value)}, IntPairs kvs kvals → (kvals.map (·.1)).Nodup → IntPairs (Mine.put k n kvs) (stored kvals k (.int n t))
  | _, _, .nil, _ => by simp [Mine.put, stored]; exact .cons .nil
  | _, _, .cons (k := j) (i := i) (t := u) (kvs := kvs) (kvals := kvals) r, hnd => by
    have hnd' : (kvals.map (·.1)).Nodup := (List.nodup_cons.mp hnd).2
    have hnj : j ∉ kvals.map (·.1) := (List.nodup_cons.mp hnd).1
    by_cases h : j = k
    · subst h
      have e : stored ((j, Value.int i u) :: kvals) j (.int n t) = (j, .int n t) :: kvals := by
        unfold stored
        rw [if_pos (by simp)]
        simp only [List.map_cons, if_true]
        congr 1
        conv => rhs; rw [← List.map_id kvals]
        refine List.map_congr_left fun p hp => ?_
        rw [if_neg (fun (q : p.1 = j) => hnj (q ▸ List.mem_map_of_mem hp))]; rfl
      rw [e]
      simp only [Mine.put, if_true]
      exact .cons r
    · have e : stored ((j, Value.int i u) :: kvals) k (.int n t) = (j, .int i u) :: stored kvals k (.int n t) := by
        unfold stored
        simp only [List.any_cons, h, decide_false, Bool.false_or]
        split <;> simp [h]
      rw [e]
      simp only [Mine.put, h, if_false]
      exact .cons (IntPairs.put r hnd')

/-- a place of a plain list is written: the road through the type's own slot -/
theorem put_plain {prog : Program} {w : World} {A : Around} {E : Value → Shared → Prop} {s : Shared} {l : Addr} {vals : List Value} {c : Nat} {k : Int} {t : Tok} {z : Value} {Q : Unit → Shared → Prop}
    (ho : s.heap.get? l = some { cls := .type "list", dict := none, data := .seq vals.toArray c, slots := #[] }) (h0 : 0 ≤ k) (hk : k < vals.length) (hf : k < 2 ^ 63)
    (hQ : Q () { s with heap := s.heap.update l (Obj.mapSeq (·.setIfInBounds k.toNat z)) }) : wpAny (model prog w) A (setItem (.ref l) (.int k t) z) Q E s := by
  have ty : s.TypeIs (.ref l) "list" := ⟨_, ho, rfl⟩
  unfold setItem
  refine wpAny_holding (wpAny_bind (wpAny_sequenceKey ty (by decide) (wpAny_bind (wpAny_callSpecial?_slot ty slot_list_setitem (wpAny_call_entry slot_list_setitem ty entry_list_setitem ?_ (args_list_setitem _ _ _))))))
  show wpAny _ _ (Builtin.List.listSubscript? (.int k t) >>= _) _ _ s
  refine wpAny_bind (wpAny_listSubscript_int (fitsIndex_of h0 hf) ?_)
  clear hf
  obtain ⟨j, rfl⟩ := Int.eq_ofNat_of_zero_le h0
  have hj : j < vals.length := by omega
  have at0 : vals.toArray[j]? = some vals[j] := by simp [hj]
  show wpAny _ _ ((seqItemAt l j >>= fun r => pure (r.map (j, ·))) >>= _) _ _ s
  refine wpAny_bind (wpAny_bind (wpAny_seqItemAt ho rfl (wpAny_pure ?_)))
  rw [at0]
  show wpAny _ _ (setSeqItemAt l j z >>= _) _ _ s
  refine wpAny_bind (wpAny_setSeqItemAt ho rfl ?_)
  first
    | exact wpAny_pure ⟨.none, rfl, wpAny_pure hQ⟩
    | exact wpAny_bind (wpAny_pure (wpAny_pure ⟨.none, rfl, wpAny_pure hQ⟩))

/-- x[i] = v -/
theorem good_setItem (R : SR T β σ s) {a i v : V} {x y z : Value} (ha : VR T s.heap β a x) (hi : VR T s.heap β i y) (hv : VR T s.heap β v z) : Good T A β s (fun _ _ _ (_ : Unit) => True) (setItem x y z) (setV a i v σ) := by
  have hM := sizeMax_is
  unfold setV
  split
  · obtain ⟨l, rfl, hl⟩ := ha.refAt
    have hm : l ∈ β := List.mem_of_getElem? hl
    split
    · rename_i vs k hs
      cases hi
      split
      · rename_i hc
        intro Q E hQ
        obtain ⟨vals, hL, hr, hz⟩ := R.list hs hl
        have hlen := hr.length
        obtain ⟨nn, hL⟩ := hL
        obtain ⟨j, rfl⟩ := Int.eq_ofNat_of_zero_le hc.1
        refine put_plain hL hc.1 (by omega) (by omega) ?_
        generalize hk : ((j : Int)).toNat = k0 at *
        have hk0 : j = k0 := by omega
        subst hk0
        generalize hh' : s.heap.update l (Obj.mapSeq (·.setIfInBounds j z)) = h'
        have hsb : Heap.SameBut l s.heap h' := hh' ▸ Heap.SameBut.update ..
        have hL' : h'.PlainList l (vals.set j z).toArray := ⟨nn, by
          rw [← hh', Heap.get?_update_self _ hL (by rfl)]
          simp [Obj.mapSeq]⟩
        obtain ⟨R', x'⟩ := R.turn (s' := { s with heap := h' }) (c := .list (vs.set j v)) hl hsb ⟨_, hL', (hr.set j hv).mono (fun _ _ e => e) (fun b o hb e => ⟨(hsb.2 b (fun q => hb (q ▸ hm))).trans e, hb⟩), by simp; omega⟩ rfl rfl
        exact hQ _ _ _ x' R' trivial
      · exact trivial
    · rename_i kvs k hs
      cases hi
      split
      · rename_i n
        cases hv
        split
        · rename_i hz
          intro Q E hQ
          obtain ⟨kv, hd, hp⟩ := R.cell _ _ _ hs hl
          have hnd : (kv.map (·.1)).Nodup := by obtain ⟨ep, o, es, _, _, _, _, _, h⟩ := hd.dictAt; exact h
          refine wpAny_setItem_pairs (intKind_is _ _ _ _) hd (fun h' hd' hsb => ?_) (by rw [← hp.length]; exact Nat.le_trans (Nat.le_of_lt hz) sizeMax_le)
          obtain ⟨R', x'⟩ := R.turn (s' := { s with heap := h', toks := s.toks + 1 }) (c := .dictI (Mine.put k n kvs)) hl hsb ⟨_, hd', hp.put hnd⟩ rfl rfl
          exact hQ _ _ _ x' R' trivial
        · exact trivial
      · exact trivial
    · exact trivial
  · exact trivial

end
end Mine

set_option maxRecDepth 100000
namespace Mine
open PySem PyProof.Rows

/-- reversed(list): its type's facts -/
theorem rv_next : Slot "list_reverseiterator" "__next__" "list_reverseiterator.__next__" :=
  .of (owner := "list_reverseiterator") (n := "__next__") (by rw [typeLookup_type, builtinLookup_eq_fast]; kernel_rfl) (by decide +kernel) (by decide +kernel) (by decide +kernel) (by first | exact .inl (by decide +kernel) | exact .inr (by decide +kernel)) (by rw [isSubtype_type]; kernel_rfl)
theorem rv_next_entry : entryFor table "list_reverseiterator.__next__" = some Builtin.«list_reverseiterator.__next__» := entryFor_of_fast (by kernel_rfl)
theorem rv_next_args (a : Value) : argsOk "list_reverseiterator.__next__" ⟨[a], []⟩ := by unfold argsOk; kernel_rfl
theorem rv_iter : Slot "list_reverseiterator" "__iter__" "list_reverseiterator.__iter__" :=
  .of (owner := "list_reverseiterator") (n := "__iter__") (by rw [typeLookup_type, builtinLookup_eq_fast]; kernel_rfl) (by decide +kernel) (by decide +kernel) (by decide +kernel) (by first | exact .inl (by decide +kernel) | exact .inr (by decide +kernel)) (by rw [isSubtype_type]; kernel_rfl)
theorem rv_iter_args (a : Value) : argsOk "list_reverseiterator.__iter__" ⟨[a], []⟩ := by unfold argsOk; kernel_rfl
theorem rv_nolen : typeLookup (.type "list_reverseiterator") "__len__" = pure none := by rw [typeLookup_type, builtinLookup_eq_fast]; kernel_rfl
theorem rv_hint : typeLookup (.type "list_reverseiterator") "__length_hint__" = pure (some (.builtin "list_reverseiterator.__length_hint__")) := by rw [typeLookup_type, builtinLookup_eq_fast]; kernel_rfl
theorem rv_mro : mroOf (.type "reversed") = pure [.type "reversed", .type "object"] := by rw [mroOf_type]; kernel_rfl
theorem rv_made : Bind.madeBy (.type "reversed") = pure (some "reversed.__new__") := madeBy_type rv_mro (by rw [typeLookup_type, builtinLookup_eq_fast]; kernel_rfl) (by decide +kernel)
theorem rv_new_entry : entryFor table "reversed.__new__" = some Builtin.«reversed.__new__» := entryFor_of_fast (by kernel_rfl)
theorem rv_new_plain : plainId "reversed.__new__" = true := by decide +kernel
theorem rv_iter_entry : entryFor table "list_reverseiterator.__iter__" = some Builtin.«dict_keyiterator.__iter__» :=
  entryFor_alias (id' := "dict_keyiterator.__iter__") (by kernel_rfl) (by first | rfl | decide +kernel) (by decide +kernel) (by kernel_rfl)
theorem rv_sub : isSubtype (.type "list_reverseiterator") (.type "reversed") = pure false := by rw [isSubtype_type]; kernel_rfl
theorem rv_sub_self : isSubtype (.type "reversed") (.type "reversed") = pure true := by rw [isSubtype_type]; kernel_rfl
theorem rv_class (a : Value) : Builtin.SmallTypes.newClass "reversed" ⟨[.type "reversed", a], []⟩ = pure (.type "reversed", [a]) := by
  simp only [Builtin.SmallTypes.newClass, isType, rv_sub_self, pure_bind, Bool.not_true, Bool.false_eq_true, if_false]

section
variable {prog : Program} {w : World} {A : Around} {E : Value → Shared → Prop} {s : Shared}

noncomputable def revO (l : Addr) (i : Int) : Obj := { cls := .type "list_reverseiterator", data := .fields #[.ref l, rawInt i] }

/-- list.__reversed__ -/
theorem rv_of_list {l : Addr} {items : Array Value} {Q : Value → Shared → Prop} (hl : s.heap.IsList l items)
    (h : Q (.ref s.heap.objs.size) { s with heap := s.heap.push (revO l ((items.size : Int) - 1)) }) : wpAny (model prog w) A (call (.builtin "list.__reversed__") [.ref l]) Q E s := by
  obtain ⟨o, ho, hc, n, hd⟩ := id hl
  refine wpAny_call_entry F.slot_list_reversed hl.typeIs F.entry_list_reversed ?_ (F.args_list_reversed_1 _)
  unfold Builtin.«list.__reversed__»
  exact wpAny_bind (wpAny_of_eq (a := Value.ref l) rfl (wpAny_bind (wpAny_listItems ho hd (wpAny_bind (wpAny_newObj_type (wpAny_pure ⟨_, rfl, h⟩))))))

end
end Mine

set_option maxRecDepth 100000
namespace Mine
open PySem PyProof.Rows
section
variable {prog : Program} {w : World} {A : Around} {E : Value → Shared → Prop} {s : Shared}

/-- reversed(list) -/
theorem rv_new {l : Addr} {items : Array Value} {Q : Value → Shared → Prop} (hl : s.heap.IsList l items)
    (h : Q (.ref s.heap.objs.size) { s with heap := s.heap.push (revO l ((items.size : Int) - 1)) }) :
    codeAny (model prog w) A (.call (.builtin "reversed.__new__") ⟨[.type "reversed", .ref l], []⟩) (wants Q E) s := by
  refine codeAny_of_tree ?_
  show wpAny _ A.in1 (do checkBuiltinCall "reversed.__new__" ⟨[.type "reversed", .ref l], []⟩; again (.builtin "reversed.__new__" ⟨[.type "reversed", .ref l], []⟩)) _ _ s
  refine wpAny_bind (wpAny_of_eq (a := ()) (by kernel_rfl) (wpAny_pure ⟨plainId_quiet rv_new_plain _, codeAny_builtin rv_new_entry ?_⟩))
  rw [Around.under_plainId rv_new_plain _]
  unfold Builtin.«reversed.__new__»
  refine wpAny_bind (wpAny_of_eq (rv_class _) ?_)
  refine wpAny_bind (wpAny_of_eq (a := ()) rfl ?_)
  refine wpAny_bind (wpAny_of_eq (a := ()) rfl ?_)
  refine wpAny_bind (wpAny_specialOf hl.typeIs F.slot_list_reversed.lookup ?_)
  refine wpAny_bind (wpAny_of_eq (F.slot_list_reversed.bind _) ?_)
  show wpAny _ _ (if (Value.builtin "list.__reversed__" == Value.none) = true then _ else _) _ _ s
  rw [if_neg (show ¬ ((Value.builtin "list.__reversed__" == Value.none) = true) from Bool.false_ne_true)]
  refine wpAny_bind (wpAny_rule (wpAny_bind ?_))
  show wpAny _ _ (call (.builtin "list.__reversed__") [.ref l]) _ _ s
  exact rv_of_list hl (wpAny_pure h)

theorem rv_call {l : Addr} {items : Array Value} {Q : Value → Shared → Prop} (hl : s.heap.IsList l items)
    (h : Q (.ref s.heap.objs.size) { s with heap := s.heap.push (revO l ((items.size : Int) - 1)) }) : wpAny (model prog w) A (call (.type "reversed") [.ref l]) Q E s := by
  refine wpAny_call (codeAny_of_tree ?_)
  show wpAny _ _ (callAny (.type "reversed") _) _ _ _
  refine wpAny_pure ⟨Code.quiet_builtin _ (by decide +kernel), codeAny_builtin F.entry_type_call ?_⟩
  rw [Around.under_plain (weight_type_call_type "reversed" [.ref l] []) rfl]
  have hmro := rv_mro
  have hmade := rv_made
  have hsub := rv_sub
  have hct : checkTypeCall "reversed" ⟨[.ref l], []⟩ = pure () := by kernel_rfl
  repeat (any_goals (first | assumption | wp_step))
  refine codeAny_mono (rv_new (E := E) (Q := fun v s' => v = .ref s.heap.objs.size ∧ s' = { s with heap := s.heap.push (revO l ((items.size : Int) - 1)) }) hl ⟨rfl, rfl⟩) fun r s₁ hr => ?_
  cases r with
  | error e => exact hr
  | ok fl =>
    cases fl with
    | ret v =>
      obtain ⟨rfl, rfl⟩ := hr
      refine wpAny_bind (wpAny_isInstance (T := "list_reverseiterator") (b := false) ⟨_, Heap.get?_push_size _ rfl, rfl⟩ rv_sub ?_)
      exact wpAny_bind (wpAny_rule (wpAny_pure h))
    | _ => exact hr.elim

/-- what is left of a reversed list: its first k items -/
noncomputable def RevIt (h : Heap) (I l : Addr) (k : Nat) : Prop := h.get? I = some (revO l ((k : Int) - 1))

theorem rv_item {I l : Addr} {k : Nat} {items : Array Value} {x : Value} {Q : Option Value → Shared → Prop} (hI : RevIt s.heap I l (k + 1)) (hl : s.heap.IsList l items) (hx : items[k]? = some x)
    (hQ : ∀ h', RevIt h' I l k → Heap.SameBut I s.heap h' → Q (some x) { s with heap := h' }) : wpAny (model prog w) A (pyNext (.ref I)) Q E s := by
  have hI' : s.heap.get? I = some (revO l (k : Int)) := by rw [hI]; congr 1; congr 1; omega
  have ty : s.TypeIs (.ref I) "list_reverseiterator" := ⟨_, hI', rfl⟩
  obtain ⟨ol, hol, _, nl, hdl⟩ := hl
  unfold pyNext
  refine wpAny_bind (wpAny_attempt (wpAny_callSpecial?_slot (name := Str.ofString "__next__") ty rv_next (wpAny_call_entry rv_next ty rv_next_entry ?_ (rv_next_args _))))
  unfold Builtin.«list_reverseiterator.__next__»
  refine wpAny_bind (wpAny_of_eq (a := (Value.ref I, [])) rfl ?_)
  refine wpAny_bind (wpAny_field hI' rfl (x := rawInt (k : Int)) rfl ?_)
  show wpAny _ _ (if (k : Int) < 0 then _ else _) _ _ s
  rw [if_neg (by omega)]
  show wpAny _ _ (field (.ref I) 0 >>= _) _ _ s
  refine wpAny_bind (wpAny_field hI' rfl (x := .ref l) rfl ?_)
  show wpAny _ _ (seqItems? (.ref l) >>= _) _ _ s
  refine wpAny_bind (wpAny_seqItems hol hdl ?_)
  simp only [Int.toNat_natCast, hx]
  refine wpAny_bind (wpAny_setField hI' rfl (Nat.lt_succ_self 1) (wpAny_pure ⟨x, rfl, wpAny_pure (hQ _ ?_ (Heap.SameBut.update ..))⟩))
  exact Heap.get?_update_self _ hI' rfl

theorem rv_end {I l : Addr} {Q : Option Value → Shared → Prop} (hh : A.handled = none) (hI : RevIt s.heap I l 0) (hQ : ∀ h', Heap.ExtBut I s.heap h' → Q none { s with heap := h' }) : wpAny (model prog w) A (pyNext (.ref I)) Q E s := by
  have ty : s.TypeIs (.ref I) "list_reverseiterator" := ⟨_, hI, rfl⟩
  unfold pyNext
  refine wpAny_bind (wpAny_attempt (wpAny_callSpecial?_slot (name := Str.ofString "__next__") ty rv_next (wpAny_call_entry rv_next ty rv_next_entry ?_ (rv_next_args _))))
  unfold Builtin.«list_reverseiterator.__next__»
  refine wpAny_bind (wpAny_of_eq (a := (Value.ref I, [])) rfl ?_)
  refine wpAny_bind (wpAny_field hI rfl (x := rawInt (((0 : Nat) : Int) - 1)) rfl ?_)
  show wpAny _ _ (if ((0 : Nat) : Int) - 1 < 0 then _ else _) _ _ s
  rw [if_pos (by decide)]
  refine wpAny_bind (wpAny_rule (wpAny_bind ?_))
  show wpAny _ _ (newExc (.type "StopIteration") [] >>= _) _ _ _
  refine wpAny_bind ?_
  simp only [newExc, newTuple]
  refine wpAny_bind (wpAny_newObj_type ?_ (by size_fits))
  refine wpAny_bind (m := firstArgMember _ _) (wpAny_of_eq (a := Value.none) rfl ?_)
  refine wpAny_newObj_type ?_ (by size_fits)
  simp only [raiseNew]
  refine wpAny_bind (wpAny_handled ?_)
  rw [show A.in1.handled = none from hh]
  refine wpAny_bind (wpAny_pure (wpAny_throw ?_))
  refine wpAny_bind (wpAny_isInstance (T := "StopIteration") (b := true) ⟨_, Heap.get?_push_size _ rfl, rfl⟩ isSubtype_stop ?_)
  exact wpAny_pure (hQ _ (((Heap.ExtBut.refl _ _).push _).push _))

theorem rv_self {I l : Addr} {k : Nat} {Q : Value → Shared → Prop} (hI : RevIt s.heap I l k) (h : Q (.ref I) s) : wpAny (model prog w) A (pyIter (.ref I)) Q E s := by
  have ty : s.TypeIs (.ref I) "list_reverseiterator" := ⟨_, hI, rfl⟩
  refine wpAny_pyIter_slot ty rv_iter (wpAny_call_entry rv_iter ty rv_iter_entry ?_ (rv_iter_args _))
  show wpAny _ _ (ret (.ref I)) _ _ s
  exact wpAny_pure ⟨_, rfl, "list_reverseiterator", _, ty, rv_next.lookup, h⟩

theorem rv_walks (hh : A.handled = none) (I l : Addr) (hne : l ≠ I) (items : Array Value) :
    Walks prog w A I [I, l] [I] items.size (fun i v => items[items.size - 1 - i]? = some v) (fun i h => i ≤ items.size ∧ RevIt h I l (items.size - i) ∧ h.IsList l items) where
  sub := fun b hb => List.mem_cons.mpr (.inl (List.mem_singleton.mp hb))
  frame := fun _ _ _ x hk => ⟨x.1, hk I List.mem_cons_self _ x.2.1, x.2.2.at fun o e => hk l (List.mem_cons_of_mem _ List.mem_cons_self) o e⟩
  item := fun i s Q E hi x hQ => by
    have hk : items.size - i = (items.size - 1 - i) + 1 := by omega
    have hx : items[items.size - 1 - i]? = some (items[items.size - 1 - i]'(by omega)) := Array.getElem?_eq_getElem (by omega)
    have hI := x.2.1
    rw [hk] at hI
    refine rv_item hI x.2.2 hx fun h' hI' hs => hQ _ h' s.toks hx ⟨hi, ?_, x.2.2.at fun o eo => (hs.2 l hne).trans eo⟩ fun b o hb eo => hs.extBut b o (fun h => hb (List.mem_singleton.mpr h)) eo
    rw [show items.size - (i + 1) = items.size - 1 - i by omega]; exact hI'
  done := fun s Q E x hQ => by
    have hI := x.2.1
    rw [Nat.sub_self] at hI
    exact rv_end hh hI fun h' he => hQ h' s.toks fun b o hb eo => he b o (fun h => hb (List.mem_singleton.mpr h)) eo
  self := fun _ _ _ _ x hQ => rv_self x.2.1 hQ

/-- a list's part that lays the reversed items -/
theorem rv_extend {R : Result → Shared → Prop} {I l S : Addr} {items : Array Value} {c₀ : Nat} (hh : A.handled = none) (hI : RevIt s.heap I l items.size) (hl : s.heap.IsList l items) (hz : items.size ≤ sizeLine) (hS : s.heap.get? S = some { cls := .type "list", data := .seq #[] c₀ }) (hSl : S ≠ l)
    (hR : ∀ s' acc c, Moved [S, I] (fun a b => b = a) s s' → s'.heap.get? S = some { cls := .type "list", dict := none, data := .seq acc c, slots := #[] } → ItemsOf (fun i v => items[items.size - 1 - i]? = some v) acc items.size → R (.ok (.ret .none)) s') :
    wpAny (model prog w) A.in1 (Builtin.List.listExtendWith (.ref S) (.ref I) .none)
      (fun fin s' => match fin with | .done f => R (.ok f) s' | .again c' => c'.quiet = true ∧ codeAny (model prog w) A c' R s') (fun e s' => R (.error e) s') s := by
  have ty : s.TypeIs (.ref I) "list_reverseiterator" := ⟨_, hI, rfl⟩
  have hSI : S ≠ I := fun e => by rw [e, hI] at hS; simp [revO] at hS
  have hIl : l ≠ I := fun e => by obtain ⟨o, ho, hc, _⟩ := hl; rw [e, hI] at ho; cases ho; simp [revO] at hc
  have h1 : Builtin.List.listSameRef (.ref S) (.ref I) = false := by simp [Builtin.List.listSameRef, hSI]
  unfold Builtin.List.listExtendWith
  refine wpAny_bind (wpAny_typeOf ty ?_)
  rw [if_neg (by rw [h1]; decide)]
  refine wpAny_bind (rv_self hI ?_)
  refine wpAny_bind (wpAny_holding ?_)
  unfold Builtin.List.listLengthHint
  refine wpAny_bind (wpAny_specialOf ty rv_nolen ?_)
  show wpAny _ A.in1 (specialOf (Value.ref I) (Str.ofString "__length_hint__") >>= _) _ _ _
  refine wpAny_bind (wpAny_specialOf ty rv_hint ?_)
  generalize hid : ("list_reverseiterator.__length_hint__" : String) = id0
  wp_delta
  rw [show splitId id0 = some ("list_reverseiterator", "__length_hint__") from by subst hid; decide +kernel]
  subst hid
  refine wpAny_bind (wpAny_isInstance (b := true) ty (by rw [isSubtype_type]; kernel_rfl) ?_)
  refine wpAny_pure ?_
  rw [if_neg (by decide)]
  exact wpAny_pure ⟨plainId_quiet F.plain_extend_loop _, codeAny_extend_loopS (rv_walks (A := A.in1) hh I l hIl items).toS hz S (fun h => by rcases List.mem_cons.mp h with h | h; exact hSI h; exact hSl (List.mem_singleton.mp h)) _ items.size 0 _ _ _ rfl (Nat.zero_le _)
    ⟨Nat.zero_le _, hI, hl⟩ hS (ItemsOf.nil _) hR⟩

/-- list(reversed(l)) behind reversed(l) -/
theorem rv_list {Q : Value → Shared → Prop} {I l : Addr} {items : Array Value} (hh : A.handled = none) (hI : RevIt s.heap I l items.size) (hl : s.heap.IsList l items) (hz : items.size ≤ sizeLine)
    (hQ : ∀ h' tk acc c, (∀ b o, b ≠ I → s.heap.get? b = some o → h'.get? b = some o) → h'.get? s.heap.objs.size = some { cls := .type "list", dict := none, data := .seq acc c, slots := #[] } → ItemsOf (fun i v => items[items.size - 1 - i]? = some v) acc items.size → Q (.ref s.heap.objs.size) { s with heap := h', toks := tk }) :
    wpAny (model prog w) A (call (.type "list") [.ref I]) Q E s := by
  refine callType_codes (Q₁ := fun obj s₁ => obj = .ref s.heap.objs.size ∧ s₁ = { s with heap := s.heap.push { cls := .type "list", data := .seq #[] } }) F.called_list (F.typeCall_list_1 _) F.entry_list_init (code_list_new _ ⟨rfl, rfl⟩) fun obj s₁ h₁ => ?_
  obtain ⟨rfl, rfl⟩ := h₁
  have hS : (s.heap.push { cls := .type "list", data := .seq #[] }).get? s.heap.objs.size = some { cls := .type "list", data := .seq #[] } := Heap.get?_push_size _ rfl
  have hlt : ∀ b o, s.heap.get? b = some o → b ≠ s.heap.objs.size := fun b o e => Nat.ne_of_lt (Heap.lt_size e)
  refine ⟨⟨_, hS, rfl⟩, F.args_list_init_2 _ _, ?_⟩
  generalize hD : s.heap.objs.size = D at *
  show wpAny _ _ (do let old ← Builtin.List.listItems (.ref D); Builtin.List.listUpdate (.ref D) (fun _ => #[]); letGo old.toList.reverse; Builtin.List.listExtendWith (.ref D) (.ref I) .none) _ _ _
  refine wpAny_bind ?_
  unfold Builtin.List.listItems
  refine wpAny_bind (wpAny_seqItems hS rfl (wpAny_pure ?_))
  show wpAny _ _ (updateSeq D (fun _ => #[]) >>= fun _ => letGo (#[] : Array Value).toList.reverse >>= fun _ => Builtin.List.listExtendWith (.ref D) (.ref I) .none) _ _ _
  refine wpAny_bind (wpAny_updateSeq hS rfl ?_)
  have oth : ∀ b o, s.heap.get? b = some o → ((s.heap.push { cls := .type "list", data := .seq #[] }).update D (Obj.mapSeq (fun _ => (#[] : Array Value)))).get? b = some o :=
    fun b o e => (Heap.get?_update_other _ _ (Ne.symm (hlt b o e))).trans (Heap.get?_push_of_some _ e)
  refine wpAny_bind (wpAny_letGo ?_)
  refine rv_extend (A := A.in1) hh (oth I _ hI) (hl.at fun o e => oth l o e) hz (Heap.get?_update_self _ hS rfl) (fun e => by obtain ⟨o, ho, _⟩ := hl; exact hlt l o ho e.symm) fun s' acc c hm hS' hacc => ⟨rfl, ?_⟩
  have e' : s' = { s with heap := s'.heap, toks := s'.toks } := by
    obtain ⟨h', g', d', tk', os'⟩ := s'
    have e1 : g' = s.gens := hm.gens
    have e2 : d' = s.drawn := hm.drawn
    have e3 : os' = s.os := hm.os
    subst e1 e2 e3; rfl
  rw [e']
  refine hQ s'.heap s'.toks acc c (fun b o hb e => hm.heap b o (fun h => ?_) (oth b o e)) hS' hacc
  rcases List.mem_cons.mp h with h | h
  · exact hlt b o e h
  · exact hb (List.mem_singleton.mp h)
end

section
variable {T : Tp} {A : Around} {β : List Addr} {σ : Store} {s : Shared}
/-- list(reversed(x)) -/
theorem good_listRev (hh : A.handled = none) (hT : T.Ok) (R : SR T β σ s) {i : Nat} {x : Value} (hx : VR T s.heap β (.ref i) x) {vs : List V} (hs : σ[i]? = some (.list vs)) :
    Gd T β s (VRel T) (fun Q E s => wpAny (model T.prog T.w) A (call (.type "reversed") [x]) (fun r s' => wpAny (model T.prog T.w) A (call (.type "list") [r]) Q E s') E s) (newL vs.reverse σ) := by
  unfold newL
  split
  · rename_i hz
    intro Q E hQ
    obtain ⟨l, rfl, hl⟩ := hx.refAt
    obtain ⟨vals, hL, hv, hz0⟩ := R.list hs hl
    refine rv_call hL.isList ?_
    have hk0 : ∀ b o, s.heap.get? b = some o → (s.heap.push (revO l ((vals.toArray.size : Int) - 1))).get? b = some o := fun b o e => Heap.get?_push_of_some _ e
    have R1 : SR T β σ { s with heap := s.heap.push (revO l ((vals.toArray.size : Int) - 1)) } := R.keeps hk0
    obtain ⟨_, _, g3, _⟩ := R.fresh hT
    obtain ⟨f1, f2, f3, f4⟩ := R1.fresh hT
    refine rv_list (l := l) (items := vals.toArray) hh (Heap.get?_push_size _ rfl) (hL.isList.at fun o e => hk0 l o e) (by rw [List.size_toArray, ← hv.length]; exact Nat.le_trans hz0 sizeMax_le) fun h' tk acc c hk ho hI => ?_
    have hk1 : ∀ b o, s.heap.get? b = some o → h'.get? b = some o := fun b o e => hk b o (fun q => by rw [q, g3] at e; cases e) (hk0 b o e)
    have hsz : acc.toList.length = vs.length := by rw [Array.length_toList, hI.1, List.size_toArray, hv.length]
    have hw : VRs T s.heap β vs.reverse acc.toList := by
      refine VRs.of_at (by rw [List.length_reverse, hsz]) fun j v y h1 h2 => ?_
      have hj : j < vs.length := by have := (List.getElem?_eq_some_iff.mp h1).1; rwa [List.length_reverse] at this
      rw [List.getElem?_reverse hj] at h1
      have h3 : vals.toArray[vals.toArray.size - 1 - j]? = some y := hI.2 j y (by rw [← Array.getElem?_toList]; exact h2)
      rw [List.getElem?_toArray, List.size_toArray, ← hv.length] at h3
      obtain ⟨z, hz', hr⟩ := hv.get h1
      rw [h3] at hz'; cases hz'; exact hr
    obtain ⟨R', x', y'⟩ := R.new (s' := { s with heap := h', toks := tk }) (a := (s.heap.push (revO l ((vals.toArray.size : Int) - 1))).objs.size) (c := .list vs.reverse) hk1 f1 f2 (by
        cases hq : s.heap.get? (s.heap.push (revO l ((vals.toArray.size : Int) - 1))).objs.size with
        | none => rfl
        | some o => rw [hk0 _ o hq] at f3; cases f3) f4
      ⟨acc.toList, ⟨_, ho⟩, hw.mono (fun i a e => by rw [List.getElem?_append_left (List.getElem?_eq_some_iff.mp e).1]; exact e) (fun b o hb e => ⟨hk1 b o e, fun hm => by
        rcases List.mem_append.mp hm with h | h
        · exact hb h
        · rw [List.mem_singleton.mp h] at e; have e' := hk0 _ o e; rw [f3] at e'; cases e'⟩), hz⟩ rfl rfl
    exact hQ _ _ _ x' R' y'
  · exact trivial
end
end Mine

namespace Mine
open PySem PyProof.Rows PySem.Calls

/-- room for d calls within one another -/
structure AOk (A : Around) (d : Nat) : Prop where
  handled : A.handled = none
  depth : A.depth + d < 900
  units : A.units + 4 * d < 9000

theorem AOk.units' {A : Around} {d : Nat} (h : AOk A d) : A.units + 100 < cLine := by have := h.units; unfold cLine; omega
theorem AOk.deeper {A : Around} {d : Nat} (h : AOk A (d + 1)) (env : Env) : AOk (A.deeper env) d :=
  ⟨h.handled, by have := h.depth; simp only [Around.deeper]; omega, by have := h.units; simp only [Around.deeper]; omega⟩

noncomputable def isVar (k : Option NameKind) : Bool := k == some .local || k == some .cell || k == some .free

/-- the frame's own addresses -/
noncomputable def frameAt (env : Env) (b : Addr) : Prop := b = env.locals ∨ ∃ x, env.cells.lookup x = some b

structure ER (T : Tp) (env : Env) (Γ : List (Str × Nat)) (ρ : Loc) (β : List Addr) (s : Shared) : Prop where
  kind : env.scope.kind = .function
  globals : env.globals = mainGlobals
  builtins : env.builtins = builtinsNs
  locals : ∃ m, s.heap.Ns env.locals m ∧ ∀ x (i : Nat) v, env.kindOf x = some .local → Γ.lookup x = some i → ρ[i]? = some (some v) → ∃ y, m x = some y ∧ VR T s.heap β v y
  cells : ∀ x c, env.cells.lookup x = some c → ∃ w, s.heap.IsCell c w ∧ ∀ (i : Nat) v, (env.kindOf x = some .cell ∨ env.kindOf x = some .free) → Γ.lookup x = some i → ρ[i]? = some (some v) → ∃ y, w = some y ∧ VR T s.heap β v y
  there : ∀ x, (env.kindOf x = some .cell ∨ env.kindOf x = some .free) → ∃ c, env.cells.lookup x = some c
  inj : ∀ x y c, env.cells.lookup x = some c → env.cells.lookup y = some c → x = y
  apart : ∀ b, frameAt env b → b ∉ β ∧ T.h₀.get? b = none
  cloc : ∀ x c, env.cells.lookup x = some c → c ≠ env.locals
  slots : ∀ x y i, Γ.lookup x = some i → Γ.lookup y = some i → x = y

theorem ER.ext {T : Tp} {env : Env} {Γ : List (Str × Nat)} {ρ : Loc} {β β' : List Addr} {s s' : Shared} (h : ER T env Γ ρ β s) (x : Ext β s β' s') : ER T env Γ ρ β' s' := by
  obtain ⟨m, hm, hv⟩ := h.locals
  have hL : env.locals ∉ β := (h.apart _ (.inl rfl)).1
  refine ⟨h.kind, h.globals, h.builtins, ⟨m, hm.at' fun o e => x.keep _ o hL e, fun y i v h1 h2 h3 => ?_⟩, fun y c hc => ?_, h.there, h.inj, fun b hb => ⟨?_, (h.apart b hb).2⟩, h.cloc, h.slots⟩
  · obtain ⟨z, hz, hr⟩ := hv y i v h1 h2 h3
    exact ⟨z, hz, hr.ext x⟩
  · obtain ⟨w, ⟨o, ho, hd⟩, hr⟩ := h.cells y c hc
    have hb : c ∉ β := (h.apart _ (.inr ⟨y, hc⟩)).1
    refine ⟨w, ⟨o, x.keep c o hb ho, hd⟩, fun i v h1 h2 h3 => ?_⟩
    obtain ⟨z, hz, hr'⟩ := hr i v h1 h2 h3
    exact ⟨z, hz, hr'.ext x⟩
  · rcases hb with rfl | ⟨y, hc⟩
    · obtain ⟨o, _, _, ho, _⟩ := hm; exact x.nin hL ho
    · obtain ⟨w, ⟨o, ho, _⟩, _⟩ := h.cells y b hc
      exact x.nin (h.apart _ (.inr ⟨y, hc⟩)).1 ho

/-- what the top holds for the text's names -/
noncomputable def builtinVals : List (Str × Value) :=
  [(Str.ofString "len", .builtin "len"), (Str.ofString "range", .type "range"), (Str.ofString "list", .type "list"), (Str.ofString "isinstance", .builtin "isinstance"),
   (Str.ofString "int", .type "int"), (Str.ofString "bool", .type "bool"), (Str.ofString "tuple", .type "tuple"), (Str.ofString "str", .type "str"),
   (Str.ofString "max", .builtin "max"), (Str.ofString "min", .builtin "min"), (Str.ofString "sum", .builtin "sum"), (Str.ofString "reversed", .type "reversed")]

/-- the text's tables for the check: names of the defs, names of the int constants -/
structure Cx where
  fns : List Str
  glb : List Str

structure TG (T : Tp) (cx : Cx) (G : List Int) where
  mg : Str → Option Value
  mb : Str → Option Value
  g : T.h₀.Ns mainGlobals mg
  b : T.h₀.Ns builtinsNs mb
  nolimit : T.h₀.NoLimit
  blt : ∀ p ∈ builtinVals, mg p.1 = none ∧ mb p.1 = some p.2
  fns : ∀ (k : Nat) nm, cx.fns[k]? = some nm → ∃ a, T.fa[k]? = some a ∧ mg nm = some (.ref a) ∧ ∃ o fd, T.h₀.get? a = some o ∧ o.data = .func fd
  glb : ∀ (g : Nat) nm i, cx.glb[g]? = some nm → G[g]? = some i → ∃ t, mg nm = some (.int i t)

section
variable {T : Tp} {A : Around} {β : List Addr} {σ : Store} {s : Shared} {env : Env} {Γ : List (Str × Nat)} {ρ : Loc} {cx : Cx} {G : List Int}

noncomputable def nameOk (x : Str) : Bool := !(x == ("__debug__" : Str)) && !(x == ("__classdict__" : Str))

theorem good_var (R : SR T β σ s) (N : ER T env Γ ρ β s) {x : Str} {pos : Pos} {i : Nat} (hk : isVar (env.kindOf x) = true) (hx : nameOk x = true) (hi : Γ.lookup x = some i) :
    Good T A β s (VRel T) (eval (.Name x pos) env) (match ρ[i]? with | some (some v) => .ok v σ | _ => .stuck) := by
  simp only [nameOk, Bool.and_eq_true, Bool.not_eq_true'] at hx
  split
  · rename_i v hv
    simp only [isVar, Bool.or_eq_true, beq_iff_eq] at hk
    rcases hk with (hk | hk) | hk
    · obtain ⟨m, hm, hr⟩ := N.locals
      obtain ⟨y, hy, hr'⟩ := hr x i v hk hi hv
      exact fun Q E hQ => wpAny_Name (wpAny_loadName_local N.kind hk hm hy (hQ _ _ _ (.refl _ _) R hr')) hx.1
    · obtain ⟨c, hc⟩ := N.there x (.inl hk)
      obtain ⟨w, hw, hr⟩ := N.cells x c hc
      obtain ⟨y, rfl, hr'⟩ := hr i v (.inl hk) hi hv
      exact fun Q E hQ => wpAny_Name (wpAny_loadName_cell N.kind hk hc hw (hQ _ _ _ (.refl _ _) R hr')) hx.1
    · obtain ⟨c, hc⟩ := N.there x (.inr hk)
      obtain ⟨w, hw, hr⟩ := N.cells x c hc
      obtain ⟨y, rfl, hr'⟩ := hr i v (.inr hk) hi hv
      exact fun Q E hQ => wpAny_Name (wpAny_loadName_free N.kind hk hc hw (hQ _ _ _ (.refl _ _) R hr') hx.2) hx.1
  · exact trivial

/-- a name of a built-in thing -/
theorem eval_builtin (X : TG T cx G) (R : SR T β σ s) (N : ER T env Γ ρ β s) {x : Str} {v : Value} {pos : Pos} (hp : (x, v) ∈ builtinVals) (hk : env.kindOf x = some .globalImplicit) (hx : nameOk x = true) {Q : Value → Shared → Prop} {E : Value → Shared → Prop} (hQ : Q v s) :
    wpAny (model T.prog T.w) A (eval (.Name x pos) env) Q E s := by
  simp only [nameOk, Bool.and_eq_true, Bool.not_eq_true'] at hx
  obtain ⟨h1, h2⟩ := X.blt _ hp
  exact Name_function_global N.kind hk (loadGlobal_builtin (env := env) (by rw [N.globals]; exact X.g.keeps R.base) h1 (by rw [N.builtins]; exact X.b.keeps R.base) h2 hQ) hx.1

theorem eval_fn (X : TG T cx G) (R : SR T β σ s) (N : ER T env Γ ρ β s) {x : Str} {k : Nat} {pos : Pos} (hf : cx.fns[k]? = some x) (hk : env.kindOf x = some .globalImplicit) (hx : nameOk x = true) :
    ∃ a, T.fa[k]? = some a ∧ (∃ o fd, T.h₀.get? a = some o ∧ o.data = .func fd) ∧ ∀ (Q : Value → Shared → Prop) (E : Value → Shared → Prop), Q (.ref a) s → wpAny (model T.prog T.w) A (eval (.Name x pos) env) Q E s := by
  simp only [nameOk, Bool.and_eq_true, Bool.not_eq_true'] at hx
  obtain ⟨a, h1, h2, h3⟩ := X.fns k x hf
  exact ⟨a, h1, h3, fun Q E hQ => Name_function_global N.kind hk (loadGlobal_global (env := env) (by rw [N.globals]; exact X.g.keeps R.base) h2 hQ) hx.1⟩

theorem eval_glob (X : TG T cx G) (R : SR T β σ s) (N : ER T env Γ ρ β s) {x : Str} {g : Nat} {pos : Pos} (hf : cx.glb[g]? = some x) (hk : env.kindOf x = some .globalImplicit) (hx : nameOk x = true) :
    Good T A β s (VRel T) (eval (.Name x pos) env) (match G[g]? with | some i => .ok (.int i) σ | _ => .stuck) := by
  simp only [nameOk, Bool.and_eq_true, Bool.not_eq_true'] at hx
  split
  · rename_i i hi
    obtain ⟨t, ht⟩ := X.glb g x i hf hi
    exact fun Q E hQ => Name_function_global N.kind hk (loadGlobal_global (env := env) (by rw [N.globals]; exact X.g.keeps R.base) ht (hQ _ _ _ (.refl _ _) R (.int _ _))) hx.1
  · exact trivial

/-- a step within a frame: what is neither of the store nor of the frame stays -/
structure ExtF (env : Env) (β : List Addr) (s : Shared) (β' : List Addr) (s' : Shared) : Prop where
  pre : β <+: β'
  new : ∀ a ∈ β', a ∈ β ∨ s.heap.get? a = none
  keep : ∀ b o, b ∉ β → ¬ frameAt env b → s.heap.get? b = some o → s'.heap.get? b = some o
  live : ∀ b o, frameAt env b → s.heap.get? b = some o → ∃ o', s'.heap.get? b = some o'
  gens : s'.gens = s.gens
  os : s'.os = s.os

theorem ExtF.refl (env : Env) (β : List Addr) (s : Shared) : ExtF env β s β s := ⟨List.prefix_refl _, fun _ h => .inl h, fun _ _ _ _ h => h, fun _ o _ h => ⟨o, h⟩, rfl, rfl⟩
theorem ExtF.trans {β β' β'' : List Addr} {s s' s'' : Shared} (x : ExtF env β s β' s') (y : ExtF env β' s' β'' s'') : ExtF env β s β'' s'' := by
  have nin : ∀ b o, b ∉ β → s.heap.get? b = some o → b ∉ β' := fun b o hb ho hm => by
    rcases x.new b hm with h | h
    · exact hb h
    · rw [ho] at h; cases h
  refine ⟨x.pre.trans y.pre, fun a ha => ?_, fun b o hb hf ho => y.keep b o (nin b o hb ho) hf (x.keep b o hb hf ho), fun b o hf ho => ?_, y.gens.trans x.gens, y.os.trans x.os⟩
  · by_cases hab : a ∈ β
    · exact .inl hab
    · right
      cases hq : s.heap.get? a with
      | none => rfl
      | some o =>
        rcases y.new a ha with h | h
        · exact absurd h (nin a o hab hq)
        · by_cases hf : frameAt env a
          · obtain ⟨o', ho'⟩ := x.live a o hf hq
            rw [ho'] at h; cases h
          · rw [x.keep a o hab hf hq] at h; cases h
  · obtain ⟨o', ho'⟩ := x.live b o hf ho
    exact y.live b o' hf ho'
theorem Ext.toF {β' : List Addr} {s' : Shared} (x : Ext β s β' s') (N : ER T env Γ ρ β s) : ExtF env β s β' s' :=
  ⟨x.pre, x.new, fun b o hb _ ho => x.keep b o hb ho, fun b o hf ho => ⟨o, x.keep b o (N.apart b hf).1 ho⟩, x.gens, x.os⟩

mutual
theorem VR.monoT {h h' : Heap} {β β' : List Addr} (hat : ∀ (i : Nat) a, β[i]? = some a → β'[i]? = some a)
    (hk : ∀ b (vals : Array Value) n, b ∉ β → h.get? b = some { cls := .type "tuple", data := .seq vals n } → h'.get? b = some { cls := .type "tuple", data := .seq vals n } ∧ b ∉ β') :
    ∀ {v : V} {x : Value}, VR T h β v x → VR T h' β' v x
  | _, _, .none => .none
  | _, _, .bool b => .bool b
  | _, _, .int i t => .int i t
  | _, _, .str x t e => .str x t e
  | _, _, .scr => .scr
  | _, _, .fn e => .fn e
  | _, _, .ref e => .ref (hat _ _ e)
  | _, _, .tup ho hb r z => .tup (hk _ _ _ hb ho).1 (hk _ _ _ hb ho).2 (VRs.monoT hat hk r) z
theorem VRs.monoT {h h' : Heap} {β β' : List Addr} (hat : ∀ (i : Nat) a, β[i]? = some a → β'[i]? = some a)
    (hk : ∀ b (vals : Array Value) n, b ∉ β → h.get? b = some { cls := .type "tuple", data := .seq vals n } → h'.get? b = some { cls := .type "tuple", data := .seq vals n } ∧ b ∉ β') :
    ∀ {vs : List V} {xs : List Value}, VRs T h β vs xs → VRs T h' β' vs xs
  | _, _, .nil => .nil
  | _, _, .cons a r => .cons (VR.monoT hat hk a) (VRs.monoT hat hk r)
end

/-- an object that is no tuple, neither of the store nor of the base, is turned -/
theorem tupKeeps {b : Addr} {h h' : Heap} (hs : Heap.SameBut b h h') (hn : ∀ (vals : Array Value) n, h.get? b ≠ some { cls := .type "tuple", data := .seq vals n }) :
    ∀ c (vals : Array Value) n, c ∉ β → h.get? c = some { cls := .type "tuple", data := .seq vals n } → h'.get? c = some { cls := .type "tuple", data := .seq vals n } ∧ c ∉ β :=
  fun c vals n hc e => ⟨(hs.2 c (fun q => hn vals n (q ▸ e))).trans e, hc⟩
theorem SR.frame {b : Addr} {s' : Shared} (R : SR T β σ s) (hs : Heap.SameBut b s.heap s'.heap) (hb : b ∉ β) (h0 : T.h₀.get? b = none) (hn : ∀ (vals : Array Value) n, s.heap.get? b ≠ some { cls := .type "tuple", data := .seq vals n }) : SR T β σ s' := by
  have hk := tupKeeps (β := β) hs hn
  refine ⟨R.len, R.nodup, R.lo, fun i c a hc ha => ?_, fun c o e => (hs.2 c (fun q => by subst q; rw [h0] at e; cases e)).trans (R.base c o e)⟩
  have hne : a ≠ b := fun q => hb (q ▸ List.mem_of_getElem? ha)
  have hat : ∀ o, s.heap.get? a = some o → s'.heap.get? a = some o := fun o e => (hs.2 a hne).trans e
  have := R.cell i c a hc ha
  cases c with
  | list vs => obtain ⟨vals, hl, hv, hz⟩ := this; exact ⟨vals, hl.at hat, hv.monoT (fun _ _ e => e) hk, hz⟩
  | dictI kvs => obtain ⟨kv, hd, hp⟩ := this; exact ⟨kv, hd.at hat, hp⟩
  | dictS kvs => obtain ⟨kv, hd, hp⟩ := this; exact ⟨kv, hd.at hat, hp⟩

theorem set_at {ρ : Loc} {i j : Nat} {v u : V} (h : (ρ.set i (some v))[j]? = some (some u)) : (j = i ∧ u = v) ∨ (j ≠ i ∧ ρ[j]? = some (some u)) := by
  rw [List.getElem?_set] at h
  split at h
  · rename_i e
    subst e
    split at h
    · cases h; exact .inl ⟨rfl, rfl⟩
    · cases h
  · rename_i e; exact .inr ⟨Ne.symm e, h⟩

theorem store_var (R : SR T β σ s) (N : ER T env Γ ρ β s) {x : Str} {i : Nat} {v : V} {y : Value} (hk : env.kindOf x = some .local ∨ env.kindOf x = some .cell) (hi : Γ.lookup x = some i) (hv : VR T s.heap β v y)
    {Q : Unit → Shared → Prop} {E : Value → Shared → Prop} (hQ : ∀ s', ExtF env β s β s' → SR T β σ s' → ER T env Γ (ρ.set i (some v)) β s' → (∀ u z, VR T s.heap β u z → VR T s'.heap β u z) → (∃ c, ((c = env.locals ∧ env.kindOf x = some .local) ∨ (env.cells.lookup x = some c ∧ env.kindOf x = some .cell)) ∧ Heap.SameBut c s.heap s'.heap) → Q () s') :
    wpAny (model T.prog T.w) A (storeName env x y) Q E s := by
  obtain ⟨m, hm, hr⟩ := N.locals
  rcases hk with hk | hk
  · refine wpAny_storeName_local hk hm (fun h' hn' hs' => ?_) (by rw [N.kind]; rfl)
    have hnt : ∀ (vals : Array Value) n, s.heap.get? env.locals ≠ some { cls := .type "tuple", data := .seq vals n } := fun vals n e => by
      obtain ⟨o, es, ep, ho, hd, _⟩ := hm; rw [ho] at e; cases e; cases hd
    obtain ⟨hLb, hL0⟩ := N.apart _ (.inl rfl)
    have hmono : ∀ u z, VR T s.heap β u z → VR T h' β u z := fun u z h => h.monoT (fun _ _ e => e) (tupKeeps hs' hnt)
    refine hQ { s with heap := h', toks := s.toks + 1 } ⟨List.prefix_refl _, fun _ h => .inl h, fun b o _ hf ho => (hs'.2 b (fun q => hf (.inl q))).trans ho, fun b o hf ho => ?_, rfl, rfl⟩ (R.frame (s' := { s with heap := h', toks := s.toks + 1 }) hs' hLb hL0 hnt) ?_ hmono ⟨_, .inl ⟨rfl, hk⟩, hs'⟩
    · by_cases hb : b = env.locals
      · subst hb; obtain ⟨o', _, _, ho', _⟩ := hn'; exact ⟨o', ho'⟩
      · exact ⟨o, (hs'.2 b hb).trans ho⟩
    · refine ⟨N.kind, N.globals, N.builtins, ⟨_, hn', fun z j u h1 h2 h3 => ?_⟩, fun z c hc => ?_, N.there, N.inj, N.apart, N.cloc, N.slots⟩
      · rcases set_at h3 with ⟨e1, e2⟩ | ⟨e1, e2⟩
        · subst e1 e2
          have := N.slots z x j h2 hi
          subst this
          exact ⟨y, by simp, hmono _ _ hv⟩
        · have hne : z ≠ x := fun q => e1 (by subst q; rw [hi] at h2; cases h2; rfl)
          obtain ⟨w, hw, hr'⟩ := hr z j u h1 h2 e2
          exact ⟨w, by simp [hne, hw], hmono _ _ hr'⟩
      · obtain ⟨w, hw, hr'⟩ := N.cells z c hc
        refine ⟨w, hw.sameBut hs' (N.cloc z c hc), fun j u h1 h2 h3 => ?_⟩
        rcases set_at h3 with ⟨e1, e2⟩ | ⟨e1, e2⟩
        · subst e1 e2
          have := N.slots z x j h2 hi
          subst this
          rw [hk] at h1; rcases h1 with h1 | h1 <;> cases h1
        · obtain ⟨q, hq, hr''⟩ := hr' j u h1 h2 e2
          exact ⟨q, hq, hmono _ _ hr''⟩
  · obtain ⟨c, hc⟩ := N.there x (.inl hk)
    obtain ⟨w, hw, _⟩ := N.cells x c hc
    refine wpAny_storeName_cell N.kind hk hc hw fun h' hc' hs' => ?_
    have hnt : ∀ (vals : Array Value) n, s.heap.get? c ≠ some { cls := .type "tuple", data := .seq vals n } := fun vals n e => by
      obtain ⟨o, ho, hd⟩ := hw; rw [ho] at e; cases e; cases hd
    obtain ⟨hLb, hL0⟩ := N.apart _ (.inr ⟨x, hc⟩)
    have hmono : ∀ u z, VR T s.heap β u z → VR T h' β u z := fun u z h => h.monoT (fun _ _ e => e) (tupKeeps hs' hnt)
    refine hQ { s with heap := h' } ⟨List.prefix_refl _, fun _ h => .inl h, fun b o _ hf ho => (hs'.2 b (fun q => hf (.inr ⟨x, q ▸ hc⟩))).trans ho, fun b o hf ho => ?_, rfl, rfl⟩ (R.frame (s' := { s with heap := h' }) hs' hLb hL0 hnt) ?_ hmono ⟨_, .inr ⟨hc, hk⟩, hs'⟩
    · by_cases hb : b = c
      · subst hb; obtain ⟨o', ho', _⟩ := hc'; exact ⟨o', ho'⟩
      · exact ⟨o, (hs'.2 b hb).trans ho⟩
    · refine ⟨N.kind, N.globals, N.builtins, ⟨m, hm.sameBut hs' (Ne.symm (N.cloc x c hc)), fun z j u h1 h2 h3 => ?_⟩, fun z d hd => ?_, N.there, N.inj, N.apart, N.cloc, N.slots⟩
      · rcases set_at h3 with ⟨e1, e2⟩ | ⟨e1, e2⟩
        · subst e1 e2
          have := N.slots z x j h2 hi
          subst this
          rw [hk] at h1; cases h1
        · obtain ⟨q, hq, hr'⟩ := hr z j u h1 h2 e2
          exact ⟨q, hq, hmono _ _ hr'⟩
      · by_cases hzx : z = x
        · subst hzx
          rw [hc] at hd; cases hd
          refine ⟨_, hc', fun j u h1 h2 h3 => ?_⟩
          rw [hi] at h2; cases h2
          rcases set_at h3 with ⟨e1, e2⟩ | ⟨e1, e2⟩
          · subst e2; exact ⟨y, rfl, hmono _ _ hv⟩
          · exact absurd rfl e1
        · obtain ⟨w', hw', hr'⟩ := N.cells z d hd
          refine ⟨w', hw'.sameBut hs' (fun q => hzx (N.inj z x c (q ▸ hd) hc)), fun j u h1 h2 h3 => ?_⟩
          rcases set_at h3 with ⟨e1, e2⟩ | ⟨e1, e2⟩
          · subst e1 e2; exact absurd (N.slots z x j h2 hi) hzx
          · obtain ⟨q, hq, hr''⟩ := hr' j u h1 h2 e2
            exact ⟨q, hq, hmono _ _ hr''⟩
end
end Mine

namespace Mine
open PySem PyProof.Rows PySem.Calls

/-- the comprehension's scope as its own frame bears it -/
noncomputable def relabelS (csc sc : Scope) : Scope :=
  { csc with names := csc.names.map fun (n, k) => if (k == .free && sc.kind == .function && sc.names.lookup n == some .cell) then (n, .cell) else (n, k) }

noncomputable def isB (sc : Scope) (x : Str) (n : String) : Bool := x == Str.ofString n && sc.names.lookup x == some .globalImplicit && nameOk x

noncomputable def isCF (k : Option NameKind) : Bool := k == some .cell || k == some .free

noncomputable def nodupB : List Str → Bool
  | [] => true
  | x :: r => !r.contains x && nodupB r

noncomputable def compOk (sc csc : Scope) (Γ : List (Str × Nat)) (slot : Nat) (y : Str) : Bool :=
  csc.kind == .function && nodupB (csc.names.map (·.1)) && (csc.names.lookup y == some .local || csc.names.lookup y == some .cell) && nameOk y &&
    csc.names.all (fun p => !(p.2 == .free) || isCF (sc.names.lookup p.1)) && !(Γ.map (·.2)).contains slot &&
    csc.names.all (fun p => !(p.2 == .local || p.2 == .cell) || p.1 == y || (Γ.lookup p.1).isNone)

noncomputable def notSet : PySem.Expr → Bool
  | .Set .. => false
  | _ => true
noncomputable def notStar : PySem.Expr → Bool
  | .Starred .. => false
  | _ => true

/- what a tree is made of -/
noncomputable def onO {α : Type} (o : Option α) (f : α → Bool) : Bool :=
  match o with
  | some a => f a
  | none => false
theorem onO_true {α : Type} {o : Option α} {f : α → Bool} (h : onO o f = true) : ∃ a, o = some a ∧ f a = true := by
  cases o with
  | none => cases h
  | some a => exact ⟨a, rfl, h⟩
theorem no_some {α : Type} {c : α} {P : Prop} (h : none = some c) : P := by cases h
noncomputable def one {α : Type} : List α → Option α
  | [x] => some x
  | _ => none
theorem one_inv {α : Type} {l : List α} {x : α} (h : one l = some x) : l = [x] := by
  rcases l with _ | ⟨y, _ | ⟨z, r⟩⟩
  · cases h
  · cases h; rfl
  · cases h
theorem isEmpty_inv {α : Type} {l : List α} (h : l.isEmpty = true) : l = [] := by
  cases l with
  | nil => rfl
  | cons => cases h
noncomputable def asConst : PySem.Expr → Option Const
  | .Constant c _ _ => some c
  | _ => none
theorem asConst_inv {e : PySem.Expr} {c : Const} (h : asConst e = some c) : ∃ k p, e = .Constant c k p := by
  cases e <;> first | exact no_some h | (cases h; exact ⟨_, _, rfl⟩)
noncomputable def asName : PySem.Expr → Option Str
  | .Name x _ => some x
  | _ => none
theorem asName_inv {e : PySem.Expr} {c : Str} (h : asName e = some c) : ∃ p, e = .Name c p := by
  cases e <;> first | exact no_some h | (cases h; exact ⟨_, rfl⟩)
noncomputable def asBin : PySem.Expr → Option (PySem.Expr × Operator × PySem.Expr)
  | .BinOp l o r _ => some (l, o, r)
  | _ => none
theorem asBin_inv {e : PySem.Expr} {c : (PySem.Expr × Operator × PySem.Expr)} (h : asBin e = some c) : ∃ p, e = .BinOp c.1 c.2.1 c.2.2 p := by
  cases e <;> first | exact no_some h | (cases h; exact ⟨_, rfl⟩)
noncomputable def asUn : PySem.Expr → Option (UnaryOp × PySem.Expr)
  | .UnaryOp o x _ => some (o, x)
  | _ => none
theorem asUn_inv {e : PySem.Expr} {c : (UnaryOp × PySem.Expr)} (h : asUn e = some c) : ∃ p, e = .UnaryOp c.1 c.2 p := by
  cases e <;> first | exact no_some h | (cases h; exact ⟨_, rfl⟩)
noncomputable def asBool : PySem.Expr → Option (BoolOp × List PySem.Expr × Pos)
  | .BoolOp o xs p => some (o, xs, p)
  | _ => none
theorem asBool_inv {e : PySem.Expr} {c : (BoolOp × List PySem.Expr × Pos)} (h : asBool e = some c) : e = .BoolOp c.1 c.2.1 c.2.2 := by
  cases e <;> first | exact no_some h | (cases h; exact rfl)
noncomputable def asCmp : PySem.Expr → Option (PySem.Expr × List CmpOp × List PySem.Expr)
  | .Compare l os rs _ => some (l, os, rs)
  | _ => none
theorem asCmp_inv {e : PySem.Expr} {c : (PySem.Expr × List CmpOp × List PySem.Expr)} (h : asCmp e = some c) : ∃ p, e = .Compare c.1 c.2.1 c.2.2 p := by
  cases e <;> first | exact no_some h | (cases h; exact ⟨_, rfl⟩)
noncomputable def asList : PySem.Expr → Option (List PySem.Expr)
  | .List xs _ => some xs
  | _ => none
theorem asList_inv {e : PySem.Expr} {c : (List PySem.Expr)} (h : asList e = some c) : ∃ p, e = .List c p := by
  cases e <;> first | exact no_some h | (cases h; exact ⟨_, rfl⟩)
noncomputable def asTuple : PySem.Expr → Option (List PySem.Expr)
  | .Tuple xs _ _ => some xs
  | _ => none
theorem asTuple_inv {e : PySem.Expr} {c : (List PySem.Expr)} (h : asTuple e = some c) : ∃ k p, e = .Tuple c k p := by
  cases e <;> first | exact no_some h | (cases h; exact ⟨_, _, rfl⟩)
noncomputable def asDict : PySem.Expr → Option (List (Option PySem.Expr) × List PySem.Expr)
  | .Dict ks xs _ => some (ks, xs)
  | _ => none
theorem asDict_inv {e : PySem.Expr} {c : (List (Option PySem.Expr) × List PySem.Expr)} (h : asDict e = some c) : ∃ p, e = .Dict c.1 c.2 p := by
  cases e <;> first | exact no_some h | (cases h; exact ⟨_, rfl⟩)
noncomputable def asSub : PySem.Expr → Option (PySem.Expr × PySem.Expr)
  | .Subscript v s _ => some (v, s)
  | _ => none
theorem asSub_inv {e : PySem.Expr} {c : (PySem.Expr × PySem.Expr)} (h : asSub e = some c) : ∃ p, e = .Subscript c.1 c.2 p := by
  cases e <;> first | exact no_some h | (cases h; exact ⟨_, rfl⟩)
noncomputable def asSlice : PySem.Expr → Option (Option PySem.Expr × Option PySem.Expr × Option PySem.Expr)
  | .Slice a b d _ => some (a, b, d)
  | _ => none
theorem asSlice_inv {e : PySem.Expr} {c : (Option PySem.Expr × Option PySem.Expr × Option PySem.Expr)} (h : asSlice e = some c) : ∃ p, e = .Slice c.1 c.2.1 c.2.2 p := by
  cases e <;> first | exact no_some h | (cases h; exact ⟨_, rfl⟩)
noncomputable def asCall : PySem.Expr → Option (PySem.Expr × List PySem.Expr × List Keyword × Pos)
  | .Call g xs ks p => some (g, xs, ks, p)
  | _ => none
theorem asCall_inv {e : PySem.Expr} {c : (PySem.Expr × List PySem.Expr × List Keyword × Pos)} (h : asCall e = some c) : e = .Call c.1 c.2.1 c.2.2.1 c.2.2.2 := by
  cases e <;> first | exact no_some h | (cases h; exact rfl)
noncomputable def asComp : PySem.Expr → Option (PySem.Expr × List Comprehension × Scope)
  | .ListComp el gs sc _ => some (el, gs, sc)
  | _ => none
theorem asComp_inv {e : PySem.Expr} {c : (PySem.Expr × List Comprehension × Scope)} (h : asComp e = some c) : ∃ p, e = .ListComp c.1 c.2.1 c.2.2 p := by
  cases e <;> first | exact no_some h | (cases h; exact ⟨_, rfl⟩)
noncomputable def asAttr : PySem.Expr → Option (PySem.Expr × Str × Pos)
  | .Attribute o n p => some (o, n, p)
  | _ => none
theorem asAttr_inv {e : PySem.Expr} {c : (PySem.Expr × Str × Pos)} (h : asAttr e = some c) : e = .Attribute c.1 c.2.1 c.2.2 := by
  cases e <;> first | exact no_some h | (cases h; exact rfl)
noncomputable def keysOk : List Str → List (Option PySem.Expr) → Bool
  | [], l => l.isEmpty
  | x :: r, l => onO l.head? fun o => onO o fun e => onO (asConst e) fun c => c == .str x && keysOk r l.tail
theorem keys_nil {l : List (Option PySem.Expr)} (h : keysOk [] l = true) : l = [] := isEmpty_inv h
theorem keys_cons {x : Str} {r : List Str} {l : List (Option PySem.Expr)} (h : keysOk (x :: r) l = true) : ∃ q1 q2 t, l = some (.Constant (.str x) q1 q2) :: t ∧ keysOk r t = true := by
  obtain ⟨o, h1, h⟩ := onO_true h
  obtain ⟨e, h2, h⟩ := onO_true h
  obtain ⟨c, h3, h⟩ := onO_true h
  rw [Bool.and_eq_true] at h
  obtain ⟨k, p, e3⟩ := asConst_inv h3
  have e4 := eq_of_beq h.1
  cases l with
  | nil => cases h1
  | cons q t =>
    cases h1
    subst h2 e3 e4
    exact ⟨k, p, t, rfl, h.2⟩
/-- a call of a name with one argument, with two -/
noncomputable def onCall1 (e : PySem.Expr) (f : Str → PySem.Expr → Bool) : Bool := onO (asCall e) fun c => onO (asName c.1) fun x => onO (one c.2.1) fun y => c.2.2.1.isEmpty && f x y
theorem onCall1_inv {e : PySem.Expr} {f : Str → PySem.Expr → Bool} (h0 : onCall1 e f = true) : ∃ x px y p, e = .Call (.Name x px) [y] [] p ∧ f x y = true := by
  obtain ⟨⟨g, xs, ks, p⟩, h1, h⟩ := onO_true h0
  clear h0
  obtain ⟨x, h2, h⟩ := onO_true h
  obtain ⟨y, h3, h⟩ := onO_true h
  rw [Bool.and_eq_true] at h
  obtain ⟨px, e2⟩ := asName_inv h2
  have e1 := asCall_inv h1
  have e3 := one_inv h3
  have e4 := isEmpty_inv h.1
  simp only at e1 e2 e3 e4
  subst e1 e2 e3 e4
  exact ⟨x, px, y, p, rfl, h.2⟩
noncomputable def onCall2 (e : PySem.Expr) (f : Str → PySem.Expr → PySem.Expr → Bool) : Bool := onO (asCall e) fun c => onO (asName c.1) fun x => onO (one c.2.1.tail) fun z => onO c.2.1.head? fun y => c.2.2.1.isEmpty && f x y z
theorem onCall2_inv {e : PySem.Expr} {f : Str → PySem.Expr → PySem.Expr → Bool} (h0 : onCall2 e f = true) : ∃ x px y z p, e = .Call (.Name x px) [y, z] [] p ∧ f x y z = true := by
  obtain ⟨⟨g, xs, ks, p⟩, h1, h⟩ := onO_true h0
  clear h0
  obtain ⟨x, h2, h⟩ := onO_true h
  obtain ⟨z, h3, h⟩ := onO_true h
  obtain ⟨y, h4, h⟩ := onO_true h
  rw [Bool.and_eq_true] at h
  obtain ⟨px, e2⟩ := asName_inv h2
  have e1 := asCall_inv h1
  have e3 := one_inv h3
  have e5 := isEmpty_inv h.1
  simp only at e1 e2 e3 e5 h4
  cases xs with
  | nil => cases h4
  | cons q r =>
    cases h4
    simp only [List.tail_cons] at e3
    subst e1 e2 e3 e5
    exact ⟨x, px, y, z, p, rfl, h.2⟩

section
variable (cx : Cx)
mutual
noncomputable def chkE : Scope → List (Str × Nat) → E → PySem.Expr → Bool
  | _, _, .none, e => onO (asConst e) fun c => c == .none
  | _, _, .bool b, e => onO (asConst e) fun c => c == .bool b
  | _, _, .int i, e => onO (asConst e) fun c => c == .int i
  | _, _, .str x, e => onO (asConst e) fun c => c == .str x && PyData.strOk x
  | sc, Γ, .var i, e => onO (asName e) fun x => isVar (sc.names.lookup x) && nameOk x && Γ.lookup x == some i
  | sc, _, .glob g, e => onO (asName e) fun x => sc.names.lookup x == some .globalImplicit && nameOk x && cx.glb[g]? == some x
  | _, _, .fn _, _ => false
  | sc, Γ, .bin op a b, e => onO (asBin e) fun q => op == q.2.1 && chkE sc Γ a q.1 && chkE sc Γ b q.2.2
  | _, _, .neg _, _ => false
  | sc, Γ, .not a, e => onO (asUn e) fun q => q.1 == .Not && chkE sc Γ a q.2
  | sc, Γ, .and a b, e => onO (asBool e) fun q => onO q.2.1.head? fun x => q.1 == .And && chkE sc Γ a x && match q.2.1.tail with
    | [] => false
    | [y] => chkE sc Γ b y
    | y :: z :: r => chkE sc Γ b (.BoolOp .And (y :: z :: r) q.2.2)
  | sc, Γ, .or a b, e => onO (asBool e) fun q => onO q.2.1.head? fun x => q.1 == .Or && chkE sc Γ a x && match q.2.1.tail with
    | [] => false
    | [y] => chkE sc Γ b y
    | y :: z :: r => chkE sc Γ b (.BoolOp .Or (y :: z :: r) q.2.2)
  | sc, Γ, .cmp op a b, e => onO (asCmp e) fun q => onO (one q.2.1) fun o => onO (one q.2.2) fun r => op == o && !behindInMarks o r && chkE sc Γ a q.1 && chkE sc Γ b r
  | sc, Γ, .cmp2 o1 o2 a b c, e => onO (asCmp e) fun q => onO q.2.2.head? fun m => onO (one q.2.2.tail) fun r => q.2.1 == [o1, o2] && !lastMarks [o1, o2] [m, r] && chkE sc Γ a q.1 && chkE sc Γ b m && chkE sc Γ c r
  | sc, Γ, .list es, e => onO (asList e) fun xs => chkEs sc Γ es xs
  | sc, Γ, .tup es, e => onO (asTuple e) fun xs => chkEs sc Γ es xs
  | sc, Γ, .dictS ks es, e => onO (asDict e) fun q =>
    keysOk ks q.1 && chkEs sc Γ es q.2 && decide (ks.length = q.2.length) && decide (0 < ks.length) && decide (ks.length ≤ 15) && nodupB ks && ks.all PyData.strOk
  | _, _, .dictI, _ => false
  | sc, Γ, .idx a i, e => onO (asSub e) fun q => !isSl q.2 && chkE sc Γ a q.1 && chkE sc Γ i q.2
  | sc, Γ, .sl a lo hi, e => onO (asSub e) fun q => onO (asSlice q.2) fun p => onO p.1 fun l => onO p.2.1 fun h => p.2.2.isNone && chkE sc Γ a q.1 && chkE sc Γ lo l && chkE sc Γ hi h
  | _, _, .slFrom _ _, _ => false
  | sc, Γ, .slTo a hi, e => onO (asSub e) fun q => onO (asSlice q.2) fun p => onO p.2.1 fun h => p.1.isNone && p.2.2.isNone && chkE sc Γ a q.1 && chkE sc Γ hi h
  | sc, Γ, .call f es, e => onO (asCall e) fun q => onO (asName q.1) fun x => q.2.2.1.isEmpty && sc.names.lookup x == some .globalImplicit && nameOk x && cx.fns[f]? == some x && !q.2.1.isEmpty && chkEs sc Γ es q.2.1
  | _, _, .callv _ _, _ => false
  | sc, Γ, .len a, e => onCall1 e fun x y => isB sc x "len" && notStar y && chkE sc Γ a y
  | sc, Γ, .listOf a, e => onCall1 e fun x y => isB sc x "list" && notStar y && chkE sc Γ a y
  | sc, Γ, .listRange a, e => onCall1 e fun x w => onCall1 w fun z y => isB sc x "list" && isB sc z "range" && notStar y && chkE sc Γ a y
  | sc, Γ, .listRev a, e => onCall1 e fun x w => onCall1 w fun z y => isB sc x "list" && isB sc z "reversed" && notStar y && chkE sc Γ a y
  | sc, Γ, .isinst a t, e => onCall2 e fun x y w => onO (asName w) fun z => isB sc x "isinstance" && isB sc z t.name && notStar y && chkE sc Γ a y
  | sc, Γ, .toInt a, e => onCall1 e fun x y => isB sc x "int" && notStar y && chkE sc Γ a y
  | _, _, .max _ _, _ => false
  | _, _, .min _ _, _ => false
  | _, _, .sum _, _ => false
  | _, _, .upper _, _ => false
  | _, _, .rep _ _, _ => false
  | sc, Γ, .comp elt x it, e => onO (asComp e) fun q => onO (one q.2.1) fun g => onO (asName g.target) fun y => g.ifs.isEmpty && g.is_async == 0 && compOk sc q.2.2 Γ x y && notSet g.iter && chkIt sc Γ it g.iter && chkE (relabelS q.2.2 sc) ((y, x) :: Γ) elt q.1
  | sc, Γ, .compIf elt x it c, e => onO (asComp e) fun q => onO (one q.2.1) fun g => onO (asName g.target) fun y => onO (one g.ifs) fun ce => g.is_async == 0 && compOk sc q.2.2 Γ x y && notSet g.iter && chkIt sc Γ it g.iter && chkE (relabelS q.2.2 sc) ((y, x) :: Γ) elt q.1 && chkE (relabelS q.2.2 sc) ((y, x) :: Γ) c ce
noncomputable def chkIt : Scope → List (Str × Nat) → It → PySem.Expr → Bool
  | sc, Γ, .range a, e => onCall1 e fun x y => isB sc x "range" && notStar y && chkE sc Γ a y
  | sc, Γ, .seq a, e => chkE sc Γ a e
noncomputable def chkEs : Scope → List (Str × Nat) → Es → List PySem.Expr → Bool
  | _, _, .nil, l => l.isEmpty
  | sc, Γ, .cons a r, l => onO l.head? fun e => notStar e && chkE sc Γ a e && chkEs sc Γ r l.tail
end
end

/- what the check of each kind tells -/
section
variable {cx : Cx} {sc : Scope} {Γ : List (Str × Nat)} {e : PySem.Expr}
theorem inv_cmp {op : CmpOp} {a b : E} (h : chkE cx sc Γ (.cmp op a b) e = true) : ∃ l r p, e = .Compare l [op] [r] p ∧ behindInMarks op r = false ∧ chkE cx sc Γ a l = true ∧ chkE cx sc Γ b r = true := by
  obtain ⟨⟨l, os, rs⟩, h1, h⟩ := onO_true h
  obtain ⟨o, h2, h⟩ := onO_true h
  obtain ⟨r, h3, h⟩ := onO_true h
  obtain ⟨p, e1⟩ := asCmp_inv h1
  have e2 := one_inv h2
  have e3 := one_inv h3
  simp only [Bool.and_eq_true, beq_iff_eq, Bool.not_eq_true'] at e1 e2 e3 h
  obtain ⟨⟨⟨rfl, h4⟩, h5⟩, h6⟩ := h
  subst e2 e3
  exact ⟨l, r, p, e1, h4, h5, h6⟩
theorem inv_cmp2 {o1 o2 : CmpOp} {a b c : E} (h : chkE cx sc Γ (.cmp2 o1 o2 a b c) e = true) : ∃ l m r p, e = .Compare l [o1, o2] [m, r] p ∧ lastMarks [o1, o2] [m, r] = false ∧ chkE cx sc Γ a l = true ∧ chkE cx sc Γ b m = true ∧ chkE cx sc Γ c r = true := by
  obtain ⟨⟨l, os, rs⟩, h1, h⟩ := onO_true h
  obtain ⟨m, h2, h⟩ := onO_true h
  obtain ⟨r, h3, h⟩ := onO_true h
  obtain ⟨p, e1⟩ := asCmp_inv h1
  have e3 := one_inv h3
  simp only [Bool.and_eq_true, beq_iff_eq, Bool.not_eq_true'] at e1 e3 h h2
  obtain ⟨⟨⟨⟨rfl, h4⟩, h5⟩, h6⟩, h7⟩ := h
  cases rs with
  | nil => cases h2
  | cons q t =>
    cases h2
    simp only [List.tail_cons] at e3
    subst e3
    exact ⟨l, m, r, p, e1, h4, h5, h6, h7⟩
theorem inv_comp {elt : E} {x : Nat} {it : It} (h : chkE cx sc Γ (.comp elt x it) e = true) : ∃ el y py iter csc p, e = .ListComp el [⟨.Name y py, iter, [], 0⟩] csc p ∧ compOk sc csc Γ x y = true ∧ notSet iter = true ∧ chkIt cx sc Γ it iter = true ∧ chkE cx (relabelS csc sc) ((y, x) :: Γ) elt el = true := by
  obtain ⟨⟨el, gs, csc⟩, h1, h⟩ := onO_true h
  obtain ⟨⟨tg, iter, ifs, as⟩, h2, h⟩ := onO_true h
  obtain ⟨y, h3, h⟩ := onO_true h
  obtain ⟨p, e1⟩ := asComp_inv h1
  have e2 := one_inv h2
  obtain ⟨py, e3⟩ := asName_inv h3
  simp only [Bool.and_eq_true, beq_iff_eq] at e1 e2 e3 h
  obtain ⟨⟨⟨⟨⟨h4, rfl⟩, h5⟩, h6⟩, h7⟩, h8⟩ := h
  have e4 := isEmpty_inv h4
  subst e2 e3 e4
  exact ⟨el, y, py, iter, csc, p, e1, h5, h6, h7, h8⟩
theorem inv_compIf {elt c : E} {x : Nat} {it : It} (h : chkE cx sc Γ (.compIf elt x it c) e = true) : ∃ el y py iter ce csc p, e = .ListComp el [⟨.Name y py, iter, [ce], 0⟩] csc p ∧ compOk sc csc Γ x y = true ∧ notSet iter = true ∧ chkIt cx sc Γ it iter = true ∧ chkE cx (relabelS csc sc) ((y, x) :: Γ) elt el = true ∧ chkE cx (relabelS csc sc) ((y, x) :: Γ) c ce = true := by
  obtain ⟨⟨el, gs, csc⟩, h1, h⟩ := onO_true h
  obtain ⟨⟨tg, iter, ifs, as⟩, h2, h⟩ := onO_true h
  obtain ⟨y, h3, h⟩ := onO_true h
  obtain ⟨ce, h4, h⟩ := onO_true h
  obtain ⟨p, e1⟩ := asComp_inv h1
  have e2 := one_inv h2
  obtain ⟨py, e3⟩ := asName_inv h3
  have e4 := one_inv h4
  simp only [Bool.and_eq_true, beq_iff_eq] at e1 e2 e3 e4 h
  obtain ⟨⟨⟨⟨⟨rfl, h5⟩, h6⟩, h7⟩, h8⟩, h9⟩ := h
  subst e2 e3 e4
  exact ⟨el, y, py, iter, ce, csc, p, e1, h5, h6, h7, h8, h9⟩
theorem inv_consEs {a : E} {r : Es} {l : List PySem.Expr} (h : chkEs cx sc Γ (.cons a r) l = true) : ∃ x t, l = x :: t ∧ notStar x = true ∧ chkE cx sc Γ a x = true ∧ chkEs cx sc Γ r t = true := by
  obtain ⟨x, h1, h⟩ := onO_true h
  simp only [Bool.and_eq_true] at h
  cases l with
  | nil => cases h1
  | cons q t => cases h1; exact ⟨x, t, rfl, h.1.1, h.1.2, h.2⟩
theorem inv_nilEs {l : List PySem.Expr} (h : chkEs cx sc Γ .nil l = true) : l = [] := isEmpty_inv h
end
end Mine

namespace Mine
open PySem PyProof.Rows PySem.Calls

noncomputable def asB (r : R V) : R Bool := r.bind fun v σ => match v with | .bool b => .ok b σ | _ => .stuck
abbrev BRel : Heap → List Addr → Bool → Bool → Prop := fun _ _ b c => b = c

noncomputable def CS (T : Tp) (C : Nat → List V → Store → R V) (d : Nat) : Prop :=
  ∀ ⦃A : Around⦄ ⦃β : List Addr⦄ ⦃σ : Store⦄ ⦃s : Shared⦄ ⦃k : Nat⦄ ⦃a : Addr⦄ ⦃args : List V⦄ ⦃vals : List Value⦄, AOk A d → SR T β σ s → T.fa[k]? = some a → VRs T s.heap β args vals →
    Good T A β s (VRel T) (call (.ref a) vals) (C k args σ)

noncomputable def SndE (T : Tp) (cx : Cx) (G : List Int) (C : Nat → List V → Store → R V) (d : Nat) (ir : E) : Prop :=
  ∀ ⦃A : Around⦄ ⦃β : List Addr⦄ ⦃σ : Store⦄ ⦃s : Shared⦄ ⦃env : Env⦄ ⦃Γ : List (Str × Nat)⦄ ⦃ρ : Loc⦄ ⦃e : PySem.Expr⦄, chkE cx env.scope Γ ir e = true → SR T β σ s → ER T env Γ ρ β s → AOk A d →
    Good T A β s (VRel T) (eval e env) (evE T.ns G C ρ ir σ) ∧ Good T A β s BRel (isTrue e env (eval e env)) (asB (evE T.ns G C ρ ir σ))
noncomputable def SndEs (T : Tp) (cx : Cx) (G : List Int) (C : Nat → List V → Store → R V) (d : Nat) (ir : Es) : Prop :=
  ∀ ⦃A : Around⦄ ⦃β : List Addr⦄ ⦃σ : Store⦄ ⦃s : Shared⦄ ⦃env : Env⦄ ⦃Γ : List (Str × Nat)⦄ ⦃ρ : Loc⦄ ⦃es : List PySem.Expr⦄ (pos : Pos), chkEs cx env.scope Γ ir es = true → SR T β σ s → ER T env Γ ρ β s → AOk A d →
    Good T A β s (VsRel T) (spliced (backTo pos (starEach es env))) (evEs T.ns G C ρ ir σ)

section
variable {T : Tp} {cx : Cx} {G : List Int} {C : Nat → List V → Store → R V} {d : Nat}
variable {A : Around} {β : List Addr} {σ : Store} {s : Shared} {env : Env} {Γ : List (Str × Nat)} {ρ : Loc}

theorem plainT {e : PySem.Expr} {r : R V} (h : Good T A β s (VRel T) (eval e env) r) (he : isTrue e env (eval e env) = (do let v ← eval e env; standAt e.pos; holding [v] (truthy v))) :
    Good T A β s BRel (isTrue e env (eval e env)) (asB r) := by
  cases r with
  | stuck => exact trivial
  | err c σ' => exact fun Q E hE => isTrue_plain (h _ E hE) he
  | ok v σ' =>
    cases v with
    | bool b =>
      exact fun Q E hQ => isTrue_plain (h _ E fun v' s' β' x R y => by cases y; exact wpAny_truthy_bool (hQ _ _ _ x R rfl)) he
    | _ => exact trivial

theorem both {e : PySem.Expr} {r : R V} (h : Good T A β s (VRel T) (eval e env) r) (he : isTrue e env (eval e env) = (do let v ← eval e env; standAt e.pos; holding [v] (truthy v))) :
    Good T A β s (VRel T) (eval e env) r ∧ Good T A β s BRel (isTrue e env (eval e env)) (asB r) := ⟨h, plainT h he⟩

theorem snd_none : SndE T cx G C d .none := by
  intro A β σ s env Γ ρ e h0 R N a
  obtain ⟨c, h1, h⟩ := onO_true h0
  obtain ⟨k, p, rfl⟩ := asConst_inv h1
  clear h0 h1
  have := eq_of_beq h; subst this
  exact both (fun Q E hQ => wpAny_Constant_none (hQ _ _ _ (.refl _ _) R .none)) rfl
theorem snd_bool (b : Bool) : SndE T cx G C d (.bool b) := by
  intro A β σ s env Γ ρ e h0 R N a
  obtain ⟨c, h1, h⟩ := onO_true h0
  obtain ⟨k, p, rfl⟩ := asConst_inv h1
  clear h0 h1
  have := eq_of_beq h; subst this
  exact both (fun Q E hQ => wpAny_Constant_bool (hQ _ _ _ (.refl _ _) R (.bool _))) rfl
theorem snd_int (i : Int) : SndE T cx G C d (.int i) := by
  intro A β σ s env Γ ρ e h0 R N a
  obtain ⟨c, h1, h⟩ := onO_true h0
  obtain ⟨k, p, rfl⟩ := asConst_inv h1
  clear h0 h1
  have := eq_of_beq h; subst this
  exact both (fun Q E hQ => wpAny_Constant_int (hQ _ _ _ (.tok _) (R.tok _) (.int _ _))) rfl
theorem snd_str (x : Str) : SndE T cx G C d (.str x) := by
  intro A β σ s env Γ ρ e h0 R N a
  obtain ⟨c, h1, h⟩ := onO_true h0
  obtain ⟨k, p, rfl⟩ := asConst_inv h1
  clear h0 h1
  rw [Bool.and_eq_true] at h
  have := eq_of_beq h.1; subst this
  exact both (fun Q E hQ => wpAny_Constant_str (hQ _ _ _ (.tok _) (R.tok _) (.str _ _ h.2))) rfl
theorem snd_var (i : Nat) : SndE T cx G C d (.var i) := by
  intro A β σ s env Γ ρ e h0 R N a
  obtain ⟨x, h1, h⟩ := onO_true h0
  obtain ⟨p, rfl⟩ := asName_inv h1
  clear h0 h1
  simp only [Bool.and_eq_true, beq_iff_eq] at h
  exact both (good_var R N h.1.1 h.1.2 h.2) rfl
theorem snd_glob (X : TG T cx G) (g : Nat) : SndE T cx G C d (.glob g) := by
  intro A β σ s env Γ ρ e h0 R N a
  obtain ⟨x, h1, h⟩ := onO_true h0
  obtain ⟨p, rfl⟩ := asName_inv h1
  clear h0 h1
  simp only [Bool.and_eq_true, beq_iff_eq] at h
  exact both (eval_glob X R N h.2 h.1.1 h.1.2) rfl
theorem snd_bin (hT : T.Ok) (op : Operator) {x y : E} (hx : SndE T cx G C d x) (hy : SndE T cx G C d y) : SndE T cx G C d (.bin op x y) := by
  intro A β σ s env Γ ρ e h0 R N a
  obtain ⟨⟨l, o, r⟩, h1, h⟩ := onO_true h0
  obtain ⟨p, rfl⟩ := asBin_inv h1
  clear h0 h1
  simp only [Bool.and_eq_true, beq_iff_eq] at h
  obtain ⟨⟨rfl, h1⟩, h2⟩ := h
  exact both (Gd.tree (Gd.bind (hx h1 R N a).1 fun v v' σ1 s1 β1 x1 R1 y1 => Gd.bind (hy h2 R1 (N.ext x1) a).1 fun u u' σ2 s2 β2 x2 R2 y2 => good_bin hT R2 op (y1.ext x2) y2) fun Q E w => wpAny_BinOp w) rfl
theorem snd_not {x : E} (hx : SndE T cx G C d x) : SndE T cx G C d (.not x) := by
  intro A β σ s env Γ ρ e h0 R N a
  obtain ⟨⟨o, ex⟩, h1, h⟩ := onO_true h0
  obtain ⟨pos, rfl⟩ := asUn_inv h1
  clear h0 h1
  simp only [Bool.and_eq_true, beq_iff_eq] at h
  obtain ⟨rfl, h⟩ := h
  constructor
  · refine Gd.tree (Gd.bind (W' := fun v Q E s' => wpAny (model T.prog T.w) A (unaryOp .Not v) Q E s') (hx h R N a).1 fun v v' σ1 s1 β1 x1 R1 y1 => ?_) fun Q E w => UnaryOp_ w
    split
    · cases y1; exact fun Q E hQ => not_of (wpAny_truthy_bool (hQ _ _ _ (.refl _ _) R1 (.bool _)))
    · exact trivial
  · have := (hx h R N a).2
    change Good T A β s BRel _ (asB ((evE T.ns G C ρ x σ).bind fun x σ1 => match x with | .bool b => .ok (.bool (!b)) σ1 | _ => .stuck))
    unfold asB at this ⊢
    cases hr : evE T.ns G C ρ x σ with
    | stuck => exact trivial
    | err c σ' => rw [hr] at this; exact fun Q E hE => isTrue_not (this _ E hE)
    | ok v σ' =>
      rw [hr] at this
      cases v with
      | bool b => exact fun Q E hQ => isTrue_not (this _ E fun v' s' β' x R y => by cases y; exact hQ _ _ _ x R rfl)
      | _ => exact trivial
/-- and, or: the second part's tree -/
theorem snd_and {x y : E} (hx : SndE T cx G C d x) (hy : SndE T cx G C d y) : SndE T cx G C d (.and x y) := by
  intro A β σ s env Γ ρ e h0 R N a
  have key : ∀ (e1 e2 : PySem.Expr) (r : List PySem.Expr) (pos : Pos), chkE cx env.scope Γ x e1 = true →
      (∀ ⦃β1 σ1 s1⦄, SR T β1 σ1 s1 → ER T env Γ ρ β1 s1 → Good T A β1 s1 (VRel T) (eval (.BoolOp .And (e2 :: r) pos) env) (evE T.ns G C ρ y σ1)) →
      (∀ ⦃β1 σ1 s1⦄, SR T β1 σ1 s1 → ER T env Γ ρ β1 s1 → Good T A β1 s1 BRel (isTrue (.BoolOp .And (e2 :: r) pos) env (eval (.BoolOp .And (e2 :: r) pos) env)) (asB (evE T.ns G C ρ y σ1))) →
      Good T A β s (VRel T) (eval (.BoolOp .And (e1 :: e2 :: r) pos) env) (evE T.ns G C ρ (.and x y) σ) ∧
        Good T A β s BRel (isTrue (.BoolOp .And (e1 :: e2 :: r) pos) env (eval (.BoolOp .And (e1 :: e2 :: r) pos) env)) (asB (evE T.ns G C ρ (.and x y) σ)) := by
    intro e1 e2 r pos h1 k1 k2
    constructor
    · refine Gd.tree (Gd.bind (W' := fun v Q E s' => wpAny (model T.prog T.w) A (truthy v) (fun c s₂ => if c then wpAny (model T.prog T.w) A (eval (.BoolOp .And (e2 :: r) pos) env) Q E s₂ else Q v s₂) E s') (hx h1 R N a).1 fun v v' σ1 s1 β1 x1 R1 y1 => ?_) fun Q E w => BoolOp_and w
      split
      · cases y1; exact (k1 R1 (N.ext x1)).gd.of fun Q E w => wpAny_truthy_bool (by simpa using w)
      · cases y1; exact fun Q E hQ => wpAny_truthy_bool (by simpa using hQ _ _ _ (.refl _ _) R1 (.bool _))
      · exact trivial
    · have h1' := (hx h1 R N a).2
      change Good T A β s BRel _ (asB ((evE T.ns G C ρ x σ).bind fun x σ1 => match x with | .bool true => evE T.ns G C ρ y σ1 | .bool false => .ok (.bool false) σ1 | _ => .stuck))
      unfold asB at h1' ⊢
      cases hr : evE T.ns G C ρ x σ with
      | stuck => exact trivial
      | err c σ' =>
        rw [hr] at h1'
        exact fun Q E hE => wpAny_bind (m := isTrue e1 env (eval e1 env)) (h1' _ E hE)
      | ok v σ1 =>
        rw [hr] at h1'
        cases v with
        | bool b =>
          cases b with
          | true =>
            show Good T A β s BRel _ (asB (evE T.ns G C ρ y σ1))
            cases hr2 : evE T.ns G C ρ y σ1 with
            | stuck => exact trivial
            | err c σ2 =>
              intro Q E hE
              refine wpAny_bind (m := isTrue e1 env (eval e1 env)) (h1' _ E fun v' s' β' x1 R1 y1 => ?_)
              cases y1
              have := k2 R1 (N.ext x1)
              rw [hr2] at this
              exact this Q E fun e s2 β2 x2 R2 y2 => hE e s2 β2 (x1.trans x2) R2 y2
            | ok u σ2 =>
              cases u with
              | bool c =>
                intro Q E hQ
                refine wpAny_bind (m := isTrue e1 env (eval e1 env)) (h1' _ E fun v' s' β' x1 R1 y1 => ?_)
                cases y1
                have := k2 R1 (N.ext x1)
                rw [hr2] at this
                exact this Q E fun e s2 β2 x2 R2 y2 => hQ e s2 β2 (x1.trans x2) R2 y2
              | _ => exact trivial
          | false => exact fun Q E hQ => wpAny_bind (m := isTrue e1 env (eval e1 env)) (h1' _ E fun v' s' β' x1 R1 y1 => by cases y1; exact wpAny_pure (hQ _ _ _ x1 R1 rfl))
        | _ => exact trivial
  obtain ⟨⟨o, xs, pos⟩, h1, h⟩ := onO_true h0
  obtain ⟨e1, h2, h⟩ := onO_true h
  have e0 := asBool_inv h1
  simp only at e0 h h2
  subst e0
  clear h0 h1
  simp only [Bool.and_eq_true, beq_iff_eq] at h
  obtain ⟨⟨rfl, h3⟩, h4⟩ := h
  rcases xs with _ | ⟨x1, _ | ⟨e2, _ | ⟨e3, r⟩⟩⟩
  · cases h2
  · cases h4
  · cases h2
    have h4 : chkE cx env.scope Γ y e2 = true := h4
    refine key e1 e2 [] pos h3 (fun β1 σ1 s1 R1 N1 => (hy h4 R1 N1 a).1.gd.of fun Q E w => BoolOp_one w) (fun β1 σ1 s1 R1 N1 => ?_)
    refine (hy h4 R1 N1 a).2.gd.of fun Q E w => ?_
    show wpAny _ _ (isTrue e2 env (eval e2 env) >>= _) Q E s1
    refine wpAny_bind (wpAny_mono w (fun b s2 h2 => ?_) fun _ _ z => z)
    cases b with
    | true => exact wpAny_pure h2
    | false => exact wpAny_pure h2
  · cases h2
    exact key e1 e2 (e3 :: r) pos h3 (fun β1 σ1 s1 R1 N1 => (hy h4 R1 N1 a).1) (fun β1 σ1 s1 R1 N1 => (hy h4 R1 N1 a).2)
theorem snd_or {x y : E} (hx : SndE T cx G C d x) (hy : SndE T cx G C d y) : SndE T cx G C d (.or x y) := by
  intro A β σ s env Γ ρ e h0 R N a
  have key : ∀ (e1 e2 : PySem.Expr) (r : List PySem.Expr) (pos : Pos), chkE cx env.scope Γ x e1 = true →
      (∀ ⦃β1 σ1 s1⦄, SR T β1 σ1 s1 → ER T env Γ ρ β1 s1 → Good T A β1 s1 (VRel T) (eval (.BoolOp .Or (e2 :: r) pos) env) (evE T.ns G C ρ y σ1)) →
      (∀ ⦃β1 σ1 s1⦄, SR T β1 σ1 s1 → ER T env Γ ρ β1 s1 → Good T A β1 s1 BRel (isTrue (.BoolOp .Or (e2 :: r) pos) env (eval (.BoolOp .Or (e2 :: r) pos) env)) (asB (evE T.ns G C ρ y σ1))) →
      Good T A β s (VRel T) (eval (.BoolOp .Or (e1 :: e2 :: r) pos) env) (evE T.ns G C ρ (.or x y) σ) ∧
        Good T A β s BRel (isTrue (.BoolOp .Or (e1 :: e2 :: r) pos) env (eval (.BoolOp .Or (e1 :: e2 :: r) pos) env)) (asB (evE T.ns G C ρ (.or x y) σ)) := by
    intro e1 e2 r pos h1 k1 k2
    constructor
    · refine Gd.tree (Gd.bind (W' := fun v Q E s' => wpAny (model T.prog T.w) A (truthy v) (fun c s₂ => if c then Q v s₂ else wpAny (model T.prog T.w) A (eval (.BoolOp .Or (e2 :: r) pos) env) Q E s₂) E s') (hx h1 R N a).1 fun v v' σ1 s1 β1 x1 R1 y1 => ?_) fun Q E w => BoolOp_or w
      split
      · cases y1; exact fun Q E hQ => wpAny_truthy_bool (by simpa using hQ _ _ _ (.refl _ _) R1 (.bool _))
      · cases y1; exact (k1 R1 (N.ext x1)).gd.of fun Q E w => wpAny_truthy_bool (by simpa using w)
      · exact trivial
    · have h1' := (hx h1 R N a).2
      change Good T A β s BRel _ (asB ((evE T.ns G C ρ x σ).bind fun x σ1 => match x with | .bool true => .ok (.bool true) σ1 | .bool false => evE T.ns G C ρ y σ1 | _ => .stuck))
      unfold asB at h1' ⊢
      cases hr : evE T.ns G C ρ x σ with
      | stuck => exact trivial
      | err c σ' =>
        rw [hr] at h1'
        exact fun Q E hE => wpAny_bind (m := isTrue e1 env (eval e1 env)) (h1' _ E hE)
      | ok v σ1 =>
        rw [hr] at h1'
        cases v with
        | bool b =>
          cases b with
          | false =>
            show Good T A β s BRel _ (asB (evE T.ns G C ρ y σ1))
            cases hr2 : evE T.ns G C ρ y σ1 with
            | stuck => exact trivial
            | err c σ2 =>
              intro Q E hE
              refine wpAny_bind (m := isTrue e1 env (eval e1 env)) (h1' _ E fun v' s' β' x1 R1 y1 => ?_)
              cases y1
              have := k2 R1 (N.ext x1)
              rw [hr2] at this
              exact this Q E fun e s2 β2 x2 R2 y2 => hE e s2 β2 (x1.trans x2) R2 y2
            | ok u σ2 =>
              cases u with
              | bool c =>
                intro Q E hQ
                refine wpAny_bind (m := isTrue e1 env (eval e1 env)) (h1' _ E fun v' s' β' x1 R1 y1 => ?_)
                cases y1
                have := k2 R1 (N.ext x1)
                rw [hr2] at this
                exact this Q E fun e s2 β2 x2 R2 y2 => hQ e s2 β2 (x1.trans x2) R2 y2
              | _ => exact trivial
          | true => exact fun Q E hQ => wpAny_bind (m := isTrue e1 env (eval e1 env)) (h1' _ E fun v' s' β' x1 R1 y1 => by cases y1; exact wpAny_pure (hQ _ _ _ x1 R1 rfl))
        | _ => exact trivial
  obtain ⟨⟨o, xs, pos⟩, h1, h⟩ := onO_true h0
  obtain ⟨e1, h2, h⟩ := onO_true h
  have e0 := asBool_inv h1
  simp only at e0 h h2
  subst e0
  clear h0 h1
  simp only [Bool.and_eq_true, beq_iff_eq] at h
  obtain ⟨⟨rfl, h3⟩, h4⟩ := h
  rcases xs with _ | ⟨x1, _ | ⟨e2, _ | ⟨e3, r⟩⟩⟩
  · cases h2
  · cases h4
  · cases h2
    have h4 : chkE cx env.scope Γ y e2 = true := h4
    refine key e1 e2 [] pos h3 (fun β1 σ1 s1 R1 N1 => (hy h4 R1 N1 a).1.gd.of fun Q E w => BoolOp_one w) (fun β1 σ1 s1 R1 N1 => ?_)
    refine (hy h4 R1 N1 a).2.gd.of fun Q E w => ?_
    show wpAny _ _ (isTrue e2 env (eval e2 env) >>= _) Q E s1
    refine wpAny_bind (wpAny_mono w (fun b s2 h2 => ?_) fun _ _ z => z)
    cases b with
    | true => exact wpAny_pure h2
    | false => exact wpAny_pure h2
  · cases h2
    exact key e1 e2 (e3 :: r) pos h3 (fun β1 σ1 s1 R1 N1 => (hy h4 R1 N1 a).1) (fun β1 σ1 s1 R1 N1 => (hy h4 R1 N1 a).2)
end
end Mine

namespace Mine
open PySem PyProof.Rows PySem.Calls

section
variable {T : Tp} {cx : Cx} {G : List Int} {C : Nat → List V → Store → R V} {d : Nat}
variable {A : Around} {β : List Addr} {σ : Store} {s : Shared} {env : Env} {Γ : List (Str × Nat)} {ρ : Loc}

theorem snd_nil : SndEs T cx G C d .nil := by
  intro A β σ s env Γ ρ es pos h R N a
  cases es with
  | nil => exact fun Q E hQ => spliced_none (hQ _ _ _ (.refl _ _) R .nil)
  | cons e es => cases inv_nilEs h
theorem starEach_cons {e : PySem.Expr} {es : List PySem.Expr} (h : notStar e = true) : starEach (e :: es) env = (false, eval e env) :: starEach es env := by
  cases e <;> first | rfl | cases h
theorem snd_cons {x : E} {r : Es} (hx : SndE T cx G C d x) (hr : SndEs T cx G C d r) : SndEs T cx G C d (.cons x r) := by
  intro A β σ s env Γ ρ es pos h R N a
  obtain ⟨e, t, e0, h1, h2, h3⟩ := inv_consEs h
  clear h
  cases es with
  | nil => cases e0
  | cons e' es =>
    injection e0 with q1 q2
    subst q1 q2
    have h : (notStar e' = true ∧ chkE cx env.scope Γ x e' = true) ∧ chkEs cx env.scope Γ r es = true := ⟨⟨h1, h2⟩, h3⟩
    refine Gd.tree (W := fun Q E s => wpAny (model T.prog T.w) A (eval e' env) (fun v s₁ => wpAny (model T.prog T.w) A (spliced (backTo pos (starEach es env))) (fun vs s₂ => Q (v :: vs) s₂) E s₁) E s)
      (Gd.bind (W' := fun v Q E s₁ => wpAny (model T.prog T.w) A (spliced (backTo pos (starEach es env))) (fun vs s₂ => Q (v :: vs) s₂) E s₁) (hx h.1.2 R N a).1 fun v v' σ1 s1 β1 x1 R1 y1 =>
        Gd.bind (W' := fun vs Q _ s₂ => Q (v' :: vs) s₂) (hr pos h.2 R1 (N.ext x1) a) fun vs vs' σ2 s2 β2 x2 R2 y2 => fun Q E hQ => hQ _ _ _ (.refl _ _) R2 (.cons (y1.ext x2) y2)) fun Q E w => spliced_more w (starEach_cons h.1.1)

theorem snd_cmp (op : CmpOp) {x y : E} (hx : SndE T cx G C d x) (hy : SndE T cx G C d y) : SndE T cx G C d (.cmp op x y) := by
  intro A β σ s env Γ ρ e h0 R N a
  obtain ⟨l, r, pos, rfl, hm, h1, h2⟩ := inv_cmp h0
  clear h0
  constructor
  · exact Gd.tree (Gd.bind (hx h1 R N a).1 fun v v' σ1 s1 β1 x1 R1 y1 => Gd.bind (hy h2 R1 (N.ext x1) a).1 fun u u' σ2 s2 β2 x2 R2 y2 => good_cmp a.units' R2 op (y1.ext x2) y2) fun Q E w => wpAny_Compare1 w hm
  · have e : asB (evE T.ns G C ρ (.cmp op x y) σ) = (evE T.ns G C ρ x σ).bind fun v σ1 => (evE T.ns G C ρ y σ1).bind fun u σ2 => asB (Mine.R.ofB (cmpV σ2 op v u) σ2) := by
      change asB ((evE T.ns G C ρ x σ).bind fun v σ1 => (evE T.ns G C ρ y σ1).bind fun u σ2 => Mine.R.ofB (cmpV σ2 op v u) σ2) = _
      simp only [asB]
      cases evE T.ns G C ρ x σ with
      | stuck => rfl
      | err => rfl
      | ok v σ1 =>
        simp only [Mine.R.bind]
        cases evE T.ns G C ρ y σ1 <;> rfl
    rw [e]
    refine Gd.tree (Gd.bind (hx h1 R N a).1 fun v v' σ1 s1 β1 x1 R1 y1 => Gd.bind (W' := fun b Q E s₂ => wpAny (model T.prog T.w) A (compareOp op v' b) (fun c s₃ => wpAny (model T.prog T.w) A (truthy c) Q E s₃) E s₂) (hy h2 R1 (N.ext x1) a).1 fun u u' σ2 s2 β2 x2 R2 y2 => ?_) fun Q E w => wpAny_isTrue_Compare1 w hm
    refine Gd.bind (W' := fun c Q E s₃ => wpAny (model T.prog T.w) A (truthy c) Q E s₃) (good_cmp a.units' R2 op (y1.ext x2) y2).gd fun c c' σ3 s3 β3 x3 R3 y3 => ?_
    split
    · cases y3; exact fun Q E hQ => wpAny_truthy_bool (hQ _ _ _ (.refl _ _) R3 rfl)
    · exact trivial
theorem snd_cmp2 (o1 o2 : CmpOp) {x y z : E} (hx : SndE T cx G C d x) (hy : SndE T cx G C d y) (hz : SndE T cx G C d z) : SndE T cx G C d (.cmp2 o1 o2 x y z) := by
  intro A β σ s env Γ ρ e h0 R N a
  obtain ⟨l, m, r, pos, rfl, hm, h1, h2, h3⟩ := inv_cmp2 h0
  clear h0
  have hval : Good T A β s (VRel T) (eval (.Compare l [o1, o2] [m, r] pos) env) (evE T.ns G C ρ (.cmp2 o1 o2 x y z) σ) := by
    refine Gd.tree (Gd.bind (W' := fun v Q E s₁ => wpAny (model T.prog T.w) A (eval m env) (fun b s₁ => wpAny (model T.prog T.w) A (compareOp o1 v b) (fun c s₂ => wpAny (model T.prog T.w) A (truthy c)
        (fun t s₃ => if t then wpAny (model T.prog T.w) A (compareChain pos b [o2] [eval r env]) Q E s₃ else Q c s₃) E s₂) E s₁) E s₁) (hx h1 R N a).1 fun v v' σ1 s1 β1 x1 R1 y1 =>
      Gd.bind (W' := fun b Q E s₁ => wpAny (model T.prog T.w) A (compareOp o1 v' b) (fun c s₂ => wpAny (model T.prog T.w) A (truthy c)
        (fun t s₃ => if t then wpAny (model T.prog T.w) A (compareChain pos b [o2] [eval r env]) Q E s₃ else Q c s₃) E s₂) E s₁) (hy h2 R1 (N.ext x1) a).1 fun u u' σ2 s2 β2 x2 R2 y2 => ?_)
      fun Q E w => Compare_chain (wpAny_mono w (fun _ _ w' => chain_link w') fun _ _ e => e) hm
    have hc := good_cmp (A := A) a.units' R2 o1 (y1.ext x2) y2
    cases hk : cmpV σ2 o1 v u with
    | none => exact trivial
    | some b =>
      rw [hk] at hc
      cases b with
      | true =>
        have hg : Gd T β2 s2 (VRel T) (fun Q E s₃ => wpAny (model T.prog T.w) A (compareChain pos u' [o2] [eval r env]) Q E s₃) ((evE T.ns G C ρ z σ2).bind fun z' σ3 => Mine.R.ofB (cmpV σ3 o2 u z') σ3) :=
          Gd.of (Gd.bind (hz h3 R2 ((N.ext x1).ext x2) a).1 fun q q' σ3 s3 β3 x3 R3 y3 => good_cmp a.units' R3 o2 (y2.ext x3) y3) fun Q E w => chain_last w
        have hb : Gd T β2 s2 (VRel T) (fun Q E s₁ => wpAny (model T.prog T.w) A (compareOp o1 v' u') (fun c s₂ => wpAny (model T.prog T.w) A (truthy c)
            (fun t s₃ => if t then wpAny (model T.prog T.w) A (compareChain pos u' [o2] [eval r env]) Q E s₃ else Q c s₃) E s₂) E s₁) ((Mine.R.ok (V.bool true) σ2 : Mine.R V).bind fun _ τ => (evE T.ns G C ρ z τ).bind fun z' σ3 => Mine.R.ofB (cmpV σ3 o2 u z') σ3) := by
          refine Gd.bind (W' := fun c Q E s₂ => wpAny (model T.prog T.w) A (truthy c) (fun t s₃ => if t then wpAny (model T.prog T.w) A (compareChain pos u' [o2] [eval r env]) Q E s₃ else Q c s₃) E s₂) (Rel := fun h β v x => VR T h β v x ∧ x = .bool true) ?_ ?_
          · exact fun Q E hQ => hc Q E fun c s3 β3 x3 R3 y3 => hQ c s3 β3 x3 R3 ⟨y3, by cases y3; rfl⟩
          · rintro _ _ σ3 s3 β3 x3 R3 ⟨_, rfl⟩
            refine Gd.of (Gd.bind (hz h3 R3 (((N.ext x1).ext x2).ext x3) a).1 fun q q' σ4 s4 β4 x4 R4 y4 => good_cmp a.units' R4 o2 ((y2.ext x3).ext x4) y4) fun Q E w => wpAny_truthy_bool ?_
            simpa using chain_last w
        exact hb
      | false => exact fun Q E hQ => hc _ _ fun c s3 β3 x3 R3 y3 => by cases y3; exact wpAny_truthy_bool (by simpa using hQ _ _ _ x3 R3 (.bool _))
  refine ⟨hval, ?_⟩
  have e : asB (evE T.ns G C ρ (.cmp2 o1 o2 x y z) σ) = (evE T.ns G C ρ x σ).bind fun v σ1 => (evE T.ns G C ρ y σ1).bind fun u σ2 => asB (match cmpV σ2 o1 v u with
      | some true => (evE T.ns G C ρ z σ2).bind fun q σ3 => Mine.R.ofB (cmpV σ3 o2 u q) σ3
      | some false => .ok (.bool false) σ2
      | .none => .stuck) := by
    change asB ((evE T.ns G C ρ x σ).bind fun v σ1 => (evE T.ns G C ρ y σ1).bind fun u σ2 => match cmpV σ2 o1 v u with | some true => (evE T.ns G C ρ z σ2).bind fun q σ3 => Mine.R.ofB (cmpV σ3 o2 u q) σ3 | some false => .ok (.bool false) σ2 | .none => .stuck) = _
    simp only [asB]
    cases evE T.ns G C ρ x σ with
    | stuck => rfl
    | err => rfl
    | ok v σ1 =>
      simp only [Mine.R.bind]
      cases evE T.ns G C ρ y σ1 <;> rfl
  rw [e]
  refine Gd.tree (Gd.bind (W' := fun v Q E s₁ => wpAny (model T.prog T.w) A (eval m env) (fun b s₁ => wpAny (model T.prog T.w) A (compareOp o1 v b) (fun c s₂ => wpAny (model T.prog T.w) A (truthy c)
        (fun t s₃ => if t then wpAny (model T.prog T.w) A (testChain pos b [o2] [eval r env]) Q E s₃ else Q false s₃) E s₂) E s₁) E s₁) (hx h1 R N a).1 fun v v' σ1 s1 β1 x1 R1 y1 =>
      Gd.bind (W' := fun b Q E s₁ => wpAny (model T.prog T.w) A (compareOp o1 v' b) (fun c s₂ => wpAny (model T.prog T.w) A (truthy c)
        (fun t s₃ => if t then wpAny (model T.prog T.w) A (testChain pos b [o2] [eval r env]) Q E s₃ else Q false s₃) E s₂) E s₁) (hy h2 R1 (N.ext x1) a).1 fun u u' σ2 s2 β2 x2 R2 y2 => ?_)
      fun Q E w => isTrue_chain (wpAny_mono w (fun _ _ w' => test_link w') fun _ _ e => e) hm
  have hc := good_cmp (A := A) a.units' R2 o1 (y1.ext x2) y2
  cases hk : cmpV σ2 o1 v u with
  | none => exact trivial
  | some b =>
    rw [hk] at hc
    cases b with
    | true =>
      have hb : Gd T β2 s2 BRel (fun Q E s₁ => wpAny (model T.prog T.w) A (compareOp o1 v' u') (fun c s₂ => wpAny (model T.prog T.w) A (truthy c)
          (fun t s₃ => if t then wpAny (model T.prog T.w) A (testChain pos u' [o2] [eval r env]) Q E s₃ else Q false s₃) E s₂) E s₁) ((Mine.R.ok (V.bool true) σ2 : Mine.R V).bind fun _ τ => (evE T.ns G C ρ z τ).bind fun z' σ3 => asB (Mine.R.ofB (cmpV σ3 o2 u z') σ3)) := by
        refine Gd.bind (W' := fun c Q E s₂ => wpAny (model T.prog T.w) A (truthy c) (fun t s₃ => if t then wpAny (model T.prog T.w) A (testChain pos u' [o2] [eval r env]) Q E s₃ else Q false s₃) E s₂) (Rel := fun h β v x => VR T h β v x ∧ x = .bool true) ?_ ?_
        · exact fun Q E hQ => hc Q E fun c s3 β3 x3 R3 y3 => hQ c s3 β3 x3 R3 ⟨y3, by cases y3; rfl⟩
        · rintro _ _ σ3 s3 β3 x3 R3 ⟨_, rfl⟩
          refine Gd.of (W := fun Q E s₄ => wpAny (model T.prog T.w) A (eval r env) (fun b s₁ => wpAny (model T.prog T.w) A (compareOp o2 u' b) (fun c s₂ => wpAny (model T.prog T.w) A (truthy c) Q E s₂) E s₁) E s₄)
            (Gd.bind (W' := fun b Q E s₁ => wpAny (model T.prog T.w) A (compareOp o2 u' b) (fun c s₂ => wpAny (model T.prog T.w) A (truthy c) Q E s₂) E s₁) (hz h3 R3 (((N.ext x1).ext x2).ext x3) a).1 fun q q' σ4 s4 β4 x4 R4 y4 => ?_) fun Q E w => wpAny_truthy_bool ?_
          · refine Gd.bind (W' := fun c Q E s₃ => wpAny (model T.prog T.w) A (truthy c) Q E s₃) (good_cmp a.units' R4 o2 ((y2.ext x3).ext x4) y4).gd fun c c' σ5 s5 β5 x5 R5 y5 => ?_
            split
            · cases y5; exact fun Q E hQ => wpAny_truthy_bool (hQ _ _ _ (.refl _ _) R5 rfl)
            · exact trivial
          · simpa using test_last w
      have e2 : ∀ τ, asB ((evE T.ns G C ρ z τ).bind fun q σ3 => Mine.R.ofB (cmpV σ3 o2 u q) σ3) = (evE T.ns G C ρ z τ).bind fun z' σ3 => asB (Mine.R.ofB (cmpV σ3 o2 u z') σ3) := fun τ => by
        unfold asB; cases evE T.ns G C ρ z τ <;> rfl
      show Gd T β2 s2 BRel _ (asB ((evE T.ns G C ρ z σ2).bind fun q σ3 => Mine.R.ofB (cmpV σ3 o2 u q) σ3))
      rw [e2]
      exact hb
    | false => exact fun Q E hQ => hc _ _ fun c s3 β3 x3 R3 y3 => by cases y3; exact wpAny_truthy_bool (by simpa using hQ _ _ _ x3 R3 rfl)
theorem snd_list (hT : T.Ok) {es : Es} (h : SndEs T cx G C d es) : SndE T cx G C d (.list es) := by
  intro A β σ s env Γ ρ e h0 R N a
  obtain ⟨xs, h1, hc⟩ := onO_true h0
  obtain ⟨pos, rfl⟩ := asList_inv h1
  clear h0 h1
  exact both (Gd.tree (Gd.bind (h pos hc R N a) fun v v' σ1 s1 β1 x1 R1 y1 => good_newL hT R1 y1) fun Q E w => List_ w) rfl
theorem snd_tup (hT : T.Ok) {es : Es} (h : SndEs T cx G C d es) : SndE T cx G C d (.tup es) := by
  intro A β σ s env Γ ρ e h0 R N a
  obtain ⟨xs, h1, hc⟩ := onO_true h0
  obtain ⟨k, pos, rfl⟩ := asTuple_inv h1
  clear h0 h1
  refine both (Gd.tree (Gd.bind (W' := fun vs Q E s₁ => wpAny (model T.prog T.w) A (newTuple vs) Q E s₁) (h pos hc R N a) fun v v' σ1 s1 β1 x1 R1 y1 => ?_) fun Q E w => Tuple_ w) rfl
  split
  · rename_i hz; exact good_newTuple hT R1 y1 hz
  · exact trivial
theorem snd_idx (hT : T.Ok) {x y : E} (hx : SndE T cx G C d x) (hy : SndE T cx G C d y) : SndE T cx G C d (.idx x y) := by
  intro A β σ s env Γ ρ e h0 R N a
  obtain ⟨⟨v, i⟩, h1, h⟩ := onO_true h0
  obtain ⟨pos, rfl⟩ := asSub_inv h1
  clear h0 h1
  simp only [Bool.and_eq_true, Bool.not_eq_true'] at h
  exact both (Gd.tree (Gd.bind (hx h.1.2 R N a).1 fun v v' σ1 s1 β1 x1 R1 y1 => Gd.bind (hy h.2 R1 (N.ext x1) a).1 fun u u' σ2 s2 β2 x2 R2 y2 => good_idx hT R2 h.1.1 (y1.ext x2) y2) fun Q E w => Subscript_ w) rfl
end
end Mine

namespace Mine
open PySem PyProof.Rows PySem.Calls

section
variable {T : Tp} {cx : Cx} {G : List Int} {C : Nat → List V → Store → R V} {d : Nat}
variable {A : Around} {β : List Addr} {σ : Store} {s : Shared} {env : Env} {Γ : List (Str × Nat)} {ρ : Loc}

/-- a name of a built-in thing, met by the check -/
theorem eval_isB (X : TG T cx G) (R : SR T β σ s) (N : ER T env Γ ρ β s) {x : Str} {n : String} {v : Value} {pos : Pos} (h : isB env.scope x n = true) (hp : (Str.ofString n, v) ∈ builtinVals) {Q : Value → Shared → Prop} {E : Value → Shared → Prop} (hQ : Q v s) :
    wpAny (model T.prog T.w) A (eval (.Name x pos) env) Q E s := by
  simp only [isB, Bool.and_eq_true, beq_iff_eq] at h
  obtain ⟨⟨rfl, h2⟩, h3⟩ := h
  exact eval_builtin X R N hp h2 h3 hQ

theorem slice_tree {value : PySem.Expr} {lo hi : Option PySem.Expr} {p : Pos} {pos : Pos} {Q : Value → Shared → Prop} {E : Value → Shared → Prop}
    (h : wpAny (model T.prog T.w) A (eval value env) (fun o s₁ => wpAny (model T.prog T.w) A (valueOrNone (evalOpt lo env)) (fun l s₂ => wpAny (model T.prog T.w) A (valueOrNone (evalOpt hi env)) (fun u s₃ =>
      wpAny (model T.prog T.w) A (newFields "slice" [l, u, .none]) (fun i s₄ => wpAny (model T.prog T.w) A (subscriptTail value (.Slice lo hi none p) o i) Q E s₄) E s₃) E s₂) E s₁) E s) :
    wpAny (model T.prog T.w) A (eval (.Subscript value (.Slice lo hi none p) pos) env) Q E s := by
  refine Subscript_ (wpAny_mono h (fun o s₁ h₁ => ?_) fun _ _ e => e)
  show wpAny _ _ (do
    let l ← valueOrNone (evalOpt lo env)
    let u ← holding [l] (valueOrNone (evalOpt hi env))
    let s ← holding [l, u] (valueOrNone (evalOpt none env))
    newFields "slice" [l, u, s]) _ _ s₁
  exact wpAny_bind (wpAny_mono h₁ (fun l s₂ h₂ => wpAny_bind (wpAny_holding (wpAny_mono h₂ (fun u s₃ h₃ => wpAny_bind (wpAny_holding (wpAny_pure h₃))) fun _ _ e => e))) fun _ _ e => e)

theorem snd_sl (hT : T.Ok) {x y z : E} (hx : SndE T cx G C d x) (hy : SndE T cx G C d y) (hz : SndE T cx G C d z) : SndE T cx G C d (.sl x y z) := by
  intro A β σ s env Γ ρ e h0 R N a
  obtain ⟨⟨v, w⟩, h1, h⟩ := onO_true h0
  obtain ⟨⟨q1, q2, q3⟩, h2, h⟩ := onO_true h
  obtain ⟨pos, rfl⟩ := asSub_inv h1
  obtain ⟨p, e2⟩ := asSlice_inv h2
  obtain ⟨l, h3, h⟩ := onO_true h
  obtain ⟨hh, h4, h⟩ := onO_true h
  simp only at e2 h3 h4
  subst e2 h3 h4
  clear h0 h1 h2
  simp only [Bool.and_eq_true, Option.isNone_iff_eq_none] at h
  obtain ⟨⟨⟨rfl, h5⟩, h6⟩, h7⟩ := h
  have h := And.intro (And.intro h5 h6) h7
  refine both (Gd.tree (W := fun Q E s => wpAny (model T.prog T.w) A (eval v env) (fun o s₁ => wpAny (model T.prog T.w) A (eval l env) (fun l' s₂ => wpAny (model T.prog T.w) A (eval hh env) (fun u s₃ =>
    wpAny (model T.prog T.w) A (newFields "slice" [l', u, .none]) (fun i s₄ => wpAny (model T.prog T.w) A (subscriptTail v (.Slice (some l) (some hh) none p) o i) Q E s₄) E s₃) E s₂) E s₁) E s)
    (Gd.bind (W' := fun o Q E s₁ => wpAny (model T.prog T.w) A (eval l env) (fun l' s₂ => wpAny (model T.prog T.w) A (eval hh env) (fun u s₃ =>
    wpAny (model T.prog T.w) A (newFields "slice" [l', u, .none]) (fun i s₄ => wpAny (model T.prog T.w) A (subscriptTail v (.Slice (some l) (some hh) none p) o i) Q E s₄) E s₃) E s₂) E s₁)
      (hx h.1.1 R N a).1 fun v1 v1' σ1 s1 β1 x1 R1 y1 => Gd.bind (W' := fun l' Q E s₂ => wpAny (model T.prog T.w) A (eval hh env) (fun u s₃ =>
    wpAny (model T.prog T.w) A (newFields "slice" [l', u, .none]) (fun i s₄ => wpAny (model T.prog T.w) A (subscriptTail v (.Slice (some l) (some hh) none p) v1' i) Q E s₄) E s₃) E s₂)
      (hy h.1.2 R1 (N.ext x1) a).1 fun v2 v2' σ2 s2 β2 x2 R2 y2 => Gd.bind (W' := fun u Q E s₃ =>
    wpAny (model T.prog T.w) A (newFields "slice" [v2', u, .none]) (fun i s₄ => wpAny (model T.prog T.w) A (subscriptTail v (.Slice (some l) (some hh) none p) v1' i) Q E s₄) E s₃)
      (hz h.2 R2 ((N.ext x1).ext x2) a).1 fun v3 v3' σ3 s3 β3 x3 R3 y3 => ?_) fun Q E w => slice_tree w) rfl
  split
  · cases y2; cases y3
    exact good_slice hT R3 ⟨_, _, _, rfl⟩ ((y1.ext x2).ext x3) (.int _ _) (.int _ _)
  · exact trivial
theorem snd_slTo (hT : T.Ok) {x y : E} (hx : SndE T cx G C d x) (hy : SndE T cx G C d y) : SndE T cx G C d (.slTo x y) := by
  intro A β σ s env Γ ρ e h0 R N a
  obtain ⟨⟨v, w⟩, h1, h⟩ := onO_true h0
  obtain ⟨⟨q1, q2, q3⟩, h2, h⟩ := onO_true h
  obtain ⟨pos, rfl⟩ := asSub_inv h1
  obtain ⟨p, e2⟩ := asSlice_inv h2
  obtain ⟨l, h3, h⟩ := onO_true h
  simp only at e2 h3
  subst e2 h3
  clear h0 h1 h2
  simp only [Bool.and_eq_true, Option.isNone_iff_eq_none] at h
  obtain ⟨⟨⟨rfl, rfl⟩, h5⟩, h6⟩ := h
  have h := And.intro h5 h6
  refine both (Gd.tree (W := fun Q E s => wpAny (model T.prog T.w) A (eval v env) (fun o s₁ => wpAny (model T.prog T.w) A (eval l env) (fun l' s₂ =>
    wpAny (model T.prog T.w) A (newFields "slice" [.none, l', .none]) (fun i s₄ => wpAny (model T.prog T.w) A (subscriptTail v (.Slice none (some l) none p) o i) Q E s₄) E s₂) E s₁) E s)
    (Gd.bind (W' := fun o Q E s₁ => wpAny (model T.prog T.w) A (eval l env) (fun l' s₂ =>
    wpAny (model T.prog T.w) A (newFields "slice" [.none, l', .none]) (fun i s₄ => wpAny (model T.prog T.w) A (subscriptTail v (.Slice none (some l) none p) o i) Q E s₄) E s₂) E s₁)
      (hx h.1 R N a).1 fun v1 v1' σ1 s1 β1 x1 R1 y1 => Gd.bind (W' := fun l' Q E s₂ =>
    wpAny (model T.prog T.w) A (newFields "slice" [.none, l', .none]) (fun i s₄ => wpAny (model T.prog T.w) A (subscriptTail v (.Slice none (some l) none p) v1' i) Q E s₄) E s₂)
      (hy h.2 R1 (N.ext x1) a).1 fun v2 v2' σ2 s2 β2 x2 R2 y2 => ?_)
      fun Q E w => slice_tree (wpAny_mono w (fun _ _ w1 => wpAny_pure w1) fun _ _ e => e)) rfl
  split
  · cases y2
    exact good_slice hT R2 ⟨_, _, _, rfl⟩ (y1.ext x2) .none (.int _ _)
  · exact trivial
theorem snd_call (X : TG T cx G) (hC : CS T C d) (f : Nat) {es : Es} (h : SndEs T cx G C d es) : SndE T cx G C d (.call f es) := by
  intro A β σ s env Γ ρ e h0 R N a
  obtain ⟨⟨g, xs, ks, pos⟩, k1, hc⟩ := onO_true h0
  obtain ⟨x, k2, hc⟩ := onO_true hc
  have e1 := asCall_inv k1
  obtain ⟨px, e2⟩ := asName_inv k2
  simp only at e1 e2
  subst e1 e2
  clear h0 k1 k2
  simp only [Bool.and_eq_true, beq_iff_eq] at hc
  obtain ⟨⟨⟨⟨⟨k3, h1⟩, h2⟩, h3⟩, k5⟩, h4⟩ := hc
  have k3 := isEmpty_inv k3
  subst k3
  cases xs with
  | nil => cases k5
  | cons y ys =>
    obtain ⟨ad, ha, ⟨o, fd, ho, hd⟩, hev⟩ := eval_fn (A := A) (pos := px) X R N h3 h1 h2
    have hst : notStar y = true := by
      cases es with
      | nil => cases inv_nilEs h4
      | cons e es =>
        obtain ⟨q1, q2, q3, q4, _⟩ := inv_consEs h4
        injection q3 with q5 q6
        rw [q5]; exact q4
    refine both (Gd.tree (Gd.bind (W' := fun vs Q E s₁ => s₁.heap.get? ad = some o ∧ wpAny (model T.prog T.w) A (call (.ref ad) vs) Q E s₁) (h pos h4 R N a) fun vs vs' σ1 s1 β1 x1 R1 y1 =>
      Gd.conj (P := fun s₁ => s₁.heap.get? ad = some o) (R1.base _ _ ho) (hC a R1 ha y1).gd) fun Q E w => Call_ (hev _ _ (callWith_def_at (R.base _ _ ho) hd w (starEach_cons hst)))) rfl
/-- a built-in of one argument -/
theorem call_b1 (X : TG T cx G) (R : SR T β σ s) (N : ER T env Γ ρ β s) {x : Str} {px pos : Pos} {y : PySem.Expr} {n : String} (hb : isB env.scope x n = true) (hp : (Str.ofString n, Value.builtin n) ∈ builtinVals) (hs : notStar y = true) {Q : Value → Shared → Prop} {E : Value → Shared → Prop}
    (w : wpAny (model T.prog T.w) A (eval y env) (fun v s₁ => wpAny (model T.prog T.w) A (call (.builtin n) [v]) Q E s₁) E s) : wpAny (model T.prog T.w) A (eval (.Call (.Name x px) [y] [] pos) env) Q E s := by
  refine Call_ (eval_isB X R N hb hp ?_)
  exact callWith_builtin1 (spliced_more (wpAny_mono w (fun v s₁ h₁ => spliced_none h₁) fun _ _ e => e) (starEach_cons hs)) (starEach_cons hs)
theorem call_t1 (X : TG T cx G) (R : SR T β σ s) (N : ER T env Γ ρ β s) {x : Str} {px pos : Pos} {y : PySem.Expr} {n : String} (hb : isB env.scope x n = true) (hp : (Str.ofString n, Value.type n) ∈ builtinVals) (hs : notStar y = true) {Q : Value → Shared → Prop} {E : Value → Shared → Prop}
    (w : wpAny (model T.prog T.w) A (eval y env) (fun v s₁ => wpAny (model T.prog T.w) A (call (.type n) [v]) Q E s₁) E s) : wpAny (model T.prog T.w) A (eval (.Call (.Name x px) [y] [] pos) env) Q E s := by
  refine Call_ (eval_isB X R N hb hp ?_)
  exact PyProof.Rows.callWith_type1 (spliced_more (wpAny_mono w (fun v s₁ h₁ => spliced_none h₁) fun _ _ e => e) (starEach_cons hs)) (starEach_cons hs)
theorem call_b2 (X : TG T cx G) (R : SR T β σ s) (N : ER T env Γ ρ β s) {x : Str} {px pos : Pos} {y z : PySem.Expr} {n : String} (hb : isB env.scope x n = true) (hp : (Str.ofString n, Value.builtin n) ∈ builtinVals) (hs : notStar y = true) (ht : notStar z = true) {Q : Value → Shared → Prop} {E : Value → Shared → Prop}
    (w : wpAny (model T.prog T.w) A (eval y env) (fun v s₁ => wpAny (model T.prog T.w) A (eval z env) (fun u s₂ => wpAny (model T.prog T.w) A (call (.builtin n) [v, u]) Q E s₂) E s₁) E s) : wpAny (model T.prog T.w) A (eval (.Call (.Name x px) [y, z] [] pos) env) Q E s := by
  refine Call_ (eval_isB X R N hb hp ?_)
  exact callWith_builtin1 (spliced_more (wpAny_mono w (fun v s₁ h₁ => spliced_more (wpAny_mono h₁ (fun u s₂ h₂ => spliced_none h₂) fun _ _ e => e) (starEach_cons ht)) fun _ _ e => e) (starEach_cons hs)) (starEach_cons hs)
    (by rw [starEach_cons ht]; rfl)

theorem snd_len (hT : T.Ok) (X : TG T cx G) {x : E} (hx : SndE T cx G C d x) : SndE T cx G C d (.len x) := by
  intro A β σ s env Γ ρ e h0 R N a
  obtain ⟨z, px, y, pos, rfl, h⟩ := onCall1_inv h0
  clear h0
  simp only [Bool.and_eq_true] at h
  exact both (Gd.tree (Gd.bind (hx h.2 R N a).1 fun v v' σ1 s1 β1 x1 R1 y1 => good_len hT R1 y1) fun Q E w => call_b1 X R N h.1.1 (by simp [builtinVals]) h.1.2 w) rfl
theorem snd_listOf (hT : T.Ok) (X : TG T cx G) {x : E} (hx : SndE T cx G C d x) : SndE T cx G C d (.listOf x) := by
  intro A β σ s env Γ ρ e h0 R N a
  obtain ⟨z, px, y, pos, rfl, h⟩ := onCall1_inv h0
  clear h0
  simp only [Bool.and_eq_true] at h
  refine both (Gd.tree (Gd.bind (W' := fun v Q E s₁ => wpAny (model T.prog T.w) A (call (.type "list") [v]) Q E s₁) (hx h.2 R N a).1 fun v v' σ1 s1 β1 x1 R1 y1 => ?_) fun Q E w => call_t1 X R N h.1.1 (by simp [builtinVals]) h.1.2 w) rfl
  split
  · split
    · rename_i hs; exact good_listOf hT R1 y1 hs
    · exact trivial
  · exact trivial
theorem snd_toInt (X : TG T cx G) {x : E} (hx : SndE T cx G C d x) : SndE T cx G C d (.toInt x) := by
  intro A β σ s env Γ ρ e h0 R N a
  obtain ⟨z, px, y, pos, rfl, h⟩ := onCall1_inv h0
  clear h0
  simp only [Bool.and_eq_true] at h
  refine both (Gd.tree (Gd.bind (W' := fun v Q E s₁ => wpAny (model T.prog T.w) A (call (.type "int") [v]) Q E s₁) (hx h.2 R N a).1 fun v v' σ1 s1 β1 x1 R1 y1 => ?_) fun Q E w => call_t1 X R N h.1.1 (by simp [builtinVals]) h.1.2 w) rfl
  split
  · cases y1; exact good_toInt R1
  · exact trivial
theorem snd_listRange (hT : T.Ok) (X : TG T cx G) {x : E} (hx : SndE T cx G C d x) : SndE T cx G C d (.listRange x) := by
  intro A β σ s env Γ ρ e h0 R N a
  obtain ⟨z, px, w, pos, rfl, h8⟩ := onCall1_inv h0
  obtain ⟨z2, px2, y, pos2, rfl, h⟩ := onCall1_inv h8
  clear h0 h8
  simp only [Bool.and_eq_true] at h
  refine both (Gd.tree (Gd.bind (W' := fun v Q E s₁ => wpAny (model T.prog T.w) A (call (.type "range") [v]) (fun r s' => wpAny (model T.prog T.w) A (call (.type "list") [r]) Q E s') E s₁) (hx h.2 R N a).1 fun v v' σ1 s1 β1 x1 R1 y1 => ?_)
    fun Q E w => call_t1 X R N h.1.1.1 (by simp [builtinVals]) rfl (call_t1 X R N h.1.1.2 (by simp [builtinVals]) h.1.2 w)) rfl
  split
  · cases y1
    split
    · rename_i hz; exact good_listRange a.handled hT R1 hz.1 hz.2
    · exact trivial
  · exact trivial
theorem snd_listRev (hT : T.Ok) (X : TG T cx G) {x : E} (hx : SndE T cx G C d x) : SndE T cx G C d (.listRev x) := by
  intro A β σ s env Γ ρ e h0 R N a
  obtain ⟨z, px, w, pos, rfl, h8⟩ := onCall1_inv h0
  obtain ⟨z2, px2, y, pos2, rfl, h⟩ := onCall1_inv h8
  clear h0 h8
  simp only [Bool.and_eq_true] at h
  refine both (Gd.tree (Gd.bind (W' := fun v Q E s₁ => wpAny (model T.prog T.w) A (call (.type "reversed") [v]) (fun r s' => wpAny (model T.prog T.w) A (call (.type "list") [r]) Q E s') E s₁) (hx h.2 R N a).1 fun v v' σ1 s1 β1 x1 R1 y1 => ?_)
    fun Q E w => call_t1 X R N h.1.1.1 (by simp [builtinVals]) rfl (call_t1 X R N h.1.1.2 (by simp [builtinVals]) h.1.2 w)) rfl
  split
  · split
    · rename_i hs; exact good_listRev a.handled hT R1 y1 hs
    · exact trivial
  · exact trivial
theorem snd_isinst (X : TG T cx G) {x : E} (t : Ty) (hx : SndE T cx G C d x) : SndE T cx G C d (.isinst x t) := by
  intro A β σ s env Γ ρ e h0 R N a
  obtain ⟨z, px, y, w, pos, rfl, h8⟩ := onCall2_inv h0
  obtain ⟨z2, h9, h⟩ := onO_true h8
  obtain ⟨px2, rfl⟩ := asName_inv h9
  clear h0 h8 h9
  simp only [Bool.and_eq_true] at h
  obtain ⟨⟨⟨h1, h2⟩, h3⟩, h4⟩ := h
  refine both (Gd.tree (Gd.bind (W' := fun v Q E s₁ => wpAny (model T.prog T.w) A (eval _ env) (fun u s₂ => wpAny (model T.prog T.w) A (call (.builtin "isinstance") [v, u]) Q E s₂) E s₁) (hx h4 R N a).1 fun v v' σ1 s1 β1 x1 R1 y1 => ?_)
    fun Q E w => call_b2 X R N h1 (by simp [builtinVals]) h3 rfl w) rfl
  exact (good_isinst R1 y1 t).gd.of fun Q E w => eval_isB X R1 (N.ext x1) h2 (by cases t <;> simp [builtinVals, Ty.name]) w
end
end Mine

namespace Mine
open PySem PyProof.Rows PySem.Calls

section
variable {T : Tp} {cx : Cx} {G : List Int} {C : Nat → List V → Store → R V} {d : Nat}
variable {A : Around} {β : List Addr} {σ : Store} {s : Shared} {env : Env} {Γ : List (Str × Nat)} {ρ : Loc}

/-- an object that stands aside is taken into the store -/
theorem SR.adopt {D : Addr} {c : Cell} (R : SR T β σ s) (hD : D ∉ β) (h0 : T.h₀.get? D = none) (hs : D ≠ sysModules) (hnt : ∀ (vals : Array Value) n, s.heap.get? D ≠ some { cls := .type "tuple", data := .seq vals n })
    (hc : CR T s.heap (β ++ [D]) c D) : SR T (β ++ [D]) (σ ++ [c]) s ∧ (∀ v x, VR T s.heap β v x → VR T s.heap (β ++ [D]) v x) ∧ VR T s.heap (β ++ [D]) (.ref σ.length) (.ref D) := by
  have hat : ∀ (i : Nat) b, β[i]? = some b → (β ++ [D])[i]? = some b := fun i b e => by
    rw [List.getElem?_append_left (List.getElem?_eq_some_iff.mp e).1]; exact e
  have hk : ∀ b (vals : Array Value) n, b ∉ β → s.heap.get? b = some { cls := .type "tuple", data := .seq vals n } → s.heap.get? b = some { cls := .type "tuple", data := .seq vals n } ∧ b ∉ β ++ [D] := fun b vals n hb e => ⟨e, fun hm => by
    rcases List.mem_append.mp hm with h | h
    · exact hb h
    · simp at h; subst h; exact hnt _ _ e⟩
  refine ⟨⟨by simp [R.len], ?_, ?_, ?_, R.base⟩, fun v x h => h.monoT hat hk, .ref ?_⟩
  · rw [List.nodup_append]; exact ⟨R.nodup, by simp, fun x hx y hy => by simp at hy; subst hy; intro e; exact hD (e ▸ hx)⟩
  · intro b hm
    rcases List.mem_append.mp hm with h | h
    · exact R.lo b h
    · simp at h; subst h; exact ⟨h0, hs⟩
  · intro i c' b hc' hb'
    by_cases hi : i < σ.length
    · rw [List.getElem?_append_left hi] at hc'
      rw [List.getElem?_append_left (by rw [R.len]; exact hi)] at hb'
      have := R.cell i c' b hc' hb'
      cases c' with
      | list vs => obtain ⟨vals, hl, hv, hz⟩ := this; exact ⟨vals, hl, hv.monoT hat hk, hz⟩
      | dictI kvs => exact this
      | dictS kvs => exact this
    · have : i = σ.length := by
        have := (List.getElem?_eq_some_iff.mp hc').1
        simp at this; omega
      subst this
      simp at hc'
      rw [← R.len] at hb'
      simp at hb'
      subst hc' hb'
      exact hc
  · rw [← R.len]; simp
theorem Ext.adopt {D : Addr} {β' : List Addr} {s' : Shared} (x : Ext β s β' s') (h : s.heap.get? D = none) : Ext β s (β' ++ [D]) s' :=
  ⟨x.pre.trans (List.prefix_append _ _), fun a ha => by
    rcases List.mem_append.mp ha with q | q
    · exact x.new a q
    · simp at q; subst q; exact .inr h, x.keep, x.gens, x.os⟩

inductive PairsR (h : Heap) (β : List Addr) : List Str → List V → List (Value × Value) → Prop
  | nil : PairsR h β [] [] []
  | cons {k : Str} {t : Tok} {v : V} {x : Value} {ks : List Str} {vs : List V} {ps : List (Value × Value)} : VR T h β v x → PairsR h β ks vs ps → PairsR h β (k :: ks) (v :: vs) ((.str k t, x) :: ps)

noncomputable def EsAll (P : E → Prop) : Es → Prop
  | .nil => True
  | .cons e r => P e ∧ EsAll P r
theorem snd_all : ∀ (es : Es), EsAll (SndE T cx G C d) es → SndEs T cx G C d es
  | .nil, _ => snd_nil
  | .cons _ r, h => snd_cons h.1 (snd_all r h.2)

theorem pairs_snd : ∀ (es : Es) ⦃A : Around⦄ ⦃β : List Addr⦄ ⦃σ : Store⦄ ⦃s : Shared⦄ (ks : List Str) (keys : List (Option PySem.Expr)) (xs : List PySem.Expr) (pos : Pos), EsAll (SndE T cx G C d) es → keysOk ks keys = true → ks.length = xs.length → chkEs cx env.scope Γ es xs = true → SR T β σ s → ER T env Γ ρ β s → AOk A d →
    Good T A β s (fun h β vs ps => PairsR (T := T) h β ks vs ps) (evalPairs (pairTrees keys xs env pos)) (evEs T.ns G C ρ es σ)
  | .nil, A, β, σ, s, ks, keys, xs, pos, _, hk, hl, hc, R, N, a => by
    cases xs with
    | cons x xs => cases inv_nilEs hc
    | nil =>
      cases ks with
      | cons k ks => simp at hl
      | nil =>
        cases keys with
        | cons k ks => cases keys_nil hk
        | nil => exact fun Q E hQ => wpAny_pure (hQ _ _ _ (.refl _ _) R .nil)
  | .cons e r, A, β, σ, s, ks, keys, xs, pos, hs, hk, hl, hc, R, N, a => by
    cases xs with
    | nil => obtain ⟨_, _, q, _⟩ := inv_consEs hc; cases q
    | cons x xs =>
      cases ks with
      | nil => simp at hl
      | cons k ks =>
        obtain ⟨q1, q2, t', hkk, hk⟩ := keys_cons hk
        cases keys with
        | nil => cases hkk
        | cons key keys =>
          injection hkk with e3 e4
          subst e3 e4
          · skip
            obtain ⟨x', xs', q0, c1, c2, c3⟩ := inv_consEs hc
            injection q0 with q3 q4
            subst q3 q4
            have hc := And.intro (And.intro c1 c2) c3
            have ih := fun β1 σ1 s1 (R1 : SR T β1 σ1 s1) N1 => pairs_snd r (A := A) (β := β1) (σ := σ1) (s := s1) ks keys xs pos hs.2 hk (by simpa using hl) hc.2 R1 N1 a
            refine Gd.tree (W := fun Q E s₀ => wpAny (model T.prog T.w) A (eval x env) (fun v s₁ => wpAny (model T.prog T.w) A (evalPairs (pairTrees keys xs env pos)) (fun ps s₂ => Q ((.str k s.toks, v) :: ps) s₂) E s₁) E { s₀ with toks := s₀.toks + 1 })
              ?_ fun Q E w => ?_
            · have hev := (hs.1 hc.1.2 (R.tok (s.toks + 1)) (N.ext (.tok (s.toks + 1))) a).1
              have hb := Gd.bind (W' := fun v Q E s₁ => wpAny (model T.prog T.w) A (evalPairs (pairTrees keys xs env pos)) (fun ps s₂ => Q ((.str k s.toks, v) :: ps) s₂) E s₁) (Rel' := fun h β vs ps => PairsR (T := T) h β (k :: ks) vs ps) hev.gd
                fun v v' σ1 s1 β1 x1 R1 y1 => Gd.bind (W' := fun ps Q _ s₂ => Q ((.str k s.toks, v') :: ps) s₂) (g := fun vs σ2 => .ok (v :: vs) σ2) (ih β1 σ1 s1 R1 ((N.ext (.tok (s.toks + 1))).ext x1)).gd
                  fun vs vs' σ2 s2 β2 x2 R2 y2 => fun Q E hQ => hQ _ _ _ (.refl _ _) R2 (.cons (y1.ext x2) y2)
              change Gd T β s _ _ ((evE T.ns G C ρ e σ).bind fun v σ1 => (evEs T.ns G C ρ r σ1).bind fun vs σ2 => Mine.R.ok (v :: vs) σ2)
              cases hr : (evE T.ns G C ρ e σ).bind fun v σ1 => (evEs T.ns G C ρ r σ1).bind fun vs σ2 => Mine.R.ok (v :: vs) σ2 with
              | stuck => exact trivial
              | ok u σ' => rw [hr] at hb; exact fun Q E hQ => hb Q E fun u' s' β' x R y => hQ u' s' β' ((Ext.tok _).trans x) R y
              | err u σ' => rw [hr] at hb; exact fun Q E hQ => hb Q E fun u' s' β' x R y => hQ u' s' β' ((Ext.tok _).trans x) R y
            · show wpAny _ _ (do
                let kv ← eval (.Constant (.str k) q1 q2) env
                let vv ← holding [kv] (do let x ← eval x env; standAt pos; pure x)
                return (kv, vv) :: (← holding [kv, vv] (evalPairs (pairTrees keys xs env pos)))) _ _ s
              refine wpAny_bind (wpAny_Constant_str (wpAny_bind (wpAny_holding (wpAny_bind (wpAny_mono w (fun v s₁ h₁ => wpAny_bind (wpAny_standAt (wpAny_pure ?_))) fun _ _ e => e)))))
              exact wpAny_bind (wpAny_holding (wpAny_mono h₁ (fun ps s₂ h₂ => wpAny_pure h₂) fun _ _ e => e))

theorem PairsR.carries {h : Heap} : ∀ {ks : List Str} {vs : List V} {ps : List (Value × Value)} {l : List Int}, PairsR (T := T) h β ks vs ps → intsOf vs = some l →
    ∃ kvs : List (Str × Value), Carries (strKind T.prog T.w) ps kvs ∧ kvs.map (·.1) = ks ∧ IntPairs (ks.zip l) kvs
  | _, _, _, _, .nil, hl => by simp [intsOf] at hl; subst hl; exact ⟨[], trivial, rfl, .nil⟩
  | _, _, _, _, .cons (k := k) (t := t) a r, hl => by
    cases a with
    | int i u =>
      simp only [intsOf] at hl
      cases h1 : intsOf _ with
      | none => rw [h1] at hl; cases hl
      | some l' =>
        rw [h1] at hl; cases hl
        obtain ⟨kvs, c1, c2, c3⟩ := PairsR.carries r h1
        exact ⟨(k, .int i u) :: kvs, ⟨strKind_is _ _ _ _, rfl, c1⟩, by simp [c2], .cons c3⟩
    | _ => simp [intsOf] at hl

theorem nodupB_nodup : ∀ {l : List Str}, nodupB l = true → l.Nodup
  | [], _ => .nil
  | x :: r, h => by
    simp only [nodupB, Bool.and_eq_true, Bool.not_eq_true'] at h
    rw [List.nodup_cons]
    exact ⟨by simpa using h.1, nodupB_nodup h.2⟩

theorem merged_nodup {K : Type} [DecidableEq K] : ∀ (kvs acc : List (K × Value)), ((acc ++ kvs).map (·.1)).Nodup → merged acc kvs = acc ++ kvs
  | [], acc, _ => by simp [merged]
  | (k, v) :: r, acc, h => by
    have hn : acc.any (fun kv => kv.1 = k) = false := by
      rw [List.any_eq_false]
      intro p hp e
      simp only [List.map_append, List.map_cons] at h
      have := (List.nodup_append.mp h).2.2 p.1 (List.mem_map_of_mem hp) k (by simp)
      exact this (by simpa using e)
    show merged (stored acc k v) r = _
    have e : stored acc k v = acc ++ [(k, v)] := by unfold stored; rw [hn]; rfl
    rw [e, merged_nodup r (acc ++ [(k, v)]) (by simpa using h)]
    simp

theorem snd_dictS (hT : T.Ok) (ks : List Str) {es : Es} (hes : EsAll (SndE T cx G C d) es) : SndE T cx G C d (.dictS ks es) := by
  intro A β σ s env Γ ρ e h0 R N a
  obtain ⟨⟨keys, xs⟩, k1, h⟩ := onO_true h0
  obtain ⟨pos, e0⟩ := asDict_inv k1
  simp only at e0
  subst e0
  clear h0 k1
  simp only [Bool.and_eq_true, decide_eq_true_eq] at h
  obtain ⟨⟨⟨⟨⟨⟨h1, h2⟩, h3⟩, h4⟩, h5⟩, h6⟩, h7⟩ := h
  have hkeys : ∀ (ks : List Str) (keys : List (Option PySem.Expr)), keysOk ks keys = true → keys.all (·.isSome) = true ∧ keys.length = ks.length := by
    intro ks
    induction ks with
    | nil => intro keys hk; rw [keys_nil hk]; exact ⟨rfl, rfl⟩
    | cons k ks ih =>
      intro keys hk
      obtain ⟨q1, q2, t', hkk, hk2⟩ := keys_cons hk
      subst hkk
      have := ih t' hk2
      exact ⟨by rw [List.all_cons, this.1]; rfl, by rw [List.length_cons, List.length_cons, this.2]⟩
  obtain ⟨k1, k2⟩ := hkeys ks keys h1
  refine both ?_ rfl
  obtain ⟨f1, f2, f3, f4⟩ := R.fresh hT
  have hk0 : ∀ b o, s.heap.get? b = some o → (s.heap.push { cls := .type "dict", data := .dict #[] }).get? b = some o := fun b o e => Heap.get?_push_of_some _ e
  have x0 : Ext β s β { s with heap := s.heap.push { cls := .type "dict", data := .dict #[] } } := .keeps hk0 rfl rfl
  have R0 : SR T β σ { s with heap := s.heap.push { cls := .type "dict", data := .dict #[] } } := R.keeps hk0
  have hp := pairs_snd (cx := cx) (G := G) (C := C) (d := d) es ks keys xs pos hes h1 h3 h2 R0 (N.ext x0) a
  change Good T A β s (VRel T) _ ((evEs T.ns G C ρ es σ).bind fun vs σ1 => match intsOf vs with | some l => .ok (.ref σ1.length) (σ1 ++ [.dictS (ks.zip l)]) | .none => .stuck)
  cases hr : evEs T.ns G C ρ es σ with
  | stuck => exact trivial
  | err c σ' => rw [hr] at hp; exact fun Q E hE => wpAny_Dict_walk (knd := strKind T.prog T.w) k1 (by rw [k2]; exact h3) (by intro q; rw [q] at k2; simp at k2; omega) (by omega) (hp _ E fun e s' β' x R y => hE e s' β' (x0.trans x) R y)
  | ok vs σ1 =>
    rw [hr] at hp
    show Good T A β s (VRel T) _ (match intsOf vs with | some l => .ok (.ref σ1.length) (σ1 ++ [.dictS (ks.zip l)]) | .none => .stuck)
    cases hl : intsOf vs with
    | none => exact trivial
    | some l =>
      intro Q E hQ
      refine wpAny_Dict_walk (knd := strKind T.prog T.w) k1 (by rw [k2]; exact h3) (by intro q; rw [q] at k2; simp at k2; omega) (by omega) (hp _ E fun ps s1 β1 x1 R1 y1 => ?_)
      obtain ⟨kvs, c1, c2, c3⟩ := y1.carries hl
      have hDn : s.heap.objs.size ∉ β1 := x1.nin f4 (Heap.get?_push_size _ rfl)
      have hD1 : s1.heap.get? s.heap.objs.size = some { cls := .type "dict", data := .dict #[] } := x1.keep _ _ f4 (Heap.get?_push_size _ rfl)
      refine ⟨kvs, c1, Heap.DictOf.at (Heap.DictOf.new s.heap) (fun o e => ?_), fun h' hd' hsb => ?_⟩
      · rw [Heap.get?_push_size _ rfl] at e; cases e; exact hD1
      · have hm : merged [] kvs = kvs := by rw [merged_nodup kvs [] (by simp only [List.nil_append, c2]; exact nodupB_nodup h6)]; rfl
        rw [hm] at hd'
        have hnt1 : ∀ (vals : Array Value) n, s1.heap.get? s.heap.objs.size ≠ some { cls := .type "tuple", data := .seq vals n } := fun vals n e => by rw [hD1] at e; simp at e
        have R2 : SR T β1 σ1 { s1 with heap := h', toks := s1.toks + ps.length } := R1.frame (s' := { s1 with heap := h', toks := s1.toks + ps.length }) hsb hDn f1 hnt1
        have hnt2 : ∀ (vals : Array Value) n, h'.get? s.heap.objs.size ≠ some { cls := .type "tuple", data := .seq vals n } := fun vals n e => by
          obtain ⟨ep, o, es', ho, _, hdd, _⟩ := hd'.dictAt; rw [ho] at e; cases e; cases hdd
        obtain ⟨R3, _, y3⟩ := R2.adopt (c := .dictS (ks.zip l)) hDn f1 f2 hnt2 ⟨kvs, hd', c3⟩
        have x2 : Ext β s β1 { s1 with heap := h', toks := s1.toks + ps.length } := by
          have := x0.trans x1
          exact ⟨this.pre, this.new, fun b o hb ho => (hsb.2 b (fun q => by rw [q, f3] at ho; cases ho)).trans (this.keep b o hb ho), this.gens, this.os⟩
        exact hQ _ _ _ (x2.adopt f3) R3 y3
end
end Mine

namespace Mine
open PySem PyProof.Rows PySem.Calls

section
variable {T : Tp} {cx : Cx} {G : List Int} {C : Nat → List V → Store → R V} {d : Nat}
variable {A : Around} {β : List Addr} {σ : Store} {s s' : Shared} {env : Env} {Γ : List (Str × Nat)} {ρ : Loc}

/-- an address that is neither the store's nor the base's, and bears no tuple -/
structure Aside (T : Tp) (β : List Addr) (s : Shared) (b : Addr) : Prop where
  nin : b ∉ β
  base : T.h₀.get? b = none
  nt : ∀ (vals : Array Value) n, s.heap.get? b ≠ some { cls := .type "tuple", data := .seq vals n }

theorem Aside.tup {b : Addr} (a : Aside T β s b) (hs : Heap.ExtBut b s.heap s'.heap) :
    ∀ c (vals : Array Value) n, c ∉ β → s.heap.get? c = some { cls := .type "tuple", data := .seq vals n } → s'.heap.get? c = some { cls := .type "tuple", data := .seq vals n } ∧ c ∉ β :=
  fun c vals n hc e => ⟨hs c _ (fun q => a.nt vals n (q ▸ e)) e, hc⟩
theorem VR.aside {b : Addr} (a : Aside T β s b) (hs : Heap.ExtBut b s.heap s'.heap) {v : V} {x : Value} (h : VR T s.heap β v x) : VR T s'.heap β v x := h.monoT (fun _ _ e => e) (a.tup hs)
theorem VRs.aside {b : Addr} (a : Aside T β s b) (hs : Heap.ExtBut b s.heap s'.heap) {v : List V} {x : List Value} (h : VRs T s.heap β v x) : VRs T s'.heap β v x := h.monoT (fun _ _ e => e) (a.tup hs)
theorem SR.aside {b : Addr} (R : SR T β σ s) (a : Aside T β s b) (hs : Heap.ExtBut b s.heap s'.heap) : SR T β σ s' := by
  have hk := a.tup hs
  refine ⟨R.len, R.nodup, R.lo, fun i c ad hc ha => ?_, fun c o e => hs c o (fun q => by subst q; rw [a.base] at e; cases e) (R.base c o e)⟩
  have hne : ad ≠ b := fun q => a.nin (q ▸ List.mem_of_getElem? ha)
  have hat : ∀ o, s.heap.get? ad = some o → s'.heap.get? ad = some o := fun o e => hs ad o hne e
  have := R.cell i c ad hc ha
  cases c with
  | list vs => obtain ⟨vals, hl, hv, hz⟩ := this; exact ⟨vals, hl.at hat, hv.monoT (fun _ _ e => e) hk, hz⟩
  | dictI kvs => obtain ⟨kv, hd, hp⟩ := this; exact ⟨kv, hd.at hat, hp⟩
  | dictS kvs => obtain ⟨kv, hd, hp⟩ := this; exact ⟨kv, hd.at hat, hp⟩
theorem ER.aside {b : Addr} (N : ER T env Γ ρ β s) (a : Aside T β s b) (hs : Heap.ExtBut b s.heap s'.heap) (hf : ¬ frameAt env b) : ER T env Γ ρ β s' := by
  obtain ⟨m, hm, hv⟩ := N.locals
  refine ⟨N.kind, N.globals, N.builtins, ⟨m, hm.at' fun o e => hs _ o (fun q => hf (.inl q.symm)) e, fun y i v h1 h2 h3 => ?_⟩, fun y c hc => ?_, N.there, N.inj, N.apart, N.cloc, N.slots⟩
  · obtain ⟨z, hz, hr⟩ := hv y i v h1 h2 h3
    exact ⟨z, hz, hr.aside a hs⟩
  · obtain ⟨w, ⟨o, ho, hd⟩, hr⟩ := N.cells y c hc
    refine ⟨w, ⟨o, hs c o (fun q => hf (.inr ⟨y, q ▸ hc⟩)) ho, hd⟩, fun i v h1 h2 h3 => ?_⟩
    obtain ⟨z, hz, hr'⟩ := hr i v h1 h2 h3
    exact ⟨z, hz, hr'.aside a hs⟩
theorem Aside.ext {b : Addr} {β' : List Addr} {o : Obj} (a : Aside T β s b) (ho : s.heap.get? b = some o) (x : Ext β s β' s') : Aside T β' s' b :=
  ⟨x.nin a.nin ho, a.base, fun vals n e => by rw [x.keep b o a.nin ho] at e; exact a.nt vals n (ho.trans e)⟩
theorem Ext.aside {b : Addr} {β' : List Addr} {s'' : Shared} (x : Ext β s β' s') (hb : s.heap.get? b = none) (hs : Heap.ExtBut b s'.heap s''.heap) (hg : s''.gens = s'.gens) (ho : s''.os = s'.os) : Ext β s β' s'' :=
  ⟨x.pre, x.new, fun c o hc e => hs c o (fun q => by rw [q, hb] at e; cases e) (x.keep c o hc e), hg.trans x.gens, ho.trans x.os⟩

/-- an iterator of the model stands for one of the meaning -/
inductive ItR (h : Heap) (β : List Addr) (I : Addr) : Itr → Prop
  | vals {lo : Int} {n : Nat} : IsRangeIter h I lo n 1 → ItR h β I (.vals ((List.range n).map fun (j : Nat) => V.int (lo + (j : Int))))
  | ref {i k : Nat} {a : Addr} : β[i]? = some a → h.IsListIter I a k → ItR h β I (.ref i k)

theorem ItR.obj {h : Heap} {I : Addr} {it : Itr} (x : ItR h β I it) : ∃ o, h.get? I = some o ∧ ∀ (vals : Array Value) n, some o ≠ some ({ cls := .type "tuple", data := .seq vals n } : Obj) := by
  cases x with
  | vals hi => exact ⟨_, hi, fun vals n e => by simp at e⟩
  | ref hb hi =>
    obtain ⟨o, ho, hc, hd⟩ := hi
    exact ⟨o, ho, fun vals n e => by cases e; cases hd⟩
theorem ItR.ext {I : Addr} {it : Itr} {β' : List Addr} (h : ItR s.heap β I it) (hI : I ∉ β) (x : Ext β s β' s') : ItR s'.heap β' I it := by
  cases h with
  | vals hi => exact .vals (x.keep _ _ hI hi)
  | ref hb hi => exact .ref (x.at hb) (hi.at fun o e => x.keep _ o hI e)
theorem ItR.keep {h h' : Heap} {I : Addr} {it : Itr} (x : ItR h β I it) (hk : ∀ o, h.get? I = some o → h'.get? I = some o) : ItR h' β I it := by
  cases x with
  | vals hi => exact .vals (hk _ hi)
  | ref hb hi => exact .ref hb (hi.at hk)

/-- one step of an iterator -/
theorem it_next (hh : A.handled = none) (R : SR T β σ s) {I : Addr} {it : Itr} (x : ItR s.heap β I it) (a : Aside T β s I) :
    match itNext it σ with
    | none => True
    | some none => ∀ (Q : Option Value → Shared → Prop) (E : Value → Shared → Prop), (∀ s', Heap.ExtBut I s.heap s'.heap → s'.gens = s.gens → s'.os = s.os → Q none s') → wpAny (model T.prog T.w) A (pyNext (.ref I)) Q E s
    | some (some (v, it')) => ∀ (Q : Option Value → Shared → Prop) (E : Value → Shared → Prop), (∀ y s', Heap.ExtBut I s.heap s'.heap → s'.gens = s.gens → s'.os = s.os → VR T s'.heap β v y → ItR s'.heap β I it' → (∃ o, s'.heap.get? I = some o) → Q (some y) s') → wpAny (model T.prog T.w) A (pyNext (.ref I)) Q E s := by
  cases x with
  | vals hi =>
    rename_i lo n
    cases n with
    | zero =>
      simp only [itNext, List.range_zero, List.map_nil]
      exact fun Q E hQ => wpAny_pyNext_range_end hh hi (by simp) fun h' he => hQ { s with heap := h' } he rfl rfl
    | succ n =>
      have e : (List.range (n + 1)).map (fun (j : Nat) => V.int (lo + (j : Int))) = V.int lo :: (List.range n).map (fun (j : Nat) => V.int ((lo + 1) + (j : Int))) := by
        rw [List.range_succ_eq_map, List.map_cons, List.map_map]
        congr 1
        · simp
        · refine List.map_congr_left fun j _ => ?_
          simp only [Function.comp]
          congr 1
          omega
      rw [e]
      simp only [itNext]
      refine fun Q E hQ => wpAny_pyNext_range_item hi (by omega) fun h' hi' hs => ?_
      have hi2 : IsRangeIter h' I (lo + 1) (n : Int) 1 := by
        have : (((n + 1 : Nat) : Int) - 1) = (n : Int) := by omega
        rw [this] at hi'; exact hi'
      exact hQ _ { s with heap := h', toks := s.toks + 1 } hs.extBut rfl rfl (.int _ _) (.vals hi2) ⟨_, hi2⟩
  | ref hb hi =>
    rename_i i k l
    simp only [itNext]
    cases hs : σ[i]? with
    | none => exact trivial
    | some c =>
      cases c with
      | dictI => exact trivial
      | dictS => exact trivial
      | list vs =>
        obtain ⟨vals, hP, hv, hz⟩ := R.list hs hb
        simp only
        cases hk : vs[k]? with
        | none =>
          refine fun Q E hQ => wpAny_pyNext_list_end hh hi hP.isList ?_ fun h' he => hQ { s with heap := h' } he rfl rfl
          rw [List.getElem?_eq_none_iff] at hk
          simp [← hv.length, hk]
        | some v =>
          obtain ⟨y, hy, hr⟩ := hv.get hk
          refine fun Q E hQ => wpAny_pyNext_list_item hi hP.isList (by simpa using hy) fun h' hi' hsb => ?_
          exact hQ y { s with heap := h' } hsb.extBut rfl rfl (hr.aside (s' := { s with heap := h' }) a hsb.extBut) (.ref hb hi') (by obtain ⟨o, ho, _⟩ := hi'; exact ⟨o, ho⟩)
end
end Mine

namespace Mine
open PySem PyProof.Rows PySem.Calls

section
variable {T : Tp} {cx : Cx} {G : List Int} {C : Nat → List V → Store → R V} {d : Nat}
variable {A : Around} {β : List Addr} {σ : Store} {s s' : Shared} {env : Env} {Γ : List (Str × Nat)} {ρ : Loc}

/-- the cells that a comprehension takes from without -/
noncomputable def clFrom (env : Env) : List (Str × NameKind) → List (Str × Addr) → List (Str × Addr)
  | [], acc => acc
  | (n, k) :: r, acc => clFrom env r (if k == .free then (match env.cells.lookup n with | some c => (n, c) :: acc | none => acc) else acc)

theorem closure_loop {env : Env} (f : Str × NameKind → List (Str × Addr) → Sem (ForInStep (List (Str × Addr))))
    (hf : ∀ n k cs, f (n, k) cs = if k == .free then (do let a ← cellOf env n; pure (.yield ((n, a) :: cs))) else pure (.yield cs)) :
    ∀ (names : List (Str × NameKind)) (acc : List (Str × Addr)), (∀ p ∈ names, p.2 = .free → ∃ c, env.cells.lookup p.1 = some c) → forIn names acc f = (pure (clFrom env names acc) : Sem _)
  | [], acc, _ => rfl
  | (n, k) :: r, acc, h => by
    have ih := fun acc => closure_loop (env := env) f hf r acc fun p hp => h p (List.mem_cons_of_mem _ hp)
    rw [List.forIn_cons, hf]
    unfold clFrom
    split
    · rename_i hk
      obtain ⟨c, hc⟩ := h (n, k) List.mem_cons_self (by simpa using hk)
      have e : cellOf env n = pure c := by unfold cellOf; rw [show env.cells.lookup n = some c from hc]
      rw [e, show env.cells.lookup n = some c from hc]
      exact ih _
    · exact ih _

theorem closure_eq {sc : Scope} (h : ∀ p ∈ sc.names, p.2 = .free → ∃ c, env.cells.lookup p.1 = some c) : closureFor sc env = pure (clFrom env sc.names []) := by
  simp only [closureFor]
  rw [closure_loop (env := env) _ (fun n k cs => ?_) sc.names [] h]
  · rfl
  · cases hk : k == NameKind.free <;> simp

theorem clFrom_app : ∀ (names : List (Str × NameKind)) (acc : List (Str × Addr)), clFrom env names acc = clFrom env names [] ++ acc
  | [], acc => rfl
  | (n, k) :: r, acc => by
    unfold clFrom
    split
    · split
      · rw [clFrom_app r (_ :: acc), clFrom_app r [_]]; simp
      · exact clFrom_app r acc
    · exact clFrom_app r acc
theorem clFrom_mem : ∀ (names : List (Str × NameKind)) {x : Str} {c : Addr}, (x, c) ∈ clFrom env names [] → (x, NameKind.free) ∈ names ∧ env.cells.lookup x = some c
  | [], x, c, h => by simp [clFrom] at h
  | (n, k) :: r, x, c, h => by
    unfold clFrom at h
    have ih := @clFrom_mem r x c
    split at h
    · rename_i hk
      have hk' : k = .free := by simpa using hk
      split at h
      · rename_i c' hc'
        rw [clFrom_app] at h
        rcases List.mem_append.mp h with h | h
        · exact ⟨List.mem_cons_of_mem _ (ih h).1, (ih h).2⟩
        · simp at h; obtain ⟨rfl, rfl⟩ := h; subst hk'; exact ⟨List.mem_cons_self, hc'⟩
      · exact ⟨List.mem_cons_of_mem _ (ih h).1, (ih h).2⟩
    · exact ⟨List.mem_cons_of_mem _ (ih h).1, (ih h).2⟩
theorem clFrom_has : ∀ (names : List (Str × NameKind)) {x : Str} {c : Addr}, (x, NameKind.free) ∈ names → env.cells.lookup x = some c → (x, c) ∈ clFrom env names []
  | [], x, c, h, _ => by simp at h
  | (n, k) :: r, x, c, h, hc => by
    unfold clFrom
    have ih := fun h => @clFrom_has r x c h hc
    rcases List.mem_cons.mp h with e | h
    · cases e
      simp only [beq_self_eq_true, if_true, hc]
      rw [clFrom_app]; simp
    · split
      · split
        · rw [clFrom_app]; exact List.mem_append_left _ (ih h)
        · exact ih h
      · exact ih h
theorem cells_app : ∀ (names : List (Str × NameKind)) (n : Nat) (acc : List (Str × Addr)), cellsFrom n names acc = cellsFrom n names [] ++ acc
  | [], n, acc => rfl
  | (x, k) :: r, n, acc => by
    unfold cellsFrom
    split
    · rw [cells_app r (n + 1) (_ :: acc), cells_app r (n + 1) [_]]; simp
    · exact cells_app r n acc
theorem cells_mem : ∀ (names : List (Str × NameKind)) {n : Nat} {x : Str} {c : Addr}, (x, c) ∈ cellsFrom n names [] → (x, NameKind.cell) ∈ names
  | [], n, x, c, h => by simp [cellsFrom] at h
  | (y, k) :: r, n, x, c, h => by
    unfold cellsFrom at h
    split at h
    · rename_i hk
      have hk' : k = .cell := by simpa using hk
      rw [cells_app] at h
      rcases List.mem_append.mp h with h | h
      · exact List.mem_cons_of_mem _ (cells_mem r h)
      · simp at h; obtain ⟨rfl, _⟩ := h; subst hk'; exact List.mem_cons_self
    · exact List.mem_cons_of_mem _ (cells_mem r h)
theorem cells_has : ∀ (names : List (Str × NameKind)) {n : Nat} {x : Str}, (x, NameKind.cell) ∈ names → ∃ c, (x, c) ∈ cellsFrom n names []
  | [], n, x, h => by simp at h
  | (y, k) :: r, n, x, h => by
    unfold cellsFrom
    rcases List.mem_cons.mp h with e | h
    · cases e
      refine ⟨n, ?_⟩
      simp only [beq_self_eq_true, if_true]
      rw [cells_app]; simp
    · split
      · obtain ⟨c, hc⟩ := cells_has r (n := n + 1) h
        exact ⟨c, by rw [cells_app]; exact List.mem_append_left _ hc⟩
      · exact cells_has r h

theorem lookup_mem_some {α : Type} : ∀ {l : List (Str × α)} {x : Str} {c : α}, (x, c) ∈ l → ∃ c', l.lookup x = some c'
  | (k, v) :: r, x, c, h => by
    rw [List.lookup_cons]
    cases hb : x == k with
    | true => exact ⟨v, rfl⟩
    | false =>
      rcases List.mem_cons.mp h with e | h
      · cases e; simp at hb
      · exact lookup_mem_some h
theorem lookup_names {α : Type} : ∀ {l : List (Str × α)} (_ : (l.map (·.1)).Nodup) {x : Str} {k : α}, (x, k) ∈ l → l.lookup x = some k
  | (y, v) :: r, hn, x, k, h => by
    rw [List.lookup_cons]
    simp only [List.map_cons, List.nodup_cons] at hn
    cases hb : x == y with
    | true =>
      rcases List.mem_cons.mp h with e | h
      · cases e; rfl
      · have : x = y := by simpa using hb
        exact absurd (this ▸ List.mem_map_of_mem (f := (·.1)) h) hn.1
    | false =>
      rcases List.mem_cons.mp h with e | h
      · cases e; simp at hb
      · exact lookup_names hn.2 h

/-- the names of a comprehension's frame -/
theorem relabel_lookup {csc : Scope} {x : Str} : (relabel csc env).names.lookup x = match csc.names.lookup x with
    | some k => some (if (k == NameKind.free && env.scope.kind == .function && env.kindOf x == some .cell) then NameKind.cell else k)
    | none => none := by
  unfold relabel
  show List.lookup x (csc.names.map _) = _
  generalize csc.names = names
  induction names with
  | nil => rfl
  | cons p r ih =>
    obtain ⟨n, k⟩ := p
    rw [List.map_cons]
    by_cases hq : (k == NameKind.free && env.scope.kind == .function && env.kindOf n == some .cell) = true
    · show List.lookup x ((if (k == NameKind.free && env.scope.kind == .function && env.kindOf n == some .cell) = true then (n, NameKind.cell) else (n, k)) :: _) = _
      rw [if_pos hq]
      cases hx : x == n with
      | true =>
        have : x = n := by simpa using hx
        subst this
        simp only [List.lookup_cons, hx, hq, if_true]
      | false => simp only [List.lookup_cons, hx]; exact ih
    · show List.lookup x ((if (k == NameKind.free && env.scope.kind == .function && env.kindOf n == some .cell) = true then (n, NameKind.cell) else (n, k)) :: _) = _
      rw [if_neg hq]
      cases hx : x == n with
      | true =>
        have : x = n := by simpa using hx
        subst this
        simp only [List.lookup_cons, hx, hq, if_false, Bool.false_eq_true]
      | false => simp only [List.lookup_cons, hx]; exact ih
theorem relabel_eq (csc : Scope) : relabel csc env = relabelS csc env.scope := rfl

/-- the frame of a comprehension -/
structure CompF (csc : Scope) (y : Str) (env : Env) (s₃ : Shared) (cenv : Env) (h₁ : Heap) : Prop where
  scope : cenv.scope = relabel csc env
  globals : cenv.globals = env.globals
  builtins : cenv.builtins = env.builtins
  locals : cenv.locals = s₃.heap.objs.size
  ns : h₁.Ns cenv.locals fun _ => none
  keep : ∀ b o, s₃.heap.get? b = some o → h₁.get? b = some o
  cell : ∀ x c, cenv.cells.lookup x = some c → (s₃.heap.objs.size < c ∧ h₁.IsCell c none ∧ (x, NameKind.cell) ∈ csc.names) ∨ ((x, NameKind.free) ∈ csc.names ∧ env.cells.lookup x = some c)
  has : ∀ x k, (x, k) ∈ csc.names → (k = .cell ∨ k = .free) → ∃ c, cenv.cells.lookup x = some c
  inj : ∀ x z c, cenv.cells.lookup x = some c → cenv.cells.lookup z = some c → s₃.heap.objs.size < c → x = z

theorem comp_frame {csc : Scope} {y : Str} {qual : Str} {M : Model} {E : Value → Shared → Prop} {Q : Env → Shared → Prop} (hfree : ∀ p ∈ csc.names, p.2 = .free → ∃ c, env.cells.lookup p.1 = some c)
    (hlow : ∀ x c, env.cells.lookup x = some c → c < s.heap.objs.size)
    (h : ∀ cenv h₁, CompF csc y env s { cenv with scope := relabel csc env } h₁ → Q cenv { s with heap := h₁ }) :
    wpAny M A (newFunctionEnv csc env.globals (clFrom env csc.names []) [] qual none .none (some env)) Q E s := by
  simp only [newFunctionEnv, Option.isSome_some, if_true]
  refine wpAny_bind (wpAny_alloc ?_)
  refine wpAny_bind (wpAny_layCells _ (fun name kind cells => by cases hkc : kind == NameKind.cell <;> simp) _ _ _ _ ?_)
  have hsz : ({ s with heap := s.heap.push { cls := .type "dict", data := .dict #[] } } : Shared).heap.objs.size = s.heap.objs.size + 1 := Heap.size_push ..
  have ok := cellsFrom_ok csc.names (s.heap.push { cls := .type "dict", data := .dict #[] }) (s.heap.objs.size + 1) [] ⟨fun _ _ hm => (nomatch hm), List.Pairwise.nil⟩ (by rw [Heap.size_push]; exact Nat.le_refl _)
  rw [Heap.size_push] at ok
  rw [hsz]
  refine wpAny_bind (wpAny_pure (wpAny_pure (h _ _ ?_)))
  rw [cells_app]
  have lk : ∀ {x : Str} {c : Addr}, (cellsFrom (s.heap.objs.size + 1) csc.names [] ++ clFrom env csc.names []).lookup x = some c → (x, c) ∈ cellsFrom (s.heap.objs.size + 1) csc.names [] ∨ (x, c) ∈ clFrom env csc.names [] := fun e => List.mem_append.mp (mem_of_lookup e)
  have low : ∀ {x : Str} {c : Addr}, (x, c) ∈ clFrom env csc.names [] → c < s.heap.objs.size := fun e => hlow _ _ (clFrom_mem _ e).2
  refine ⟨rfl, rfl, rfl, rfl, (Heap.Ns.new s.heap (.type "dict")).keeps (pushCells_keeps _ _), fun b o e => pushCells_keeps _ _ b o (Heap.get?_push_of_some _ e), fun x c hc => ?_, fun x k hm hk => ?_, fun x z c h1 h2 hl => ?_⟩
  · rcases lk hc with e | e
    · exact .inl ⟨(ok.empty x c e).2, (ok.empty x c e).1, cells_mem _ e⟩
    · exact .inr (clFrom_mem _ e)
  · rcases hk with rfl | rfl
    · obtain ⟨c, hc⟩ := cells_has csc.names (n := s.heap.objs.size + 1) hm
      exact lookup_mem_some (List.mem_append_left _ hc)
    · obtain ⟨c, hc⟩ := hfree _ hm rfl
      exact lookup_mem_some (List.mem_append_right _ (clFrom_has _ hm hc))
  · rcases lk h1 with e1 | e1
    · rcases lk h2 with e2 | e2
      · exact name_of_addr ok.apart e1 e2
      · exact absurd (low e2) (Nat.not_lt.mpr (Nat.le_of_lt hl))
    · exact absurd (low e1) (Nat.not_lt.mpr (Nat.le_of_lt hl))

theorem nodup_names {csc : Scope} {sc : Scope} {x : Nat} {y : Str} (h : compOk sc csc Γ x y = true) : (csc.names.map (·.1)).Nodup := by
  simp only [compOk, Bool.and_eq_true] at h
  exact nodupB_nodup h.1.1.1.1.1.2

/-- the frame of a comprehension stands for the locals without its own -/
theorem comp_ER {csc : Scope} {y : Str} {x : Nat} {cenv : Env} {h₁ : Heap} {tk : Nat} (hT : T.Ok) (hc : compOk env.scope csc Γ x y = true) (R : SR T β σ s) (N : ER T env Γ ρ β s) (F : CompF csc y env s cenv h₁) :
    ER T cenv ((y, x) :: Γ) (ρ.set x none) β { s with heap := h₁, toks := tk } := by
  have hnd := nodup_names hc
  simp only [compOk, Bool.and_eq_true, beq_iff_eq, List.all_eq_true, Bool.or_eq_true, Bool.not_eq_true', Option.isNone_iff_eq_none] at hc
  obtain ⟨⟨⟨⟨⟨⟨hk, _⟩, hy⟩, hyn⟩, hfr⟩, hsl⟩, hown⟩ := hc
  have hsl' : ∀ z i, Γ.lookup z = some i → i ≠ x := fun z i e q => by
    subst q
    have hm := List.mem_map_of_mem (f := (·.2)) (mem_of_lookup e)
    have hsl2 : ¬ (i ∈ Γ.map (·.2)) := by simpa using hsl
    exact hsl2 hm
  have x0 : Ext β s β { s with heap := h₁, toks := tk } := .keeps F.keep rfl rfl
  have N' := N.ext x0
  -- an own name has no value yet
  have own : ∀ z (i : Nat) v, (csc.names.lookup z = some .local ∨ csc.names.lookup z = some .cell) → ((y, x) :: Γ).lookup z = some i → (ρ.set x none)[i]? = some (some v) → False := fun z i v hz hi hv => by
    rw [List.lookup_cons] at hi
    cases hzy : z == y with
    | true =>
      rw [hzy] at hi; cases hi
      rw [List.getElem?_set] at hv
      split at hv
      · split at hv <;> cases hv
      · rename_i q; exact q rfl
    | false =>
      rw [hzy] at hi
      have : ∃ k, (z, k) ∈ csc.names ∧ (k = .local ∨ k = .cell) := by
        rcases hz with e | e
        · exact ⟨_, mem_of_lookup e, .inl rfl⟩
        · exact ⟨_, mem_of_lookup e, .inr rfl⟩
      obtain ⟨k, hm, hkk⟩ := this
      rcases hown (z, k) hm with (h1 | h1) | h1
      · rcases hkk with rfl | rfl <;> simp at h1
      · simp at h1; subst h1; simp at hzy
      · simp only at h1; rw [h1] at hi; cases hi
  have kOf : ∀ z k, cenv.kindOf z = some k → csc.names.lookup z = some k ∨ (k = .cell ∧ csc.names.lookup z = some .free) := fun z k e => by
    have e' : (relabel csc env).names.lookup z = some k := by rw [← F.scope]; exact e
    rw [relabel_lookup] at e'
    cases hz : csc.names.lookup z with
    | none => rw [hz] at e'; cases e'
    | some k' =>
      rw [hz] at e'
      simp only [Option.some.injEq] at e'
      split at e'
      · rename_i hq
        simp only [Bool.and_eq_true, beq_iff_eq] at hq
        right; exact ⟨e'.symm, by rw [hq.1.1]⟩
      · left; rw [e']
  refine ⟨by rw [F.scope]; exact hk, F.globals.trans N.globals, F.builtins.trans N.builtins, ⟨_, F.ns, fun z i v h1 h2 h3 => ?_⟩, fun z c hz => ?_, fun z hz => ?_, fun z u c h1 h2 => ?_, fun b hb => ?_, fun z c hz => ?_, fun z u i h1 h2 => ?_⟩
  · rcases kOf z _ h1 with e | ⟨e, _⟩
    · exact (own z i v (.inl e) h2 h3).elim
    · cases e
  · rcases F.cell z c hz with ⟨_, hcell, hm⟩ | ⟨hm, he⟩
    · refine ⟨none, hcell, fun i v h1 h2 h3 => ?_⟩
      exact (own z i v (.inr (lookup_names hnd hm)) h2 h3).elim
    · obtain ⟨w, hw, hr⟩ := N'.cells z c he
      refine ⟨w, hw, fun i v h1 h2 h3 => ?_⟩
      have hfz := lookup_names hnd hm
      have hzy : (z == y) = false := by
        cases q : z == y with
        | false => rfl
        | true =>
          have : z = y := by simpa using q
          subst this
          rcases hy with e | e <;> rw [hfz] at e <;> cases e
      rw [List.lookup_cons, hzy] at h2
      have hix := hsl' z i h2
      rw [List.getElem?_set_ne (Ne.symm hix)] at h3
      have hcf : env.kindOf z = some .cell ∨ env.kindOf z = some .free := by
        rcases hfr (z, .free) hm with e | e
        · simp at e
        · have e' : isCF (env.kindOf z) = true := e
          simpa [isCF] using e'
      exact hr i v hcf h2 h3
  · have : ∃ k, (z, k) ∈ csc.names ∧ (k = .cell ∨ k = .free) := by
      rcases hz with e | e
      · rcases kOf z _ e with e' | ⟨_, e'⟩
        · exact ⟨_, mem_of_lookup e', .inl rfl⟩
        · exact ⟨_, mem_of_lookup e', .inr rfl⟩
      · rcases kOf z _ e with e' | ⟨e', _⟩
        · exact ⟨_, mem_of_lookup e', .inr rfl⟩
        · cases e'
    obtain ⟨k, hm, hkk⟩ := this
    exact F.has z k hm hkk
  · have low : ∀ z, env.cells.lookup z = some c → c < s.heap.objs.size := fun z e => by
      obtain ⟨w, ⟨o, ho, _⟩, _⟩ := N.cells z c e
      exact Heap.lt_size ho
    rcases F.cell z c h1 with ⟨hl, _, _⟩ | ⟨_, e1⟩
    · exact F.inj z u c h1 h2 hl
    · rcases F.cell u c h2 with ⟨hl, _, _⟩ | ⟨_, e2⟩
      · exact absurd (low z e1) (Nat.not_lt.mpr (Nat.le_of_lt hl))
      · exact N.inj z u c e1 e2
  · have fr : ∀ c, s.heap.objs.size ≤ c → c ∉ β ∧ T.h₀.get? c = none := fun c hc => by
      constructor
      · intro hm
        obtain ⟨i, hi, he⟩ := List.getElem_of_mem hm
        have hb : β[i]? = some c := by rw [List.getElem?_eq_getElem hi, he]
        have hs : i < σ.length := by rw [← R.len]; exact hi
        have hcr := R.cell i _ _ (List.getElem?_eq_getElem hs) hb
        have : ∃ o, s.heap.get? c = some o := by
          cases hcs : σ[i] with
          | list vs => rw [hcs] at hcr; obtain ⟨vals, ⟨o, ho⟩, _⟩ := hcr; exact ⟨_, ho⟩
          | dictI vs => rw [hcs] at hcr; obtain ⟨kv, hd, _⟩ := hcr; obtain ⟨o, ho, _⟩ := Heap.dictOf_iff.mp hd; exact ⟨_, ho⟩
          | dictS vs => rw [hcs] at hcr; obtain ⟨kv, hd, _⟩ := hcr; obtain ⟨o, ho, _⟩ := Heap.dictOf_iff.mp hd; exact ⟨_, ho⟩
        obtain ⟨o, ho⟩ := this
        exact absurd (Heap.lt_size ho) (Nat.not_lt.mpr hc)
      · cases hq : T.h₀.get? c with
        | none => rfl
        | some o => exact absurd (Heap.lt_size (R.base _ _ hq)) (Nat.not_lt.mpr hc)
    rcases hb with rfl | ⟨z, hz⟩
    · rw [F.locals]; exact fr _ (Nat.le_refl _)
    · rcases F.cell z b hz with ⟨hl, _, _⟩ | ⟨_, e⟩
      · exact fr b (Nat.le_of_lt hl)
      · exact N'.apart b (.inr ⟨z, e⟩)
  · rcases F.cell z c hz with ⟨hl, _, _⟩ | ⟨_, e⟩
    · rw [F.locals]; exact Nat.ne_of_gt hl
    · obtain ⟨w, ⟨o, ho, _⟩, _⟩ := N.cells z c e
      rw [F.locals]; exact Nat.ne_of_lt (Heap.lt_size ho)
  · rw [List.lookup_cons] at h1 h2
    cases hzy : z == y with
    | true =>
      rw [hzy] at h1; cases h1
      cases huy : u == y with
      | true => rw [show z = y by simpa using hzy, show u = y by simpa using huy]
      | false => rw [huy] at h2; exact absurd rfl (hsl' u _ h2)
    | false =>
      rw [hzy] at h1
      cases huy : u == y with
      | true => rw [huy] at h2; cases h2; exact absurd rfl (hsl' z _ h1)
      | false => rw [huy] at h2; exact N.slots z u i h1 h2
end
end Mine

namespace Mine
open PySem PyProof.Rows PySem.Calls

section
variable {T : Tp} {cx : Cx} {G : List Int} {C : Nat → List V → Store → R V} {d : Nat}
variable {A : Around} {β : List Addr} {σ : Store} {s s' : Shared} {env : Env} {Γ : List (Str × Nat)} {ρ : Loc}

noncomputable def ORel (T : Tp) : Heap → List Addr → Option V → Option Value → Prop := fun h β o o' => match o, o' with
  | none, none => True
  | some v, some x => VR T h β v x
  | _, _ => False

theorem Ext.fresh {β' : List Addr} {b : Addr} (x : Ext β s β' s') (h1 : s'.heap.get? b = none) (h2 : b ∉ β') : s.heap.get? b = none := by
  cases hq : s.heap.get? b with
  | none => rfl
  | some o =>
    have hb : b ∉ β := fun hm => h2 (x.pre.subset hm)
    rw [x.keep b o hb hq] at h1; cases h1
theorem ER.frame_there (N : ER T env Γ ρ β s) {b : Addr} (h : frameAt env b) : ∃ o, s.heap.get? b = some o := by
  rcases h with rfl | ⟨z, hz⟩
  · obtain ⟨m, ⟨o, _, _, ho, _⟩, _⟩ := N.locals; exact ⟨o, ho⟩
  · obtain ⟨w, ⟨o, ho, _⟩, _⟩ := N.cells z b hz; exact ⟨o, ho⟩

theorem it_self {E : Value → Shared → Prop} {Q : Value → Shared → Prop} {I : Addr} {it : Itr} (hh : A.handled = none) (x : ItR s.heap β I it) (h : Q (.ref I) s) : wpAny (model T.prog T.w) A (pyIter (.ref I)) Q E s := by
  cases x with
  | vals hi => rename_i lo n; exact (Walks.range hh I lo 1 n).self 0 s Q E (by simpa using hi) h
  | ref hb hi => exact wpAny_pyIter_listiter hi h

abbrev ifsTree (ifs : List PySem.Expr) (env : Env) : Sem Bool := forIn ifs true fun c r => if r = true then do let ok ← isTrue c env (eval c env); pure (ForInStep.yield ok) else pure (ForInStep.yield r)

noncomputable def CompInv (T : Tp) (β : List Addr) (s : Shared) (I D : Addr) (ce : Env) (y : Str) (x : Nat) (Γ : List (Str × Nat)) (ρ : Loc) (f : V → Store → R (Option V)) (all : List V) (σF : Store) (k : Nat) (s' : Shared) : Prop :=
  ∃ β' σ' it' vs vals o, Ext β s β' s' ∧ SR T β' σ' s' ∧ ItR s'.heap β' I it' ∧ Aside T β' s' I ∧ s'.heap.PlainList D (List.toArray vals) ∧ VRs T s'.heap β' vs vals ∧ D ∉ β' ∧
    ER T ce ((y, x) :: Γ) (ρ.set x o) β' s' ∧ ((compL f k it' σ').bind fun r σ2 => Mine.R.ok (vs ++ r) σ2) = Mine.R.ok all σF

theorem VRs.by_mono {β' : List Addr} {h' : Heap} {h : Heap} {vs : List V} {vals : List Value} (a : VRs T h β' vs vals) (m : ∀ v x, VR T h β' v x → VR T h' β' v x) : VRs T h' β' vs vals := by
  induction a using VRs.rec (motive_1 := fun _ _ _ => True) <;> first | trivial | skip
  · exact .nil
  · rename_i h1 h2 _ ih; exact .cons (m _ _ h1) ih

/-- what a comprehension's loop leans on: its list, its iterator, its frame -/
structure CompCx (T : Tp) (β : List Addr) (s : Shared) (I D : Addr) (ce : Env) (y : Str) (lim : Nat) : Prop where
  baseI : T.h₀.get? I = none
  fI : s.heap.get? I = none
  fD : s.heap.get? D = none
  fC : s.heap.get? ce.locals = none
  ID : I ≠ D
  d1 : T.h₀.get? D = none
  d2 : D ≠ sysModules
  lowI : I < lim
  lowD : D < lim
  low : ∀ c o, c ∉ β → s.heap.get? c = some o → c < lim
  own : ∀ c, ((c = ce.locals ∧ Env.kindOf ce y = some .local) ∨ (ce.cells.lookup y = some c ∧ Env.kindOf ce y = some .cell)) → lim ≤ c
  kOwn : Env.kindOf ce y = some .local ∨ Env.kindOf ce y = some .cell
  nfI : ¬ frameAt ce I
  nfD : ¬ frameAt ce D

theorem aside_list {D : Addr} {β' : List Addr} {vals : List Value} (d1 : T.h₀.get? D = none) (hp : s'.heap.PlainList D vals.toArray) (hn : D ∉ β') : Aside T β' s' D :=
  ⟨hn, d1, fun vals m e => by obtain ⟨q, hq⟩ := hp; rw [hq] at e; simp at e⟩
theorem aside_itr {I : Addr} {it : Itr} {β' : List Addr} (b : T.h₀.get? I = none) (x : ItR s'.heap β' I it) (hn : I ∉ β') : Aside T β' s' I := by
  obtain ⟨o, ho, hni⟩ := x.obj
  exact ⟨hn, b, fun vals m e => hni vals m (ho.symm.trans e)⟩

/-- the end of the loop -/
theorem comp_end {I D : Addr} {ce : Env} {y : Str} {x lim : Nat} (K : CompCx T β s I D ce y lim) {all : List V} {σF : Store} (hz : all.length ≤ sizeMax) {β' : List Addr} {vals : List Value} {o : Option V} {s₁ : Shared}
    (X : Ext β s β' s₁) (R' : SR T β' σF s₁) (hD : s₁.heap.PlainList D (List.toArray vals)) (hv : VRs T s₁.heap β' all vals) (nD : D ∉ β') (N' : ER T ce ((y, x) :: Γ) (ρ.set x o) β' s₁)
    {Q : Prop} (hR : ∀ β' m, Ext β s β' s₁ → SR T β' (σF ++ [.list all]) s₁ → VR T s₁.heap β' (.ref σF.length) (.ref D) → s₁.heap.Ns ce.locals m → ce.locals ∉ β' → T.h₀.get? ce.locals = none → Q) : Q := by
  obtain ⟨m, hm, _⟩ := N'.locals
  have aD := aside_list K.d1 hD nD
  have hat : ∀ (i : Nat) b, β'[i]? = some b → (β' ++ [D])[i]? = some b := fun i b e => by
    rw [List.getElem?_append_left (List.getElem?_eq_some_iff.mp e).1]; exact e
  have hk : ∀ b (vals : Array Value) n, b ∉ β' → s₁.heap.get? b = some { cls := .type "tuple", data := .seq vals n } → s₁.heap.get? b = some { cls := .type "tuple", data := .seq vals n } ∧ b ∉ β' ++ [D] := fun b vals n hb e => ⟨e, fun hm => by
    rcases List.mem_append.mp hm with h | h
    · exact hb h
    · cases List.mem_singleton.mp h; exact aD.nt _ _ e⟩
  obtain ⟨R₂, _, y₂⟩ := R'.adopt (c := .list all) nD K.d1 K.d2 aD.nt ⟨vals, hD, hv.monoT hat hk, hz⟩
  refine hR (β' ++ [D]) m (X.adopt K.fD) R₂ y₂ hm (fun hm' => ?_) (N'.apart _ (.inl rfl)).2
  rcases List.mem_append.mp hm' with h | h
  · exact (N'.apart _ (.inl rfl)).1 h
  · exact K.nfD (.inl (List.mem_singleton.mp h).symm)

/-- a value more -/
theorem comp_add {I D : Addr} {ce : Env} {y : Str} {x lim : Nat} (K : CompCx T β s I D ce y lim) {f : V → Store → R (Option V)} {all : List V} {σF : Store} {k : Nat} {β' : List Addr} {σ' : Store} {it : Itr} {vs : List V} {vals : List Value} {o : Option V} {u : V} {xv : Value}
    (X : Ext β s β' s') (R' : SR T β' σ' s') (hI : ItR s'.heap β' I it) (nI : I ∉ β') (hD : s'.heap.PlainList D (List.toArray vals)) (hv : VRs T s'.heap β' vs vals) (nD : D ∉ β') (N' : ER T ce ((y, x) :: Γ) (ρ.set x o) β' s')
    (ht : ((compL f k it σ').bind fun r σ2 => Mine.R.ok ((vs ++ [u]) ++ r) σ2) = Mine.R.ok all σF) (hlen : vs.length ≤ sizeMax) (hu : VR T s'.heap β' u xv) {E : Value → Shared → Prop} :
    wpAny (model T.prog T.w) A (call (.builtin "list.append") [.ref D, xv]) (fun _ s₅ => ∃ m, m < k + 1 ∧ CompInv T β s I D ce y x Γ ρ f all σF m s₅) E s' := by
  refine wpAny_list_append_plain hD (fun h' hD₄ hsb₄ => ?_) (by rw [List.size_toArray, ← hv.length]; exact Nat.le_trans hlen sizeMax_le)
  have aD := aside_list K.d1 hD nD
  have hI₅ : ItR h' β' I it := hI.keep fun o e => hsb₄.extBut I o K.ID e
  rw [List.push_toArray] at hD₄
  exact ⟨k, Nat.lt_succ_self _, β', σ', it, vs ++ [u], vals ++ [xv], o, X.aside (s'' := { s' with heap := h' }) K.fD hsb₄.extBut rfl rfl, R'.aside (s' := { s' with heap := h' }) aD hsb₄.extBut,
    hI₅, aside_itr (s' := { s' with heap := h' }) K.baseI hI₅ nI, hD₄, (hv.append (.cons hu .nil)).aside (s' := { s' with heap := h' }) aD hsb₄.extBut, nD, N'.aside (s' := { s' with heap := h' }) aD hsb₄.extBut K.nfD, ht⟩

/-- one turn with a value of the iterator in hand -/
theorem comp_turn {elt : PySem.Expr} {ifs : List PySem.Expr} {I D : Addr} {ce : Env} {y : Str} {x lim : Nat} (K : CompCx T β s I D ce y lim) {f : V → Store → R (Option V)} {all : List V} {σF : Store} {k : Nat} {β' : List Addr} {σ' : Store} {it : Itr} {vs : List V} {vals : List Value} {v : V}
    (X : Ext β s β' s') (R' : SR T β' σ' s') (hI : ItR s'.heap β' I it) (nI : I ∉ β') (hD : s'.heap.PlainList D (List.toArray vals)) (hv : VRs T s'.heap β' vs vals) (nD : D ∉ β') (N' : ER T ce ((y, x) :: Γ) (ρ.set x (some v)) β' s')
    (hz : all.length ≤ sizeMax)
    (hb : Gd T β' s' (ORel T) (fun Q E s => wpAny (model T.prog T.w) A (ifsTree ifs ce) (fun ok s₃ => if ok = true then wpAny (model T.prog T.w) A (eval elt ce) (fun x s₄ => Q (some x) s₄) E s₃ else Q none s₃) E s) (f v σ'))
    (ht : (((f v σ').bind fun o σ1 => (compL f k it σ1).bind fun r σ2 => Mine.R.ok (match o with | some y => y :: r | none => r) σ2).bind fun r σ2 => Mine.R.ok (vs ++ r) σ2) = Mine.R.ok all σF) {E : Value → Shared → Prop} :
    wpAny (model T.prog T.w) A (ifsTree ifs ce) (fun ok s₃ => if ok = true then wpAny (model T.prog T.w) A (eval elt ce) (fun xv s₄ => wpAny (model T.prog T.w) A (call (.builtin "list.append") [.ref D, xv]) (fun _ s₅ => ∃ m, m < k + 1 ∧ CompInv T β s I D ce y x Γ ρ f all σF m s₅) E s₄) E s₃ else ∃ m, m < k + 1 ∧ CompInv T β s I D ce y x Γ ρ f all σF m s₃) E s' := by
  cases hf : f v σ' with
  | stuck => rw [hf] at ht; cases ht
  | err c σ1 => rw [hf] at ht; cases ht
  | ok ov σ1 =>
    rw [hf] at hb ht
    have ht' : ((compL f k it σ1).bind fun r σ2 => Mine.R.ok ((vs ++ ov.toList) ++ r) σ2) = Mine.R.ok all σF := by
      rw [← ht]
      show _ = ((compL f k it σ1).bind fun r σ2 => Mine.R.ok (match ov with | some y => y :: r | .none => r) σ2).bind _
      cases compL f k it σ1 with
      | stuck => rfl
      | err => rfl
      | ok r σ2 => cases ov <;> simp [Mine.R.bind]
    clear ht hf
    have hlen : vs.length ≤ sizeMax := by
      cases hr : compL f k it σ1 with
      | stuck => rw [hr] at ht'; cases ht'
      | err => rw [hr] at ht'; cases ht'
      | ok r σ2 => rw [hr] at ht'; cases ht'; simp only [List.length_append] at hz; omega
    refine hb (fun ov' s₃' => match ov' with
        | some xv => wpAny (model T.prog T.w) A (call (.builtin "list.append") [.ref D, xv]) (fun _ s₅ => ∃ m, m < k + 1 ∧ CompInv T β s I D ce y x Γ ρ f all σF m s₅) E s₃'
        | none => ∃ m, m < k + 1 ∧ CompInv T β s I D ce y x Γ ρ f all σF m s₃') E fun ov' s₃' β₃ x₃' R₃' y₃ => ?_
    have nD₃ : D ∉ β₃ := by obtain ⟨q, e⟩ := hD; exact x₃'.nin nD e
    have hD₃ : s₃'.heap.PlainList D vals.toArray := hD.at fun o e => x₃'.keep D o nD e
    have nI₃ : I ∉ β₃ := by obtain ⟨oI, hoI, _⟩ := hI.obj; exact x₃'.nin nI hoI
    cases ov with
    | none =>
      cases ov' with
      | some _ => exact y₃.elim
      | none =>
        refine ⟨k, Nat.lt_succ_self _, β₃, σ1, it, vs, vals, some v, X.trans x₃', R₃', hI.ext nI x₃', aside_itr K.baseI (hI.ext nI x₃') nI₃, hD₃, hv.ext x₃', nD₃, N'.ext x₃', ?_⟩
        rw [Option.toList_none, List.append_nil] at ht'; exact ht'
    | some u =>
      cases ov' with
      | none => exact y₃.elim
      | some xv => exact comp_add K (X.trans x₃') R₃' (hI.ext nI x₃') nI₃ hD₃ (hv.ext x₃') nD₃ (N'.ext x₃') ht' hlen y₃

theorem comp_loop (hh : A.handled = none) {elt iter : PySem.Expr} {ifs : List PySem.Expr} {csc : Scope} {pos px : Pos} {y : Str} {x lim : Nat} {I D : Addr} {ce : Env} (K : CompCx T β s I D ce y lim) {it : Itr} {s₄ : Shared} {β₂ : List Addr} {σ₂ : Store}
    (x₄ : Ext β s β₂ s₄) (R₄ : SR T β₂ σ₂ s₄) (hI₄ : ItR s₄.heap β₂ I it) (nI : I ∉ β₂) (hD₄ : s₄.heap.PlainList D #[]) (nD : D ∉ β₂) (N4 : ER T ce ((y, x) :: Γ) (ρ.set x none) β₂ s₄)
    {f : V → Store → R (Option V)} {n : Nat} {all : List V} {σF : Store} (htot : compL f n it σ₂ = .ok all σF) (hz : all.length ≤ sizeMax)
    (body : ∀ β' σ' s' v, SR T β' σ' s' → ER T ce ((y, x) :: Γ) (ρ.set x (some v)) β' s' →
      Gd T β' s' (ORel T) (fun Q E s => wpAny (model T.prog T.w) A (ifsTree ifs ce) (fun ok s₃ => if ok = true then wpAny (model T.prog T.w) A (eval elt ce) (fun x s₄ => Q (some x) s₄) E s₃ else Q none s₃) E s) (f v σ'))
    {RR : Result → Shared → Prop}
    (hR : ∀ s' β' m, Ext β s β' s' → SR T β' (σF ++ [.list all]) s' → VR T s'.heap β' (.ref σF.length) (.ref D) → s'.heap.Ns ce.locals m → ce.locals ∉ β' → T.h₀.get? ce.locals = none → RR (.ok .next) s') :
    codeAny (model T.prog T.w) A (.compLoop (.ListComp elt [⟨.Name y px, iter, ifs, 0⟩] csc pos) 0 (.ref I) (.ref D) ce) RR s₄ := by
  refine codeAny_compLoop_tests (CompInv T β s I D ce y x Γ ρ f all σF) ?_ n
    ⟨β₂, σ₂, it, [], [], none, x₄, R₄, hI₄, aside_itr K.baseI hI₄ nI, hD₄, .nil, nD, N4, by rw [htot]; rfl⟩
  rintro k s' ⟨β', σ', it', vs, vals, o, X, R', hI', aI', hD', hv', nD', N', ht⟩
  cases k with
  | zero => cases ht
  | succ k =>
    have step := it_next (A := A) hh R' hI' aI'
    cases hnx : itNext it' σ' with
    | none => rw [compL, hnx] at ht; cases ht
    | some w =>
      rw [compL, hnx] at ht
      rw [hnx] at step
      cases w with
      | none =>
        have ht : Mine.R.ok (vs ++ []) σ' = Mine.R.ok all σF := ht
        rw [List.append_nil] at ht
        cases ht
        refine step _ _ fun s₁ hs₁ hg₁ ho₁ => ?_
        exact comp_end K hz (X.aside K.fI hs₁ hg₁ ho₁) (R'.aside aI' hs₁) (hD'.at fun o e => hs₁ D o (Ne.symm K.ID) e) (hv'.aside aI' hs₁) nD' (N'.aside aI' hs₁ K.nfI) (hR s₁)
      | some w =>
        obtain ⟨v, it2⟩ := w
        refine step _ _ fun yv s₁ hs₁ hg₁ ho₁ hyv hI₁ heI => ?_
        have N₁ := N'.aside aI' hs₁ K.nfI
        refine wpAny_assign_Name (store_var (i := x) (R'.aside aI' hs₁) N₁ K.kOwn (by rw [List.lookup_cons_self]) hyv fun s₂' xF R₂' N₂' mono ⟨c, hcw, hsb⟩ => ?_)
        rw [List.set_set] at N₂'
        have hcI : I ≠ c := fun q => absurd (K.own c hcw) (Nat.not_le.mpr (q ▸ K.lowI))
        have hcD : D ≠ c := fun q => absurd (K.own c hcw) (Nat.not_le.mpr (q ▸ K.lowD))
        have fc : s.heap.get? c = none := by
          cases hq : s.heap.get? c with
          | none => rfl
          | some oo =>
            have hcβ : c ∉ β := fun hm => (N₁.apart c (hcw.elim (fun h => .inl h.1) fun h => .inr ⟨y, h.1⟩)).1 (X.pre.subset hm)
            exact absurd (K.low c oo hcβ hq) (Nat.not_lt.mpr (K.own c hcw))
        exact comp_turn K ((X.aside K.fI hs₁ hg₁ ho₁).aside fc hsb.extBut xF.gens xF.os) R₂' (hI₁.keep fun o e => hsb.extBut I o hcI e) aI'.nin ((hD'.at fun o e => hs₁ D o (Ne.symm K.ID) e).at fun o e => hsb.extBut D o hcD e) ((hv'.aside aI' hs₁).by_mono mono) nD' N₂' hz (body β' σ' s₂' v R₂' N₂') ht

theorem comp_mid (hT : T.Ok) (hh : A.handled = none) {elt iter : PySem.Expr} {ifs : List PySem.Expr} {csc : Scope} {pos px : Pos} {y : Str} {x : Nat} (hc : compOk env.scope csc Γ x y = true) {I D : Addr} {it : Itr} {s₃ : Shared} {β₂ : List Addr} {σ₂ : Store}
    (N : ER T env Γ ρ β s) (x₃ : Ext β s β₂ s₃) (R₃ : SR T β₂ σ₂ s₃) (hI3 : ItR s₃.heap β₂ I it) (nI : I ∉ β₂) (bI : T.h₀.get? I = none) (fI : s.heap.get? I = none) (fD : s.heap.get? D = none) (hID : I ≠ D) (d1 : T.h₀.get? D = none) (d2 : D ≠ sysModules) (d4 : D ∉ β₂) (hD : s₃.heap.PlainList D #[])
    {f : V → Store → R (Option V)} {n : Nat} {all : List V} {σF : Store} (htot : compL f n it σ₂ = .ok all σF) (hz : all.length ≤ sizeMax)
    (body : ∀ (cenv : Env) β' σ' s' v, cenv.scope = relabelS csc env.scope → SR T β' σ' s' → ER T cenv ((y, x) :: Γ) (ρ.set x (some v)) β' s' →
      Gd T β' s' (ORel T) (fun Q E s => wpAny (model T.prog T.w) A (ifsTree ifs cenv) (fun ok s₃ => if ok = true then wpAny (model T.prog T.w) A (eval elt cenv) (fun x s₄ => Q (some x) s₄) E s₃ else Q none s₃) E s) (f v σ'))
    {E : Value → Shared → Prop} {RR : Value → Addr → Result → Shared → Prop}
    (hR : ∀ C s' β' m, Ext β s β' s' → SR T β' (σF ++ [.list all]) s' → VR T s'.heap β' (.ref σF.length) (.ref D) → s'.heap.Ns C m → C ∉ β' → T.h₀.get? C = none → s.heap.get? C = none → RR (.ref D) C (.ok .next) s') :
    wpAny (model T.prog T.w) A (newFunctionEnv csc env.globals (clFrom env csc.names []) [] env.qual none .none (some env)) (fun cenv s₄ =>
      codeAny (model T.prog T.w) A (.compStart (.ListComp elt [⟨.Name y px, iter, ifs, 0⟩] csc pos) 0 (.ref I) (.ref D) { cenv with scope := relabel csc env }) (RR (.ref D) cenv.locals) s₄) E s₃ := by
  have hc' := hc
  simp only [compOk, Bool.and_eq_true, beq_iff_eq, List.all_eq_true, Bool.or_eq_true, Bool.not_eq_true', Option.isNone_iff_eq_none] at hc'
  obtain ⟨⟨⟨⟨⟨⟨_, _⟩, hy⟩, _⟩, hfr⟩, _⟩, _⟩ := hc'
  have N₃ := N.ext x₃
  refine comp_frame (y := y) (fun p hp hpf => ?_) (fun z c hz => ?_) fun cenv h₁ F => ?_
  · rcases hfr p hp with e | e
    · rw [hpf] at e; cases e
    · have e' : isCF (env.kindOf p.1) = true := e
      simp only [isCF, Bool.or_eq_true, beq_iff_eq] at e'
      exact N.there p.1 e'
  · obtain ⟨w, ⟨o, ho, _⟩, _⟩ := N₃.cells z c hz
    exact Heap.lt_size ho
  · obtain ⟨_, _, c3, c4⟩ := R₃.fresh hT
    obtain ⟨oI, hoI, _⟩ := hI3.obj
    have hCL : cenv.locals = s₃.heap.objs.size := F.locals
    have low : ∀ b o, s₃.heap.get? b = some o → s.heap.get? b = none → ¬ frameAt { cenv with scope := relabel csc env } b := fun b o ho hn h => by
      rcases h with q | ⟨z, hz⟩
      · have q' : b = cenv.locals := q
        rw [q', hCL, c3] at ho; cases ho
      · rcases F.cell z b hz with ⟨hl, _, _⟩ | ⟨_, e⟩
        · exact absurd (Heap.lt_size ho) (Nat.not_lt.mpr (Nat.le_of_lt hl))
        · obtain ⟨o, ho⟩ := N.frame_there (.inr ⟨z, e⟩); rw [hn] at ho; cases ho
    obtain ⟨nD, hoD⟩ := hD
    have K : CompCx T β s I D { cenv with scope := relabel csc env } y s₃.heap.objs.size :=
      { baseI := bI, fI := fI, fD := fD, fC := by show s.heap.get? cenv.locals = none; rw [hCL]; exact x₃.fresh c3 c4
        ID := hID, d1 := d1, d2 := d2, lowI := Heap.lt_size hoI, lowD := Heap.lt_size hoD
        low := fun c o h1 h2 => Heap.lt_size (x₃.keep c o h1 h2)
        own := fun c h => by
          rcases h with ⟨h, _⟩ | ⟨h, _⟩
          · have h' : c = cenv.locals := h
            rw [h', hCL]; exact Nat.le_refl _
          · rcases F.cell y c h with ⟨hl, _, _⟩ | ⟨hm, _⟩
            · exact Nat.le_of_lt hl
            · have := lookup_names (nodup_names hc) hm
              rcases hy with e | e <;> rw [this] at e <;> cases e
        kOwn := by
          show (relabel csc env).names.lookup y = _ ∨ (relabel csc env).names.lookup y = _
          rw [relabel_lookup]
          rcases hy with e | e
          · rw [e]; exact .inl rfl
          · rw [e]; exact .inr rfl
        nfI := low I oI hoI fI, nfD := low D _ hoD fD }
    have hI₄ : ItR h₁ β₂ I it := hI3.keep fun o e => F.keep I o e
    have loop := comp_loop (A := A) (s₄ := { s₃ with heap := h₁ }) (elt := elt) (iter := iter) (ifs := ifs) (csc := csc) (pos := pos) (px := px) hh K (x₃.trans (.keeps F.keep rfl rfl)) (R₃.keeps F.keep) hI₄ nI ⟨nD, F.keep D _ hoD⟩ d4 (comp_ER (tk := s₃.toks) hT hc R₃ N₃ F) htot hz (fun β' σ' s' v => body _ β' σ' s' v (relabel_eq csc)) (RR := RR (.ref D) cenv.locals)
      fun s' β' m a b c d e g => hR cenv.locals s' β' m a b c d e g K.fC
    exact codeAny_compStart_list loop (it_self (T := T) (s := { s₃ with heap := h₁ }) hh hI₄ loop)

theorem comp_core (hT : T.Ok) (hh : A.handled = none) {elt iter : PySem.Expr} {ifs : List PySem.Expr} {csc : Scope} {pos px : Pos} {y : Str} {x : Nat} (hc : compOk env.scope csc Γ x y = true) {I : Addr} {it : Itr} {s₂ : Shared} {β₂ : List Addr} {σ₂ : Store}
    (N : ER T env Γ ρ β s) (x₂ : Ext β s β₂ s₂) (R₂ : SR T β₂ σ₂ s₂) (hI : ItR s₂.heap β₂ I it) (aI : Aside T β₂ s₂ I) (fI : s.heap.get? I = none)
    {f : V → Store → R (Option V)} {n : Nat} {all : List V} {σF : Store} (htot : compL f n it σ₂ = .ok all σF) (hz : all.length ≤ sizeMax)
    (body : ∀ (cenv : Env) β' σ' s' v, cenv.scope = relabelS csc env.scope → SR T β' σ' s' → ER T cenv ((y, x) :: Γ) (ρ.set x (some v)) β' s' →
      Gd T β' s' (ORel T) (fun Q E s => wpAny (model T.prog T.w) A (ifsTree ifs cenv) (fun ok s₃ => if ok = true then wpAny (model T.prog T.w) A (eval elt cenv) (fun x s₄ => Q (some x) s₄) E s₃ else Q none s₃) E s) (f v σ'))
    {E : Value → Shared → Prop} {RR : Value → Addr → Result → Shared → Prop}
    (hR : ∀ D C s' β' m, Ext β s β' s' → SR T β' (σF ++ [.list all]) s' → VR T s'.heap β' (.ref σF.length) (.ref D) → s'.heap.Ns C m → C ∉ β' → T.h₀.get? C = none → s.heap.get? C = none → RR (.ref D) C (.ok .next) s') :
    wpAny (model T.prog T.w) A (newList []) (fun acc s₃ => wpAny (model T.prog T.w) A (newFunctionEnv csc env.globals (clFrom env csc.names []) [] env.qual none .none (some env)) (fun cenv s₄ =>
      codeAny (model T.prog T.w) A (.compStart (.ListComp elt [⟨.Name y px, iter, ifs, 0⟩] csc pos) 0 (.ref I) acc { cenv with scope := relabel csc env }) (RR acc cenv.locals) s₄) E s₃) E s₂ := by
  refine wpAny_newObj_type ?_ (Nat.zero_le _)
  obtain ⟨d1, d2, d3, d4⟩ := R₂.fresh hT
  have hk0 : ∀ b o, s₂.heap.get? b = some o → (s₂.heap.push { cls := .type "list", dict := none, data := .seq ([] : List Value).toArray }).get? b = some o := fun b o e => Heap.get?_push_of_some _ e
  have hID : I ≠ s₂.heap.objs.size := fun q => by obtain ⟨oI, hoI, _⟩ := hI.obj; rw [q, d3] at hoI; cases hoI
  exact comp_mid (s₃ := { s₂ with heap := s₂.heap.push { cls := .type "list", dict := none, data := .seq ([] : List Value).toArray } }) hT hh hc N (x₂.trans (.keeps hk0 rfl rfl)) (R₂.keeps hk0) (hI.keep fun o e => hk0 I o e) aI.nin aI.base fI (x₂.fresh d3 d4) hID d1 d2 d4 ⟨_, Heap.get?_push_size _ rfl⟩ htot hz body (hR _)
end
end Mine

namespace Mine
open PySem PyProof.Rows PySem.Calls

section
variable {T : Tp} {cx : Cx} {G : List Int} {C : Nat → List V → Store → R V} {d : Nat}
variable {A : Around} {β : List Addr} {σ : Store} {s s' : Shared} {env : Env} {Γ : List (Str × Nat)} {ρ : Loc}

noncomputable def ItRel (T : Tp) (s₀ : Shared) : Heap → List Addr → Itr → Value → Prop := fun h β it v => ∃ I, v = .ref I ∧ ItR h β I it ∧ I ∉ β ∧ T.h₀.get? I = none ∧ s₀.heap.get? I = none

theorem fold_id {e : PySem.Expr} (h : notSet e = true) (x : Value) : foldedSetIterable e env x = pure x := by
  cases e <;> first | rfl | cases h

noncomputable def SndIt (T : Tp) (cx : Cx) (G : List Int) (C : Nat → List V → Store → R V) (d : Nat) (ir : It) : Prop :=
  ∀ ⦃A : Around⦄ ⦃β : List Addr⦄ ⦃σ : Store⦄ ⦃s : Shared⦄ ⦃env : Env⦄ ⦃Γ : List (Str × Nat)⦄ ⦃ρ : Loc⦄ ⦃e : PySem.Expr⦄, chkIt cx env.scope Γ ir e = true → SR T β σ s → ER T env Γ ρ β s → AOk A d →
    Gd T β s (ItRel T s) (fun Q E s => wpAny (model T.prog T.w) A (eval e env) (fun x s₁ => wpAny (model T.prog T.w) A (pyIter x) Q E s₁) E s) (evIt T.ns G C ρ ir σ)

theorem fresh_it (hT : T.Ok) {β₁ : List Addr} {s₁ : Shared} (R₁ : SR T β₁ σ s₁) (x₁ : Ext β s β₁ s₁) : s₁.heap.objs.size ∉ β₁ ∧ T.h₀.get? s₁.heap.objs.size = none ∧ s.heap.get? s₁.heap.objs.size = none := by
  obtain ⟨f1, f2, f3, f4⟩ := R₁.fresh hT
  exact ⟨f4, f1, x₁.fresh f3 f4⟩

theorem snd_range (hT : T.Ok) (X : TG T cx G) {x : E} (hx : SndE T cx G C d x) : SndIt T cx G C d (.range x) := by
  intro A β σ s env Γ ρ e h0 R N a
  obtain ⟨z, px, y, pos, rfl, h⟩ := onCall1_inv h0
  clear h0
  simp only [Bool.and_eq_true] at h
  change Gd T β s _ _ ((evE T.ns G C ρ x σ).bind fun v σ1 => match v with | .int n => (if 0 ≤ n ∧ n ≤ sizeMax then .ok (Itr.vals (rangeV n.toNat)) σ1 else .stuck) | _ => .stuck)
  refine Gd.of (W := fun Q E s => wpAny (model T.prog T.w) A (eval _ env) (fun v s₁ => wpAny (model T.prog T.w) A (call (.type "range") [v]) (fun r s' => wpAny (model T.prog T.w) A (pyIter r) Q E s') E s₁) E s)
    (Gd.bind (W' := fun v Q E s₁ => wpAny (model T.prog T.w) A (call (.type "range") [v]) (fun r s' => wpAny (model T.prog T.w) A (pyIter r) Q E s') E s₁) (hx h.2 R N a).1 fun v v' σ1 s1 β1 x1 R1 y1 => ?_)
    fun Q E w => call_t1 X R N h.1.1 (by simp [builtinVals]) h.1.2 w
  split
  · cases y1
    rename_i n t
    split
    · rename_i hz
      intro Q E hQ
      refine call_range_1 ?_
      have hk0 : ∀ b o, s1.heap.get? b = some o → (s1.heap.push { cls := .type "range", data := .fields #[.int 0 s1.toks, .int n t, .int 1 (s1.toks + 1)] }).get? b = some o := fun b o e => Heap.get?_push_of_some _ e
      have R2 : SR T β1 σ1 { s1 with heap := s1.heap.push { cls := .type "range", data := .fields #[.int 0 s1.toks, .int n t, .int 1 (s1.toks + 1)] }, toks := s1.toks + 1 + 1 } := R1.keeps hk0
      have x2 : Ext β1 s1 β1 { s1 with heap := s1.heap.push { cls := .type "range", data := .fields #[.int 0 s1.toks, .int n t, .int 1 (s1.toks + 1)] }, toks := s1.toks + 1 + 1 } := .keeps hk0 rfl rfl
      refine wpAny_pyIter_range (Heap.get?_push_size _ rfl) (range_small hz.1 hz.2).1 ?_
      rw [(range_small hz.1 hz.2).2]
      generalize ({ s1 with heap := s1.heap.push { cls := .type "range", data := .fields #[.int 0 s1.toks, .int n t, .int 1 (s1.toks + 1)] }, toks := s1.toks + 1 + 1 } : Shared) = s2 at *
      obtain ⟨g1, g2, g3⟩ := fresh_it hT R2 (x1.trans x2)
      have hk : ∀ b o, s2.heap.get? b = some o → (s2.heap.push { cls := .type "range_iterator", data := .fields #[rawInt 0, rawInt (n.toNat : Int), rawInt 1] }).get? b = some o := fun b o e => Heap.get?_push_of_some _ e
      refine hQ _ { s2 with heap := s2.heap.push { cls := .type "range_iterator", data := .fields #[rawInt 0, rawInt (n.toNat : Int), rawInt 1] } } β1 (x2.trans (.keeps hk rfl rfl)) (R2.keeps hk) ⟨_, rfl, ?_, g1, g2, g3⟩
      have := ItR.vals (β := β1) (lo := 0) (n := n.toNat) (h := s2.heap.push { cls := .type "range_iterator", data := .fields #[rawInt 0, rawInt (n.toNat : Int), rawInt 1] }) (I := s2.heap.objs.size) (Heap.get?_push_size _ rfl)
      simpa [rangeV] using this
    · exact trivial
  · exact trivial
theorem snd_seq (hT : T.Ok) {x : E} (hx : SndE T cx G C d x) : SndIt T cx G C d (.seq x) := by
  intro A β σ s env Γ ρ e h R N a
  have h : chkE cx env.scope Γ x e = true := h
  change Gd T β s _ _ ((evE T.ns G C ρ x σ).bind fun v σ1 => match v with | .ref i => (match σ1[i]? with | some (.list _) => .ok (Itr.ref i 0) σ1 | _ => .stuck) | _ => .stuck)
  refine Gd.bind (W' := fun v Q E s₁ => wpAny (model T.prog T.w) A (pyIter v) Q E s₁) (hx h R N a).1 fun v v' σ1 s1 β1 x1 R1 y1 => ?_
  split
  · obtain ⟨l, rfl, hl⟩ := y1.refAt
    split
    · rename_i vs hs
      obtain ⟨vals, hP, hv, hz⟩ := R1.list hs hl
      intro Q E hQ
      refine wpAny_pyIter_list hP.isList ?_
      obtain ⟨g1, g2, g3⟩ := fresh_it hT R1 x1
      have hk : ∀ b o, s1.heap.get? b = some o → (s1.heap.push { cls := .type "list_iterator", data := .fields #[.ref l, .int 0 0] }).get? b = some o := fun b o e => Heap.get?_push_of_some _ e
      exact hQ _ { s1 with heap := s1.heap.push { cls := .type "list_iterator", data := .fields #[.ref l, .int 0 0] } } β1 (.keeps hk rfl rfl) (R1.keeps hk) ⟨_, rfl, .ref hl ⟨_, Heap.get?_push_size _ rfl, rfl, rfl⟩, g1, g2, g3⟩
    · exact trivial
  · exact trivial

/-- what stands behind a comprehension's end -/
theorem aside_ns {Cc : Addr} {m : Str → Option Value} (h1 : Cc ∉ β) (h2 : T.h₀.get? Cc = none) (h3 : s.heap.Ns Cc m) : Aside T β s Cc :=
  ⟨h1, h2, fun vals n e => by obtain ⟨o, es, ep, ho, hd, _⟩ := h3; rw [ho] at e; cases e; cases hd⟩

/-- a comprehension as a tree, with its use -/
theorem comp_gen (hT : T.Ok) (a : AOk A d) {elt iter : PySem.Expr} {ifs : List PySem.Expr} {csc : Scope} {pos px p0 : Pos} {y : Str} {x : Nat} (hc : compOk env.scope csc Γ x y = true) (hn : notSet iter = true)
    (R : SR T β σ s) (N : ER T env Γ ρ β s) {ir : It} (hit : SndIt T cx G C d ir) (hci : chkIt cx env.scope Γ ir iter = true) {f : V → Store → Mine.R (Option V)}
    (body : ∀ (cenv : Env) β' σ' s' v, cenv.scope = relabelS csc env.scope → SR T β' σ' s' → ER T cenv ((y, x) :: Γ) (ρ.set x (some v)) β' s' →
      Gd T β' s' (ORel T) (fun Q E s => wpAny (model T.prog T.w) A (ifsTree ifs cenv) (fun ok s₃ => if ok = true then wpAny (model T.prog T.w) A (eval elt cenv) (fun x s₄ => Q (some x) s₄) E s₃ else Q none s₃) E s) (f v σ'))
    (use : Option (Value → Sem Unit)) :
    match (evIt T.ns G C ρ ir σ).bind fun i σ1 => (compL f (itFuel i σ1) i σ1).noErr.bind newL with
    | .stuck => True
    | .err c σ' => ∀ (Q : Value → Shared → Prop) (E : Value → Shared → Prop), (∀ e s' β', Ext β s β' s' → SR T β' σ' s' → XR T s' c e → E e s') →
        wpAny (model T.prog T.w) A (comprehension (.ListComp elt [⟨.Name y px, iter, ifs, 0⟩] csc pos) csc env p0 (newList []) false (eval iter env) use) Q E s
    | .ok v σ' => ∀ (Q : Value → Shared → Prop) (E : Value → Shared → Prop),
        (∀ v' Cc s' β' m, Ext β s β' s' → SR T β' σ' s' → VR T s'.heap β' v v' → s'.heap.Ns Cc m → Aside T β' s' Cc → s.heap.get? Cc = none →
          match use with
          | none => ∀ h', Heap.SameBut Cc s'.heap h' → Q v' { s' with heap := h' }
          | some u => wpAny (model T.prog T.w) A (u v') (fun _ s'' => ∃ m, s''.heap.Ns Cc m ∧ ∀ h', Heap.SameBut Cc s''.heap h' → Q .none { s'' with heap := h' }) E s') →
        wpAny (model T.prog T.w) A (comprehension (.ListComp elt [⟨.Name y px, iter, ifs, 0⟩] csc pos) csc env p0 (newList []) false (eval iter env) use) Q E s := by
  have hc' := hc
  simp only [compOk, Bool.and_eq_true, beq_iff_eq, List.all_eq_true, Bool.or_eq_true, Bool.not_eq_true', Option.isNone_iff_eq_none] at hc'
  obtain ⟨⟨⟨⟨⟨⟨hk, _⟩, hy⟩, hyn⟩, hfr⟩, hsl⟩, hown⟩ := hc'
  have hclos : closureFor csc env = pure (clFrom env csc.names []) := closure_eq fun p hp hpf => by
    rcases hfr p hp with e | e
    · rw [hpf] at e; cases e
    · have e' : isCF (env.kindOf p.1) = true := e
      simp only [isCF, Bool.or_eq_true, beq_iff_eq] at e'
      exact N.there p.1 e'
  have hnames : ∀ z ∈ csc.names, z.2 = .local → csc.names.lookup z.1 = some .local := fun z hz hl => lookup_names (nodup_names hc) (by rw [← hl]; exact hz)
  have hi := hit hci R N a
  cases hr : evIt T.ns G C ρ ir σ with
  | stuck => exact trivial
  | err c σ' =>
    rw [hr] at hi
    exact fun Q E hE => wpAny_comprehension_free (use := use) rfl (fun z => fold_id hn z) hclos hk hnames (hi _ E hE)
  | ok i σ1 =>
    rw [hr] at hi
    simp only [Mine.R.bind]
    cases hl : compL f (itFuel i σ1) i σ1 with
    | stuck => exact trivial
    | err => exact trivial
    | ok all σF =>
      simp only [Mine.R.noErr, newL]
      split
      · rename_i heq; split at heq <;> cases heq
        exact trivial
      · rename_i heq; split at heq <;> cases heq
      · rename_i v σ' heq
        split at heq
        · rename_i hz
          cases heq
          intro Q E hQ
          refine wpAny_comprehension_free (use := use) rfl (fun z => fold_id hn z) hclos hk hnames (hi _ E fun v' s₂ β₂ x₂ R₂ y₂ => ?_)
          obtain ⟨I, rfl, hI, nI, bI, fI⟩ := y₂
          obtain ⟨oI, hoI, hnt⟩ := hI.obj
          refine comp_core (RR := fun acc Cc => compPost (model T.prog T.w) A E use Q acc Cc) hT a.handled hc N x₂ R₂ hI ⟨nI, bI, fun vals m e => hnt vals m (hoI.symm.trans e)⟩ fI hl hz body fun D Cc s' β' m X R' V hm nC bC fC => ?_
          have := hQ (.ref D) Cc s' β' m X R' V hm (aside_ns nC bC hm) fC
          cases use with
          | none => exact ⟨m, hm, this⟩
          | some u => exact this
        · cases heq

theorem comp_eval (hT : T.Ok) (a : AOk A d) {elt iter : PySem.Expr} {ifs : List PySem.Expr} {csc : Scope} {pos px : Pos} {y : Str} {x : Nat} (hc : compOk env.scope csc Γ x y = true) (hn : notSet iter = true)
    (R : SR T β σ s) (N : ER T env Γ ρ β s) {ir : It} (hit : SndIt T cx G C d ir) (hci : chkIt cx env.scope Γ ir iter = true) {f : V → Store → Mine.R (Option V)}
    (body : ∀ (cenv : Env) β' σ' s' v, cenv.scope = relabelS csc env.scope → SR T β' σ' s' → ER T cenv ((y, x) :: Γ) (ρ.set x (some v)) β' s' →
      Gd T β' s' (ORel T) (fun Q E s => wpAny (model T.prog T.w) A (ifsTree ifs cenv) (fun ok s₃ => if ok = true then wpAny (model T.prog T.w) A (eval elt cenv) (fun x s₄ => Q (some x) s₄) E s₃ else Q none s₃) E s) (f v σ')) :
    Good T A β s (VRel T) (eval (.ListComp elt [⟨.Name y px, iter, ifs, 0⟩] csc pos) env) ((evIt T.ns G C ρ ir σ).bind fun i σ1 => (compL f (itFuel i σ1) i σ1).noErr.bind newL) := by
  rw [eval_ListComp]
  have := comp_gen (cx := cx) (G := G) (C := C) (pos := pos) (px := px) (p0 := firstIterPos [⟨.Name y px, iter, ifs, 0⟩] pos) hT a hc hn R N hit hci body none
  revert this
  cases (evIt T.ns G C ρ ir σ).bind fun i σ1 => (compL f (itFuel i σ1) i σ1).noErr.bind newL with
  | stuck => exact fun _ => trivial
  | err c σ' => exact fun h => h
  | ok v σ' => exact fun h Q E hQ => h Q E fun v' Cc s' β' m X R' V hm aC fC h' hsb => hQ v' { s' with heap := h' } β' (X.aside fC hsb.extBut rfl rfl) (R'.aside (s' := { s' with heap := h' }) aC hsb.extBut) (V.aside (s' := { s' with heap := h' }) aC hsb.extBut)

/-- the body of a comprehension without a test -/
theorem comp_body {x : E} {xi : Nat} {y : Str} {csc sc : Scope} {el : PySem.Expr} (hx : SndE T cx G C d x) (hc : chkE cx (relabelS csc sc) ((y, xi) :: Γ) x el = true) (a : AOk A d) :
    ∀ (cenv : Env) β' σ' s' v, cenv.scope = relabelS csc sc → SR T β' σ' s' → ER T cenv ((y, xi) :: Γ) (ρ.set xi (some v)) β' s' →
      Gd T β' s' (ORel T) (fun Q E s => wpAny (model T.prog T.w) A (ifsTree [] cenv) (fun ok s₃ => if ok = true then wpAny (model T.prog T.w) A (eval el cenv) (fun x s₄ => Q (some x) s₄) E s₃ else Q none s₃) E s)
        ((evE T.ns G C (ρ.set xi (some v)) x σ').bind fun y τ1 => .ok (some y) τ1) := by
  intro cenv β' σ' s' v hs R' N'
  refine Gd.of (W := fun Q E s => wpAny (model T.prog T.w) A (eval el cenv) (fun x s₄ => Q (some x) s₄) E s)
    (Gd.bind (W' := fun x Q _ s => Q (some x) s) (hx (by rw [hs]; exact hc) R' N' a).1 fun u u' σ1 s1 β1 x1 R1 y1 => fun Q E hQ => hQ _ _ _ (.refl _ _) R1 y1) fun Q E w => wpAny_tests_nil (by simpa using w)

theorem asB_bind {α : Type} (r : R V) (g : Bool → Store → R α) : (asB r).bind g = r.bind fun v σ => match v with | .bool b => g b σ | _ => .stuck := by
  cases r with
  | stuck => rfl
  | err => rfl
  | ok v σ => cases v <;> rfl

theorem comp_bodyIf {x c : E} {xi : Nat} {y : Str} {csc sc : Scope} {el ce : PySem.Expr} (hx : SndE T cx G C d x) (hcn : SndE T cx G C d c) (hc : chkE cx (relabelS csc sc) ((y, xi) :: Γ) x el = true) (hcc : chkE cx (relabelS csc sc) ((y, xi) :: Γ) c ce = true) (a : AOk A d) :
    ∀ (cenv : Env) β' σ' s' v, cenv.scope = relabelS csc sc → SR T β' σ' s' → ER T cenv ((y, xi) :: Γ) (ρ.set xi (some v)) β' s' →
      Gd T β' s' (ORel T) (fun Q E s => wpAny (model T.prog T.w) A (ifsTree [ce] cenv) (fun ok s₃ => if ok = true then wpAny (model T.prog T.w) A (eval el cenv) (fun x s₄ => Q (some x) s₄) E s₃ else Q none s₃) E s)
        ((evE T.ns G C (ρ.set xi (some v)) c σ').bind fun b τ1 => match b with
          | .bool true => (evE T.ns G C (ρ.set xi (some v)) x τ1).bind fun y τ2 => .ok (some y) τ2
          | .bool false => .ok .none τ1
          | _ => .stuck) := by
  intro cenv β' σ' s' v hs R' N'
  have key := Gd.bind (W' := fun ok Q E s₃ => if ok = true then wpAny (model T.prog T.w) A (eval el cenv) (fun x s₄ => Q (some x) s₄) E s₃ else Q none s₃) (Rel' := ORel T)
    (g := fun b τ1 => if b = true then (evE T.ns G C (ρ.set xi (some v)) x τ1).bind fun y τ2 => Mine.R.ok (some y) τ2 else .ok .none τ1)
    (hcn (by rw [hs]; exact hcc) R' N' a).2.gd fun b b' σ1 s1 β1 x1 R1 y1 => by
      have y1' : b = b' := y1
      subst y1'
      cases b with
      | true =>
        simp only [if_true]
        exact Gd.bind (W' := fun x Q _ s => Q (some x) s) (hx (by rw [hs]; exact hc) R1 (N'.ext x1) a).1 fun u u' σ1 s1 β1 x1 R1 y1 => fun Q E hQ => hQ _ _ _ (.refl _ _) R1 y1
      | false =>
        simp only [Bool.false_eq_true, if_false]
        exact fun Q E hQ => hQ _ _ _ (.refl _ _) R1 trivial
  rw [asB_bind] at key
  have e : (fun (b : V) (τ1 : Store) => match b with
          | .bool true => (evE T.ns G C (ρ.set xi (some v)) x τ1).bind fun y τ2 => Mine.R.ok (some y) τ2
          | .bool false => .ok .none τ1
          | _ => .stuck) = (fun v_1 σ => match v_1 with | .bool b => (if b = true then (evE T.ns G C (ρ.set xi (some v)) x σ).bind fun y τ2 => Mine.R.ok (some y) τ2 else .ok .none σ) | _ => .stuck) := by
    funext b τ
    cases b with
    | bool b => cases b <;> rfl
    | _ => rfl
  rw [e]
  exact key.of fun Q E w => wpAny_tests_one w

theorem snd_comp (hT : T.Ok) {x : E} (xi : Nat) {ir : It} (hx : SndE T cx G C d x) (hit : SndIt T cx G C d ir) : SndE T cx G C d (.comp x xi ir) := by
  intro A β σ s env Γ ρ e h0 R N a
  obtain ⟨el, y, py, iter, csc, p, rfl, k1, k2, k3, k4⟩ := inv_comp h0
  exact both (comp_eval hT a k1 k2 R N hit k3 (comp_body hx k4 a)) rfl
theorem snd_compIf (hT : T.Ok) {x c : E} (xi : Nat) {ir : It} (hx : SndE T cx G C d x) (hcn : SndE T cx G C d c) (hit : SndIt T cx G C d ir) : SndE T cx G C d (.compIf x xi ir c) := by
  intro A β σ s env Γ ρ e h0 R N a
  obtain ⟨el, y, py, iter, ce, csc, p, rfl, k1, k2, k3, k4, k5⟩ := inv_compIf h0
  exact both (comp_eval hT a k1 k2 R N hit k3 (comp_bodyIf hx hcn k4 k5 a)) rfl
theorem snd_no {x : E} (h : ∀ sc Γ e, chkE cx sc Γ x e = false) : SndE T cx G C d x := by
  intro A β σ s env Γ ρ e hc
  rw [h] at hc; cases hc

mutual
theorem sndE (hT : T.Ok) (X : TG T cx G) (hC : CS T C d) : ∀ e, SndE T cx G C d e
  | .none => snd_none
  | .bool b => snd_bool b
  | .int i => snd_int i
  | .str x => snd_str x
  | .var i => snd_var i
  | .glob g => snd_glob X g
  | .fn _ => snd_no fun _ _ _ => rfl
  | .bin op a b => snd_bin hT op (sndE hT X hC a) (sndE hT X hC b)
  | .neg _ => snd_no fun _ _ _ => rfl
  | .not a => snd_not (sndE hT X hC a)
  | .and a b => snd_and (sndE hT X hC a) (sndE hT X hC b)
  | .or a b => snd_or (sndE hT X hC a) (sndE hT X hC b)
  | .cmp op a b => snd_cmp op (sndE hT X hC a) (sndE hT X hC b)
  | .cmp2 o1 o2 a b c => snd_cmp2 o1 o2 (sndE hT X hC a) (sndE hT X hC b) (sndE hT X hC c)
  | .list es => snd_list hT (snd_all es (sndAll hT X hC es))
  | .tup es => snd_tup hT (snd_all es (sndAll hT X hC es))
  | .dictS ks es => snd_dictS hT ks (sndAll hT X hC es)
  | .dictI => snd_no fun _ _ _ => rfl
  | .idx a i => snd_idx hT (sndE hT X hC a) (sndE hT X hC i)
  | .sl a b c => snd_sl hT (sndE hT X hC a) (sndE hT X hC b) (sndE hT X hC c)
  | .slFrom _ _ => snd_no fun _ _ _ => rfl
  | .slTo a b => snd_slTo hT (sndE hT X hC a) (sndE hT X hC b)
  | .call f es => snd_call X hC f (snd_all es (sndAll hT X hC es))
  | .callv _ _ => snd_no fun _ _ _ => rfl
  | .len a => snd_len hT X (sndE hT X hC a)
  | .listOf a => snd_listOf hT X (sndE hT X hC a)
  | .listRange a => snd_listRange hT X (sndE hT X hC a)
  | .listRev a => snd_listRev hT X (sndE hT X hC a)
  | .isinst a t => snd_isinst X t (sndE hT X hC a)
  | .toInt a => snd_toInt X (sndE hT X hC a)
  | .max _ _ => snd_no fun _ _ _ => rfl
  | .min _ _ => snd_no fun _ _ _ => rfl
  | .sum _ => snd_no fun _ _ _ => rfl
  | .upper _ => snd_no fun _ _ _ => rfl
  | .rep _ _ => snd_no fun _ _ _ => rfl
  | .comp e x it => snd_comp hT x (sndE hT X hC e) (sndIt hT X hC it)
  | .compIf e x it c => snd_compIf hT x (sndE hT X hC e) (sndE hT X hC c) (sndIt hT X hC it)
theorem sndIt (hT : T.Ok) (X : TG T cx G) (hC : CS T C d) : ∀ it, SndIt T cx G C d it
  | .range e => snd_range hT X (sndE hT X hC e)
  | .seq e => snd_seq hT (sndE hT X hC e)
theorem sndAll (hT : T.Ok) (X : TG T cx G) (hC : CS T C d) : ∀ es, EsAll (SndE T cx G C d) es
  | .nil => trivial
  | .cons e r => ⟨sndE hT X hC e, sndAll hT X hC r⟩
end
end
end Mine

namespace Mine
open PySem PyProof.Rows PySem.Calls

noncomputable def baseOk : PySem.Expr → Bool
  | .Name .. => true
  | .Subscript .. => true
  | _ => false
noncomputable def notComp : PySem.Expr → Bool
  | .ListComp .. => false
  | .SetComp .. => false
  | .DictComp .. => false
  | _ => true
noncomputable def isCompE : E → Bool
  | .comp .. => true
  | .compIf .. => true
  | _ => false
noncomputable def isStore (k : Option NameKind) : Bool := k == some .local || k == some .cell

noncomputable def asAssign : Stmt → Option (List PySem.Expr × PySem.Expr)
  | .Assign ts v _ => some (ts, v)
  | _ => none
theorem asAssign_inv {e : Stmt} {c : (List PySem.Expr × PySem.Expr)} (h : asAssign e = some c) : ∃ p, e = .Assign c.1 c.2 p := by
  cases e <;> first | exact no_some h | (cases h; exact ⟨_, rfl⟩)
noncomputable def asExprS : Stmt → Option PySem.Expr
  | .Expr v _ => some v
  | _ => none
theorem asExprS_inv {e : Stmt} {c : PySem.Expr} (h : asExprS e = some c) : ∃ p, e = .Expr c p := by
  cases e <;> first | exact no_some h | (cases h; exact ⟨_, rfl⟩)
noncomputable def asRet : Stmt → Option (Option PySem.Expr)
  | .Return v _ => some v
  | _ => none
theorem asRet_inv {e : Stmt} {c : (Option PySem.Expr)} (h : asRet e = some c) : ∃ p, e = .Return c p := by
  cases e <;> first | exact no_some h | (cases h; exact ⟨_, rfl⟩)
noncomputable def asIf : Stmt → Option (PySem.Expr × List Stmt × List Stmt)
  | .If t a b _ => some (t, a, b)
  | _ => none
theorem asIf_inv {e : Stmt} {c : (PySem.Expr × List Stmt × List Stmt)} (h : asIf e = some c) : ∃ p, e = .If c.1 c.2.1 c.2.2 p := by
  cases e <;> first | exact no_some h | (cases h; exact ⟨_, rfl⟩)
noncomputable def asWhile : Stmt → Option (PySem.Expr × List Stmt × List Stmt)
  | .While t a b _ => some (t, a, b)
  | _ => none
theorem asWhile_inv {e : Stmt} {c : (PySem.Expr × List Stmt × List Stmt)} (h : asWhile e = some c) : ∃ p, e = .While c.1 c.2.1 c.2.2 p := by
  cases e <;> first | exact no_some h | (cases h; exact ⟨_, rfl⟩)
noncomputable def asFor : Stmt → Option (PySem.Expr × PySem.Expr × List Stmt × List Stmt)
  | .For x i a b _ => some (x, i, a, b)
  | _ => none
theorem asFor_inv {e : Stmt} {c : (PySem.Expr × PySem.Expr × List Stmt × List Stmt)} (h : asFor e = some c) : ∃ p, e = .For c.1 c.2.1 c.2.2.1 c.2.2.2 p := by
  cases e <;> first | exact no_some h | (cases h; exact ⟨_, rfl⟩)
section
variable (cx : Cx)
mutual
noncomputable def chkS : Scope → List (Str × Nat) → S → Stmt → Bool
  | sc, Γ, .assign i e, st => onO (asAssign st) fun q => onO (one q.1) fun t => onO (asName t) fun x => isStore (sc.names.lookup x) && Γ.lookup x == some i && chkE cx sc Γ e q.2 && (notComp q.2 || isCompE e)
  | sc, Γ, .setItem a i e, st => onO (asAssign st) fun q => onO (one q.1) fun t => onO (asSub t) fun u => notComp q.2 && chkE cx sc Γ e q.2 && chkE cx sc Γ a u.1 && chkE cx sc Γ i u.2
  | sc, Γ, .append a e, st => onO (asExprS st) fun v => onO (asCall v) fun c => onO (asAttr c.1) fun o => onO (one c.2.1) fun y => c.2.2.1.isEmpty && baseOk o.1 && o.2.1 == Str.ofString "append" && o.2.2.endLine == c.2.2.2.line && notStar y && chkE cx sc Γ a o.1 && chkE cx sc Γ e y
  | _, _, .clear _, _ => false
  | sc, Γ, .expr e, st => onO (asExprS st) fun v => notComp v && chkE cx sc Γ e v
  | sc, Γ, .ret e, st => onO (asRet st) fun o => onO o fun v => chkE cx sc Γ e v
  | sc, Γ, .ite t a b, st => onO (asIf st) fun q => chkE cx sc Γ t q.1 && chkSs sc Γ a q.2.1 && chkSs sc Γ b q.2.2
  | sc, Γ, .while t b, st => onO (asWhile st) fun q => q.2.2.isEmpty && chkE cx sc Γ t q.1 && chkSs sc Γ b q.2.1
  | sc, Γ, .for i it b, st => onO (asFor st) fun q => onO (asName q.1) fun x => q.2.2.2.isEmpty && isStore (sc.names.lookup x) && Γ.lookup x == some i && notSet q.2.1 && chkIt cx sc Γ it q.2.1 && chkSs sc Γ b q.2.2.1
  | _, _, .abort, _ => true
  | _, _, .raise _, _ => false
  | _, _, .try _ _, _ => false
noncomputable def chkSs : Scope → List (Str × Nat) → Ss → List Stmt → Bool
  | _, _, .nil, l => l.isEmpty
  | sc, Γ, .cons s r, l => onO l.head? fun st => chkS sc Γ s st && chkSs sc Γ r l.tail
end
end
section
variable {cx : Cx} {sc : Scope} {Γ : List (Str × Nat)}
theorem inv_consSs {a : S} {r : Ss} {l : List Stmt} (h : chkSs cx sc Γ (.cons a r) l = true) : ∃ x t, l = x :: t ∧ chkS cx sc Γ a x = true ∧ chkSs cx sc Γ r t = true := by
  obtain ⟨x, h1, h⟩ := onO_true h
  rw [Bool.and_eq_true] at h
  cases l with
  | nil => cases h1
  | cons q t => cases h1; exact ⟨x, t, rfl, h.1, h.2⟩
theorem inv_nilSs {l : List Stmt} (h : chkSs cx sc Γ .nil l = true) : l = [] := isEmpty_inv h
end

inductive FlR (T : Tp) (h : Heap) (β : List Addr) : F → Flow → Prop
  | next : FlR T h β .next .next
  | ret {v : V} {x : Value} : VR T h β v x → FlR T h β (.ret v) (.ret x)

noncomputable def GdS (T : Tp) (env : Env) (Γ : List (Str × Nat)) (β : List Addr) (s : Shared) (W : PT Flow) (r : R (F × Loc)) : Prop :=
  match r with
  | .ok a σ' => ∀ (Q : Flow → Shared → Prop) (E : Value → Shared → Prop), (∀ fl s' β', ExtF env β s β' s' → SR T β' σ' s' → ER T env Γ a.2 β' s' → FlR T s'.heap β' a.1 fl → Q fl s') → W Q E s
  | .err c σ' => ∀ (Q : Flow → Shared → Prop) (E : Value → Shared → Prop), (∀ e s' β', ExtF env β s β' s' → SR T β' σ' s' → XR T s' c e → E e s') → W Q E s
  | .stuck => True

section
variable {T : Tp} {cx : Cx} {G : List Int} {C : Nat → List V → Store → R V} {d N : Nat}
variable {A : Around} {β : List Addr} {σ : Store} {s s' : Shared} {env : Env} {Γ : List (Str × Nat)} {ρ : Loc}

theorem GdS.of {W W' : PT Flow} {r : R (F × Loc)} (h : GdS T env Γ β s W r) (k : ∀ Q E, W Q E s → W' Q E s) : GdS T env Γ β s W' r := by
  cases r with
  | stuck => exact trivial
  | ok v σ' => exact fun Q E hQ => k _ _ (h Q E hQ)
  | err v σ' => exact fun Q E hQ => k _ _ (h Q E hQ)

/-- an expression, then a statement's rest -/
theorem GdS.bindE {α α' : Type} {Rel : Heap → List Addr → α → α' → Prop} {W : PT α'} {W' : α' → PT Flow} {r : R α} {g : α → Store → R (F × Loc)} (N : ER T env Γ ρ β s)
    (h : Gd T β s Rel W r) (k : ∀ v v' σ' s' β', Ext β s β' s' → SR T β' σ' s' → Rel s'.heap β' v v' → GdS T env Γ β' s' (W' v') (g v σ')) : GdS T env Γ β s (fun Q E s => W (fun v s' => W' v Q E s') E s) (r.bind g) := by
  cases r with
  | stuck => exact trivial
  | err c σ' => exact fun Q E hE => h _ E fun e s' β' x R y => hE e s' β' (x.toF N) R y
  | ok v σ' =>
    show GdS T env Γ β s _ (g v σ')
    cases hg : g v σ' with
    | stuck => exact trivial
    | ok u σ2 =>
      intro Q E hQ
      refine h _ E fun v' s' β' x R y => ?_
      have := k v v' σ' s' β' x R y
      rw [hg] at this
      exact this Q E fun u' s2 β2 x2 R2 N2 y2 => hQ u' s2 β2 ((x.toF N).trans x2) R2 N2 y2
    | err c σ2 =>
      intro Q E hE
      refine h _ E fun v' s' β' x R y => ?_
      have := k v v' σ' s' β' x R y
      rw [hg] at this
      exact this Q E fun e s2 β2 x2 R2 y2 => hE e s2 β2 ((x.toF N).trans x2) R2 y2

/-- a statement, then the rest -/
theorem GdS.bindS {W : PT Flow} {W' : Flow → PT Flow} {r : R (F × Loc)} {g : F × Loc → Store → R (F × Loc)}
    (h : GdS T env Γ β s W r) (k : ∀ a fl σ' s' β', ExtF env β s β' s' → SR T β' σ' s' → ER T env Γ a.2 β' s' → FlR T s'.heap β' a.1 fl → GdS T env Γ β' s' (W' fl) (g a σ')) : GdS T env Γ β s (fun Q E s => W (fun v s' => W' v Q E s') E s) (r.bind g) := by
  cases r with
  | stuck => exact trivial
  | err c σ' => exact fun Q E hE => h _ E fun e s' β' x R y => hE e s' β' x R y
  | ok v σ' =>
    show GdS T env Γ β s _ (g v σ')
    cases hg : g v σ' with
    | stuck => exact trivial
    | ok u σ2 =>
      intro Q E hQ
      refine h _ E fun v' s' β' x R N y => ?_
      have := k v v' σ' s' β' x R N y
      rw [hg] at this
      exact this Q E fun u' s2 β2 x2 R2 N2 y2 => hQ u' s2 β2 (x.trans x2) R2 N2 y2
    | err c σ2 =>
      intro Q E hE
      refine h _ E fun v' s' β' x R N y => ?_
      have := k v v' σ' s' β' x R N y
      rw [hg] at this
      exact this Q E fun e s2 β2 x2 R2 y2 => hE e s2 β2 (x.trans x2) R2 y2

noncomputable def SndS (T : Tp) (cx : Cx) (G : List Int) (C : Nat → List V → Store → R V) (N d : Nat) (ir : S) : Prop :=
  ∀ ⦃A : Around⦄ ⦃β : List Addr⦄ ⦃σ : Store⦄ ⦃s : Shared⦄ ⦃env : Env⦄ ⦃Γ : List (Str × Nat)⦄ ⦃ρ : Loc⦄ ⦃st : Stmt⦄, chkS cx env.scope Γ ir st = true → SR T β σ s → ER T env Γ ρ β s → AOk A d →
    GdS T env Γ β s (fun Q E s => wpAny (model T.prog T.w) A (exec st env) Q E s) (exS T.ns G C N ir ρ σ)
noncomputable def SndSs (T : Tp) (cx : Cx) (G : List Int) (C : Nat → List V → Store → R V) (N d : Nat) (ir : Ss) : Prop :=
  ∀ ⦃A : Around⦄ ⦃β : List Addr⦄ ⦃σ : Store⦄ ⦃s : Shared⦄ ⦃env : Env⦄ ⦃Γ : List (Str × Nat)⦄ ⦃ρ : Loc⦄ ⦃st : List Stmt⦄, chkSs cx env.scope Γ ir st = true → SR T β σ s → ER T env Γ ρ β s → AOk A d →
    GdS T env Γ β s (fun Q E s => wpAny (model T.prog T.w) A (execs st env) Q E s) (exSs T.ns G C N ir ρ σ)

theorem swaps_no {v : PySem.Expr} (h : notComp v = true) (t : Option PySem.Expr) (l : Nat) : swapsWith v t l env = pure false := by
  cases v <;> first | rfl | cases h
theorem swaps_sub {v o i : PySem.Expr} {p : Pos} (h : notComp v = true) (l : Nat) : swapsWith v (some (.Subscript o i p)) l env = pure false := swaps_no h _ _
theorem inter (N : ER T env Γ ρ β s) : interactive env = false := by unfold interactive; rw [N.kind]; rfl

theorem store_gd (R : SR T β σ s) (N : ER T env Γ ρ β s) {x : Str} {i : Nat} {v : V} {y : Value} (hk : isStore (env.kindOf x) = true) (hi : Γ.lookup x = some i) (hv : VR T s.heap β v y) :
    GdS T env Γ β s (fun Q E s => wpAny (model T.prog T.w) A (storeName env x y) (fun _ => Q .next) E s) (.ok (.next, ρ.set i (some v)) σ) := by
  intro Q E hQ
  have hk' : env.kindOf x = some .local ∨ env.kindOf x = some .cell := by simpa [isStore] using hk
  exact store_var R N hk' hi hv fun s' xF R' N' _ _ => hQ _ s' β xF R' N' .next

theorem snd_ret {x : E} (hx : SndE T cx G C d x) : SndS T cx G C N d (.ret x) := by
  intro A β σ s env Γ ρ st h0 R N a
  obtain ⟨o, h1, h⟩ := onO_true h0
  obtain ⟨v, h2, h⟩ := onO_true h
  obtain ⟨pos, rfl⟩ := asRet_inv h1
  subst h2
  clear h0 h1
  change GdS T env Γ β s _ ((evE T.ns G C ρ x σ).bind fun v σ1 => .ok (.ret v, ρ) σ1)
  exact (GdS.bindE (W' := fun v Q _ s => Q (.ret v) s) (g := fun v σ1 => .ok (.ret v, ρ) σ1) N (hx h R N a).1 fun v v' σ1 s1 β1 x1 R1 y1 => fun Q E hQ => hQ _ _ _ (.refl _ _ _) R1 (N.ext x1) (.ret y1)).of fun Q E w => wpAny_Return_some w
theorem snd_expr {x : E} (hx : SndE T cx G C d x) : SndS T cx G C N d (.expr x) := by
  intro A β σ s env Γ ρ st h0 R N a
  obtain ⟨v, h1, h⟩ := onO_true h0
  obtain ⟨pos, rfl⟩ := asExprS_inv h1
  clear h0 h1
  rw [Bool.and_eq_true] at h
  change GdS T env Γ β s _ ((evE T.ns G C ρ x σ).bind fun _ σ1 => .ok (.next, ρ) σ1)
  exact (GdS.bindE (W' := fun _ Q _ s => Q .next s) (g := fun _ σ1 => .ok (.next, ρ) σ1) N (hx h.2 R N a).1 fun v v' σ1 s1 β1 x1 R1 y1 => fun Q E hQ => hQ _ _ _ (.refl _ _ _) R1 (N.ext x1) .next).of fun Q E w => wpAny_Expr_any w (inter N) (swaps_no h.1 _ _)
theorem snd_setItem {x i e : E} (hx : SndE T cx G C d x) (hi : SndE T cx G C d i) (he : SndE T cx G C d e) : SndS T cx G C N d (.setItem x i e) := by
  intro A β σ s env Γ ρ st h0 R N a
  obtain ⟨⟨ts, v⟩, k1, h⟩ := onO_true h0
  obtain ⟨t, k2, h⟩ := onO_true h
  obtain ⟨⟨o, j⟩, k3, h⟩ := onO_true h
  obtain ⟨pos, e1⟩ := asAssign_inv k1
  have e2 := one_inv k2
  obtain ⟨p2, e3⟩ := asSub_inv k3
  simp only at e1 e2 e3
  subst e1 e2 e3
  clear h0 k1 k2 k3
  simp only [Bool.and_eq_true] at h
  obtain ⟨⟨⟨h0, h1⟩, h2⟩, h3⟩ := h
  change GdS T env Γ β s _ ((evE T.ns G C ρ e σ).bind fun v σ1 => (evE T.ns G C ρ x σ1).bind fun xv σ2 => (evE T.ns G C ρ i σ2).bind fun iv σ3 => (setV xv iv v σ3).bind fun _ σ4 => .ok (.next, ρ) σ4)
  refine (GdS.bindE (W' := fun v Q E s₁ => wpAny (model T.prog T.w) A (eval _ env) (fun ov s₂ => wpAny (model T.prog T.w) A (eval _ env) (fun iv s₃ => wpAny (model T.prog T.w) A (setItem ov iv v) (fun _ => Q .next) E s₃) E s₂) E s₁) N (he h1 R N a).1 fun v v' σ1 s1 β1 x1 R1 y1 => ?_).of
    fun Q E w => wpAny_Assign_Subscript w (swaps_sub h0 _)
  have N1 := N.ext x1
  refine GdS.bindE (W' := fun ov Q E s₂ => wpAny (model T.prog T.w) A (eval _ env) (fun iv s₃ => wpAny (model T.prog T.w) A (setItem ov iv v') (fun _ => Q .next) E s₃) E s₂) N1 (hx h2 R1 N1 a).1 fun u u' σ2 s2 β2 x2 R2 y2 => ?_
  have N2 := N1.ext x2
  refine GdS.bindE (W' := fun iv Q E s₃ => wpAny (model T.prog T.w) A (setItem u' iv v') (fun _ => Q .next) E s₃) N2 (hi h3 R2 N2 a).1 fun j j' σ3 s3 β3 x3 R3 y3 => ?_
  have N3 := N2.ext x3
  exact GdS.bindE (W' := fun _ Q _ s => Q .next s) N3 (good_setItem R3 (y2.ext x3) y3 ((y1.ext x2).ext x3)).gd fun _ _ σ4 s4 β4 x4 R4 _ => fun Q E hQ => hQ _ _ _ (.refl _ _ _) R4 (N3.ext x4) .next
theorem base_eq {o : PySem.Expr} (h : baseOk o = true) (n : Str) : attributeBase o n env (eval o env) = eval o env := by
  cases o <;> first | rfl | cases h

theorem snd_append {x e : E} (hx : SndE T cx G C d x) (he : SndE T cx G C d e) : SndS T cx G C N d (.append x e) := by
  intro A β σ s env Γ ρ st h0 R N a
  obtain ⟨w, k1, ha⟩ := onO_true h0
  obtain ⟨⟨g, xs, ks, cp⟩, k2, hb⟩ := onO_true ha
  obtain ⟨⟨o, n, ap⟩, k3, hc⟩ := onO_true hb
  obtain ⟨v, k4, h⟩ := onO_true hc
  obtain ⟨pos, e1⟩ := asExprS_inv k1
  have e2 := asCall_inv k2
  have e3 := asAttr_inv k3
  have e4 := one_inv k4
  simp only at e2 e3 e4
  clear h0 ha hb hc k1 k2 k3 k4
  subst e1 e2 e3 e4
  simp only [Bool.and_eq_true, beq_iff_eq] at h
  obtain ⟨⟨⟨⟨⟨⟨k5, h0⟩, h1⟩, h2⟩, h3⟩, h4⟩, h5⟩ := h
  have k5 := isEmpty_inv k5
  subst k5
  subst h1
  change GdS T env Γ β s _ ((evE T.ns G C ρ x σ).bind fun xv σ1 => if isL xv σ1 = true then (evE T.ns G C ρ e σ1).bind fun v σ2 => (appV xv v σ2).bind fun _ σ3 => .ok (.next, ρ) σ3 else .stuck)
  refine (GdS.bindE (W' := fun ov Q E s₁ => s₁.TypeIs ov "list" ∧ (∀ a, ov = .ref a → ∃ ob, s₁.heap.get? a = some ob ∧ ob.dict = none) ∧ wpAny (model T.prog T.w) A (eval v env) (fun ev s₂ => wpAny (model T.prog T.w) A (call (.builtin "list.append") [ov, ev]) (fun _ => Q .next) E s₂) E s₁) N (hx h4 R N a).1 fun u u' σ1 s1 β1 x1 R1 y1 => ?_).of
    fun Q E w => wpAny_Expr_any (wpAny_Call_method (T := "list") (id := "list.append") (base_eq h0 _) (by rw [starEach_cons h3]; rfl) (by simpa using h2) PySem.F.plainAttrs_list slot_list_append type_list_append
      (wpAny_mono w (fun ov s₁ h₁ => ⟨h₁.1, h₁.2.1, callWith_method1 (spliced_more (wpAny_mono h₁.2.2 (fun ev s₂ h₂ => spliced_none h₂) fun _ _ e => e) (starEach_cons h3)) (starEach_cons h3)⟩) fun _ _ e => e)) (inter N) rfl
  have N1 := N.ext x1
  split
  · rename_i hl
    unfold isL at hl
    split at hl
    · rename_i j
      split at hl
      · rename_i vs hs
        obtain ⟨l, rfl, hl'⟩ := y1.refAt
        obtain ⟨vals, hP, _⟩ := R1.list hs hl'
        have hP' := hP
        obtain ⟨q, hq⟩ := hP'
        have key : GdS T env Γ β1 s1 (fun Q E s₁ => wpAny (model T.prog T.w) A (eval v env) (fun ev s₂ => wpAny (model T.prog T.w) A (call (.builtin "list.append") [.ref l, ev]) (fun _ => Q .next) E s₂) E s₁)
            ((evE T.ns G C ρ e σ1).bind fun v σ2 => (appV (.ref j) v σ2).bind fun _ σ3 => .ok (.next, ρ) σ3) := by
          refine GdS.bindE (W' := fun ev Q E s₂ => wpAny (model T.prog T.w) A (call (.builtin "list.append") [.ref l, ev]) (fun _ => Q .next) E s₂) N1 (he h5 R1 N1 a).1 fun w w' σ2 s2 β2 x2 R2 y2 => ?_
          have N2 := N1.ext x2
          exact GdS.bindE (W' := fun _ Q _ s => Q .next s) N2 (good_append R2 (y1.ext x2) y2).gd fun _ _ σ4 s4 β4 x4 R4 _ => fun Q E hQ => hQ _ _ _ (.refl _ _ _) R4 (N2.ext x4) .next
        exact key.of fun Q E w => ⟨hP.isList.typeIs, fun b e => by cases e; exact ⟨_, hq, rfl⟩, w⟩
      · cases hl
    · cases hl
  · exact trivial
end
end Mine

namespace Mine
open PySem PyProof.Rows PySem.Calls

section
variable {T : Tp} {cx : Cx} {G : List Int} {C : Nat → List V → Store → R V} {d N : Nat}
variable {A : Around} {β : List Addr} {σ : Store} {s s' : Shared} {env : Env} {Γ : List (Str × Nat)} {ρ : Loc}

theorem ExtF.aside {b : Addr} {β' : List Addr} {s'' : Shared} (x : ExtF env β s β' s') (hb : s.heap.get? b = none) (hs : Heap.ExtBut b s'.heap s''.heap) (hg : s''.gens = s'.gens) (ho : s''.os = s'.os) : ExtF env β s β' s'' :=
  ⟨x.pre, x.new, fun c o hc hf e => hs c o (fun q => by rw [q, hb] at e; cases e) (x.keep c o hc hf e), fun c o hf e => by
    obtain ⟨o', ho'⟩ := x.live c o hf e
    exact ⟨o', hs c o' (fun q => by rw [q, hb] at e; cases e) ho'⟩, hg.trans x.gens, ho.trans x.os⟩

theorem used_gen (hT : T.Ok) (a : AOk A d) {elt iter : PySem.Expr} {ifs : List PySem.Expr} {csc : Scope} {pos px : Pos} {y : Str} {x : Nat} (hc : compOk env.scope csc Γ x y = true) (hn : notSet iter = true)
    (R : SR T β σ s) (N : ER T env Γ ρ β s) {ir : It} (hit : SndIt T cx G C d ir) (hci : chkIt cx env.scope Γ ir iter = true) {f : V → Store → Mine.R (Option V)}
    (body : ∀ (cenv : Env) β' σ' s' v, cenv.scope = relabelS csc env.scope → SR T β' σ' s' → ER T cenv ((y, x) :: Γ) (ρ.set x (some v)) β' s' →
      Gd T β' s' (ORel T) (fun Q E s => wpAny (model T.prog T.w) A (ifsTree ifs cenv) (fun ok s₃ => if ok = true then wpAny (model T.prog T.w) A (eval elt cenv) (fun x s₄ => Q (some x) s₄) E s₃ else Q none s₃) E s) (f v σ'))
    {z : Str} {pz sp : Pos} {i : Nat} (hsw : swapsWith (.ListComp elt [⟨.Name y px, iter, ifs, 0⟩] csc pos) (some (.Name z pz)) sp.line env = pure true) (hk : isStore (env.kindOf z) = true) (hi : Γ.lookup z = some i) :
    GdS T env Γ β s (fun Q E s => wpAny (model T.prog T.w) A (exec (.Assign [.Name z pz] (.ListComp elt [⟨.Name y px, iter, ifs, 0⟩] csc pos) sp) env) Q E s)
      (((evIt T.ns G C ρ ir σ).bind fun j σ1 => (compL f (itFuel j σ1) j σ1).noErr.bind newL).bind fun v σ1 => .ok (.next, ρ.set i (some v)) σ1) := by
  have := comp_gen (cx := cx) (G := G) (C := C) (pos := pos) (px := px) (p0 := firstIterPos [⟨.Name y px, iter, ifs, 0⟩] pos) hT a hc hn R N hit hci body (some (assign (.Name z pz) env))
  revert this
  have tree : ∀ (Q : Flow → Shared → Prop) (E : Value → Shared → Prop), wpAny (model T.prog T.w) A (comprehension (.ListComp elt [⟨.Name y px, iter, ifs, 0⟩] csc pos) csc env (firstIterPos [⟨.Name y px, iter, ifs, 0⟩] pos) (newList []) false (eval iter env) (some (assign (.Name z pz) env))) (fun _ s' => Q .next s') E s →
      wpAny (model T.prog T.w) A (exec (.Assign [.Name z pz] (.ListComp elt [⟨.Name y px, iter, ifs, 0⟩] csc pos) sp) env) Q E s := fun Q E w => by
    rw [exec_Assign_Name_used _ _ _ _ hsw]
    refine wpAny_bind (wpAny_standAt (wpAny_bind ?_))
    show wpAny _ A (do let _ ← comprehension (.ListComp elt [⟨.Name y px, iter, ifs, 0⟩] csc pos) csc env _ (newList []) false (eval iter env) (some (assign (.Name z pz) env))) _ _ s
    exact wpAny_bind (wpAny_mono w (fun _ s' hq => wpAny_pure (wpAny_pure hq)) fun _ _ e => e)
  cases (evIt T.ns G C ρ ir σ).bind fun i σ1 => (compL f (itFuel i σ1) i σ1).noErr.bind newL with
  | stuck => exact fun _ => trivial
  | err c σ' => exact fun h Q E hE => tree Q E (h _ E fun e s' β' x R y => hE e s' β' (x.toF N) R y)
  | ok v σ' =>
    refine fun h Q E hQ => tree Q E (h _ E fun v' Cc s' β' m X R' V hm aC fC => ?_)
    have hk' : env.kindOf z = some .local ∨ env.kindOf z = some .cell := by simpa [isStore] using hk
    have N' := N.ext X
    have nfC : ¬ frameAt env Cc := fun hf => by obtain ⟨o, ho⟩ := N.frame_there hf; rw [fC] at ho; cases ho
    refine wpAny_assign_Name (store_var R' N' hk' hi V fun s'' xF R'' N'' mono ⟨c, hcw, hsb⟩ => ?_)
    have hcC : Cc ≠ c := fun q => nfC (by
      subst q
      rcases hcw with ⟨h, _⟩ | ⟨h, _⟩
      · exact .inl h
      · exact .inr ⟨z, h⟩)
    have hm2 := hm.sameBut hsb hcC
    refine ⟨m, hm2, fun h' hsb' => ?_⟩
    have aC2 : Aside T β' s'' Cc := aside_ns aC.nin aC.base hm2
    exact hQ .next { s'' with heap := h' } β' (((X.toF N).trans xF).aside (s'' := { s'' with heap := h' }) fC hsb'.extBut rfl rfl) (R''.aside (s' := { s'' with heap := h' }) aC2 hsb'.extBut) (N''.aside (s' := { s'' with heap := h' }) aC2 hsb'.extBut nfC) .next

theorem assign_plain {e : E} {v : PySem.Expr} {x : Str} {px pos : Pos} {i : Nat} (hx : Good T A β s (VRel T) (eval v env) (evE T.ns G C ρ e σ)) (N : ER T env Γ ρ β s) (h0 : isStore (env.kindOf x) = true) (h1 : Γ.lookup x = some i)
    (hs : swapsWith v (some (.Name x px)) pos.line env = pure false) : GdS T env Γ β s (fun Q E s => wpAny (model T.prog T.w) A (exec (.Assign [.Name x px] v pos) env) Q E s) ((evE T.ns G C ρ e σ).bind fun v σ1 => .ok (.next, ρ.set i (some v)) σ1) :=
  (GdS.bindE (W' := fun v Q E s₁ => wpAny (model T.prog T.w) A (storeName env x v) (fun _ => Q .next) E s₁) (g := fun v σ1 => .ok (.next, ρ.set i (some v)) σ1) N hx fun v v' σ1 s1 β1 x1 R1 y1 => store_gd R1 (N.ext x1) h0 h1 y1).of
    fun Q E w => wpAny_Assign_Name w hs

theorem swaps_comp {el : PySem.Expr} {gens : List Comprehension} {csc : Scope} {p px : Pos} {x : Str} (l : Nat) : ∃ b, swapsWith (.ListComp el gens csc p) (some (.Name x px)) l env = pure b := ⟨_, rfl⟩

theorem assign_comp (hT : T.Ok) {x : E} {xi : Nat} {ir : It} (hx : SndE T cx G C d x) (hit : SndIt T cx G C d ir) {v : PySem.Expr} {z : Str} {px pos : Pos} {i : Nat} (h : chkE cx env.scope Γ (.comp x xi ir) v = true) (R : SR T β σ s) (N : ER T env Γ ρ β s) (a : AOk A d)
    (h0 : isStore (env.kindOf z) = true) (h1 : Γ.lookup z = some i) :
    GdS T env Γ β s (fun Q E s => wpAny (model T.prog T.w) A (exec (.Assign [.Name z px] v pos) env) Q E s) ((evE T.ns G C ρ (.comp x xi ir) σ).bind fun v σ1 => .ok (.next, ρ.set i (some v)) σ1) := by
  have he := (snd_comp hT xi hx hit h R N a).1
  obtain ⟨el, y, py, iter, csc, p, rfl, k1, k2, k3, k4⟩ := inv_comp h
  · obtain ⟨b, hb⟩ := swaps_comp (env := env) (el := el) (gens := [⟨.Name y py, iter, [], 0⟩]) (csc := csc) (p := p) (px := px) (x := z) pos.line
    cases b with
    | false => exact assign_plain he N h0 h1 hb
    | true => exact used_gen hT a k1 k2 R N hit k3 (comp_body hx k4 a) hb h0 h1
theorem assign_compIf (hT : T.Ok) {x c : E} {xi : Nat} {ir : It} (hx : SndE T cx G C d x) (hcn : SndE T cx G C d c) (hit : SndIt T cx G C d ir) {v : PySem.Expr} {z : Str} {px pos : Pos} {i : Nat} (h : chkE cx env.scope Γ (.compIf x xi ir c) v = true) (R : SR T β σ s) (N : ER T env Γ ρ β s) (a : AOk A d)
    (h0 : isStore (env.kindOf z) = true) (h1 : Γ.lookup z = some i) :
    GdS T env Γ β s (fun Q E s => wpAny (model T.prog T.w) A (exec (.Assign [.Name z px] v pos) env) Q E s) ((evE T.ns G C ρ (.compIf x xi ir c) σ).bind fun v σ1 => .ok (.next, ρ.set i (some v)) σ1) := by
  have he := (snd_compIf hT xi hx hcn hit h R N a).1
  obtain ⟨el, y, py, iter, ce, csc, p, rfl, k1, k2, k3, k4, k5⟩ := inv_compIf h
  · obtain ⟨b, hb⟩ := swaps_comp (env := env) (el := el) (gens := [⟨.Name y py, iter, [ce], 0⟩]) (csc := csc) (p := p) (px := px) (x := z) pos.line
    cases b with
    | false => exact assign_plain he N h0 h1 hb
    | true => exact used_gen hT a k1 k2 R N hit k3 (comp_bodyIf hx hcn k4 k5 a) hb h0 h1

theorem snd_assign (hT : T.Ok) (X : TG T cx G) (hC : CS T C d) (i : Nat) (e : E) : SndS T cx G C N d (.assign i e) := by
  intro A β σ s env Γ ρ st h0 R N a
  obtain ⟨⟨ts, v⟩, k1, ha⟩ := onO_true h0
  obtain ⟨t, k2, hb⟩ := onO_true ha
  obtain ⟨x, k3, h⟩ := onO_true hb
  obtain ⟨pos, e1⟩ := asAssign_inv k1
  have e2 := one_inv k2
  obtain ⟨px, e3⟩ := asName_inv k3
  simp only at e1 e2 h
  clear h0 ha hb k1 k2 k3
  subst e1 e2 e3
  simp only [Bool.and_eq_true, beq_iff_eq, Bool.or_eq_true] at h
  obtain ⟨⟨⟨h0, h1⟩, h2⟩, h3⟩ := h
  rcases h3 with hv | hv
  · exact assign_plain (sndE hT X hC e h2 R N a).1 N h0 h1 (swaps_no hv _ _)
  · cases e with
    | comp _ _ _ => exact assign_comp hT (sndE hT X hC _) (sndIt hT X hC _) h2 R N a h0 h1
    | compIf _ _ _ _ => exact assign_compIf hT (sndE hT X hC _) (sndE hT X hC _) (sndIt hT X hC _) h2 R N a h0 h1
    | _ => cases hv
theorem snd_ite {t : E} {x y : Ss} (ht : SndE T cx G C d t) (hx : SndSs T cx G C N d x) (hy : SndSs T cx G C N d y) : SndS T cx G C N d (.ite t x y) := by
  intro A β σ s env Γ ρ st h0 R Nn a
  obtain ⟨⟨tt, aa, bb⟩, k1, h⟩ := onO_true h0
  obtain ⟨pos, e1⟩ := asIf_inv k1
  simp only at e1
  clear h0 k1
  subst e1
  simp only [Bool.and_eq_true] at h
  have e : exS T.ns G C N (.ite t x y) ρ σ = (asB (evE T.ns G C ρ t σ)).bind fun b σ1 => if b = true then exSs T.ns G C N x ρ σ1 else exSs T.ns G C N y ρ σ1 := by
    rw [asB_bind]
    change (evE T.ns G C ρ t σ).bind (fun x' σ1 => match x' with | .bool true => exSs T.ns G C N x ρ σ1 | .bool false => exSs T.ns G C N y ρ σ1 | _ => .stuck) = _
    congr 1
    funext v σ1
    cases v with
    | bool b => cases b <;> rfl
    | _ => rfl
  rw [e]
  refine (GdS.bindE (W' := fun b Q E s₂ => if b = true then wpAny (model T.prog T.w) A (execs aa env) Q E s₂ else wpAny (model T.prog T.w) A (execs bb env) Q E s₂) Nn (ht h.1.1 R Nn a).2 fun b b' σ1 s1 β1 x1 R1 y1 => ?_).of fun Q E w => wpAny_If w
  have y1' : b = b' := y1
  subst y1'
  cases b with
  | true => simp only [if_true]; exact hx h.1.2 R1 (Nn.ext x1) a
  | false => simp only [Bool.false_eq_true, if_false]; exact hy h.2 R1 (Nn.ext x1) a
theorem snd_sNil : SndSs T cx G C N d .nil := by
  intro A β σ s env Γ ρ st h R Nn a
  cases st with
  | cons => cases inv_nilSs h
  | nil => exact fun Q E hQ => wpAny_execs_nil (hQ _ _ _ (.refl _ _ _) R Nn .next)
theorem snd_sCons {x : S} {r : Ss} (hx : SndS T cx G C N d x) (hr : SndSs T cx G C N d r) : SndSs T cx G C N d (.cons x r) := by
  intro A β σ s env Γ ρ st h R Nn a
  obtain ⟨q1, q2, q0, c1, c2⟩ := inv_consSs h
  clear h
  cases st with
  | nil => cases q0
  | cons st rest =>
    injection q0 with q3 q4
    subst q3 q4
    have h := And.intro c1 c2
    change GdS T env Γ β s _ ((exS T.ns G C N x ρ σ).bind fun fr σ1 => match fr with | (.next, ρ1) => exSs T.ns G C N r ρ1 σ1 | (.ret v, ρ1) => .ok (.ret v, ρ1) σ1)
    refine (GdS.bindS (W' := fun f Q E s' => match f with | .next => wpAny (model T.prog T.w) A (execs rest env) Q E s' | f => Q f s') (hx h.1 R Nn a) fun fr fl σ1 s1 β1 x1 R1 N1 y1 => ?_).of fun Q E w => wpAny_execs_cons w
    obtain ⟨fr, ρ1⟩ := fr
    cases y1 with
    | next => exact hr h.2 R1 N1 a
    | ret hv => exact fun Q E hQ => hQ _ _ _ (.refl _ _ _) R1 N1 (.ret hv)
end
end Mine

namespace Mine
open PySem PyProof.Rows PySem.Calls

section
variable {T : Tp} {cx : Cx} {G : List Int} {C : Nat → List V → Store → R V} {d N : Nat}
variable {A : Around} {β : List Addr} {σ : Store} {s s' : Shared} {env : Env} {Γ : List (Str × Nat)} {ρ : Loc}

theorem ExtF.nin {β' : List Addr} (x : ExtF env β s β' s') {b : Addr} {o : Obj} (hb : b ∉ β) (ho : s.heap.get? b = some o) : b ∉ β' := fun hm => by
  rcases x.new b hm with h | h
  · exact hb h
  · rw [ho] at h; cases h
theorem ExtF.at {β' : List Addr} (x : ExtF env β s β' s') {i : Nat} {a : Addr} (h : β[i]? = some a) : β'[i]? = some a := by
  obtain ⟨γ, rfl⟩ := x.pre
  rw [List.getElem?_append_left (List.getElem?_eq_some_iff.mp h).1]; exact h
theorem ItR.extF {I : Addr} {it : Itr} {β' : List Addr} (h : ItR s.heap β I it) (hI : I ∉ β) (hf : ¬ frameAt env I) (x : ExtF env β s β' s') : ItR s'.heap β' I it := by
  cases h with
  | vals hi => exact .vals (x.keep _ _ hI hf hi)
  | ref hb hi => exact .ref (x.at hb) (hi.at fun o e => x.keep _ o hI hf e)
theorem Aside.extF {b : Addr} {β' : List Addr} {o : Obj} (a : Aside T β s b) (hf : ¬ frameAt env b) (ho : s.heap.get? b = some o) (x : ExtF env β s β' s') : Aside T β' s' b :=
  ⟨x.nin a.nin ho, a.base, fun vals n e => by rw [x.keep b o a.nin hf ho] at e; exact a.nt vals n (ho.trans e)⟩

/-- a loop over an iterator -/
theorem for_core (a : AOk A d) {x : Str} {i : Nat} {px : Pos} {bb : List Stmt} {body : Ss} (hk : isStore (env.kindOf x) = true) (hi : Γ.lookup x = some i) (hb : SndSs T cx G C N d body) (hcb : chkSs cx env.scope Γ body bb = true)
    (Nn : ER T env Γ ρ β s) {s₂ : Shared} {β₂ : List Addr} {σ₂ : Store} {I : Addr} {it : Itr} {n : Nat} (x₂ : Ext β s β₂ s₂) (R₂ : SR T β₂ σ₂ s₂) (hI : ItR s₂.heap β₂ I it) (aI : Aside T β₂ s₂ I) (fI : s.heap.get? I = none)
    {tot : Mine.R (F × Loc)} (htot : forL (fun ρ σ => exSs T.ns G C N body ρ σ) i n it ρ σ₂ = tot) (hns : tot ≠ .stuck) {RR : Result → Shared → Prop}
    (hok : ∀ q σF, tot = .ok q σF → ∀ fl s' β', ExtF env β s β' s' → SR T β' σF s' → ER T env Γ q.2 β' s' → FlR T s'.heap β' q.1 fl → RR (.ok fl) s')
    (herr : ∀ c σF, tot = .err c σF → ∀ e s' β', ExtF env β s β' s' → SR T β' σF s' → XR T s' c e → notedBy (model T.prog T.w) A env (fun e s' => RR (.error e) s') e s') :
    codeAny (model T.prog T.w) A (.forLoop (.Name x px) (.ref I) bb [] env) RR s₂ := by
  have nfI : ¬ frameAt env I := fun hf => by obtain ⟨o, ho⟩ := Nn.frame_there hf; rw [fI] at ho; cases ho
  refine codeAny_forLoop (fun k s' => ∃ β' σ' it' ρ', ExtF env β s β' s' ∧ SR T β' σ' s' ∧ ItR s'.heap β' I it' ∧ Aside T β' s' I ∧ ER T env Γ ρ' β' s' ∧ forL (fun ρ σ => exSs T.ns G C N body ρ σ) i k it' ρ' σ' = tot) ?_ n
    ⟨β₂, σ₂, it, ρ, x₂.toF Nn, R₂, hI, aI, Nn.ext x₂, htot⟩
  rintro k s' ⟨β', σ', it', ρ', X, R', hI', aI', N', ht⟩
  cases k with
  | zero => exact absurd ht.symm hns
  | succ k =>
    have step := it_next (A := A) a.handled R' hI' aI'
    rw [forL] at ht
    cases hnx : itNext it' σ' with
    | none => rw [hnx] at ht; exact absurd ht.symm hns
    | some w =>
      cases w with
      | none =>
        rw [hnx] at ht step
        refine step _ _ fun s₁ hs₁ hg₁ ho₁ => ?_
        refine wpAny_execs_nil (hok _ _ ht.symm .next s₁ β' (X.aside fI hs₁ hg₁ ho₁) (R'.aside aI' hs₁) (N'.aside aI' hs₁ nfI) .next)
      | some w =>
        obtain ⟨v, it2⟩ := w
        rw [hnx] at ht step
        simp only at ht step
        refine step _ _ fun yv s₁ hs₁ hg₁ ho₁ hyv hI₁ heI => ?_
        have R₁ := R'.aside aI' hs₁
        have N₁ := N'.aside aI' hs₁ nfI
        have X₁ := X.aside fI hs₁ hg₁ ho₁
        obtain ⟨oI1, hoI1, hnI1⟩ := hI₁.obj
        have aI₁ : Aside T β' s₁ I := ⟨aI'.nin, aI'.base, fun vals m e => hnI1 vals m (hoI1.symm.trans e)⟩
        have hk' : env.kindOf x = some .local ∨ env.kindOf x = some .cell := by simpa [isStore] using hk
        refine wpAny_assign_Name (store_var (i := i) R₁ N₁ hk' hi hyv fun s₂' xF R₂' N₂' mono ⟨c, hcw, hsb⟩ => ?_)
        have X₂ := X₁.trans xF
        have hI₂ := hI₁.extF aI₁.nin nfI xF
        have aI₂ := aI₁.extF nfI hoI1 xF
        obtain ⟨oI2, hoI2, _⟩ := hI₂.obj
        have hbody := hb hcb R₂' N₂' a
        cases hr : exSs T.ns G C N body (ρ'.set i (some v)) σ' with
        | stuck => rw [hr] at ht; exact absurd ht.symm hns
        | err c σ1 =>
          rw [hr] at ht hbody
          exact hbody _ _ fun e s₃ β₃ x₃ R₃ y₃ => herr c σ1 ht.symm e s₃ β₃ (X₂.trans x₃) R₃ y₃
        | ok q σ1 =>
          rw [hr] at ht hbody
          obtain ⟨fl, ρ1⟩ := q
          refine hbody _ _ fun fl' s₃ β₃ x₃ R₃ N₃ y₃ => ?_
          cases y₃ with
          | next => exact ⟨k, Nat.lt_succ_self _, β₃, σ1, it2, ρ1, X₂.trans x₃, R₃, hI₂.extF aI₂.nin nfI x₃, aI₂.extF nfI hoI2 x₃, N₃, ht⟩
          | ret hv => exact hok _ _ ht.symm _ s₃ β₃ (X₂.trans x₃) R₃ N₃ (.ret hv)

theorem snd_for {it : It} {b : Ss} (i : Nat) (hit : SndIt T cx G C d it) (hb : SndSs T cx G C N d b) : SndS T cx G C N d (.for i it b) := by
  intro A β σ s env Γ ρ st h0 R Nn a
  obtain ⟨⟨tg, iter, bb, ob⟩, k1, ha⟩ := onO_true h0
  obtain ⟨x, k2, h⟩ := onO_true ha
  obtain ⟨pos, e1⟩ := asFor_inv k1
  obtain ⟨px, e2⟩ := asName_inv k2
  simp only at e1 e2
  clear h0 ha k1 k2
  subst e1 e2
  simp only [Bool.and_eq_true, beq_iff_eq] at h
  obtain ⟨⟨⟨⟨⟨k3, h0⟩, h1⟩, h2⟩, h3⟩, h4⟩ := h
  have k3 := isEmpty_inv k3
  subst k3
  have hi := hit h3 R Nn a
  change GdS T env Γ β s _ ((evIt T.ns G C ρ it σ).bind fun j σ1 => forL (fun ρ σ => exSs T.ns G C N b ρ σ) i (itFuel j σ1) j ρ σ1)
  cases hr : evIt T.ns G C ρ it σ with
  | stuck => exact trivial
  | err c σ' =>
    rw [hr] at hi
    exact fun Q E hE => wpAny_For (hi _ E fun e s' β' x R y => hE e s' β' (x.toF Nn) R y) (fun z => fold_id h2 z)
  | ok j σ1 =>
    rw [hr] at hi
    simp only [Mine.R.bind]
    have core := fun (RR : Result → Shared → Prop) (s₂ : Shared) (β₂ : List Addr) (I : Addr) (x₂ : Ext β s β₂ s₂) (R₂ : SR T β₂ σ1 s₂) (hI : ItR s₂.heap β₂ I j) (aI : Aside T β₂ s₂ I) (fI : s.heap.get? I = none) =>
      for_core (px := px) (n := itFuel j σ1) (tot := forL (fun ρ σ => exSs T.ns G C N b ρ σ) i (itFuel j σ1) j ρ σ1) a h0 h1 hb h4 Nn x₂ R₂ hI aI fI rfl (RR := RR)
    cases htot : forL (fun ρ σ => exSs T.ns G C N b ρ σ) i (itFuel j σ1) j ρ σ1 with
    | stuck => exact trivial
    | ok q σF =>
      rw [htot] at core
      intro Q E hQ
      refine wpAny_For (hi _ E fun v' s₂ β₂ x₂ R₂ y₂ => ?_) (fun z => fold_id h2 z)
      obtain ⟨I, rfl, hI, nI, bI, fI⟩ := y₂
      obtain ⟨oI, hoI, hnt⟩ := hI.obj
      exact core _ s₂ β₂ I x₂ R₂ hI ⟨nI, bI, fun vals m e => hnt vals m (hoI.symm.trans e)⟩ fI (by intro e; cases e) (fun q' σ' e fl s' β' X R' N' y => by cases e; exact hQ fl s' β' X R' N' y) (fun c σ' e => by cases e)
    | err c σF =>
      rw [htot] at core
      intro Q E hE
      refine wpAny_For (hi _ E fun v' s₂ β₂ x₂ R₂ y₂ => ?_) (fun z => fold_id h2 z)
      obtain ⟨I, rfl, hI, nI, bI, fI⟩ := y₂
      obtain ⟨oI, hoI, hnt⟩ := hI.obj
      exact core _ s₂ β₂ I x₂ R₂ hI ⟨nI, bI, fun vals m e => hnt vals m (hoI.symm.trans e)⟩ fI (by intro e; cases e) (fun q' σ' e => by cases e) (fun c' σ' e ex s' β' X R' y => y.elim)
theorem snd_while {t : E} {b : Ss} (ht : SndE T cx G C d t) (hb : SndSs T cx G C N d b) : SndS T cx G C N d (.while t b) := by
  intro A β σ s env Γ ρ st h0 R Nn a
  obtain ⟨⟨tt, bb, ob⟩, k1, h⟩ := onO_true h0
  obtain ⟨pos, e1⟩ := asWhile_inv k1
  simp only at e1
  clear h0 k1
  subst e1
  simp only [Bool.and_eq_true] at h
  obtain ⟨⟨k3, h1⟩, h2⟩ := h
  have k3 := isEmpty_inv k3
  subst k3
  have h := And.intro h1 h2
  change GdS T env Γ β s _ (whileL (fun ρ σ => evE T.ns G C ρ t σ) (fun ρ σ => exSs T.ns G C N b ρ σ) N ρ σ)
  have core : ∀ (RR : Result → Shared → Prop) (tot : Mine.R (F × Loc)), whileL (fun ρ σ => evE T.ns G C ρ t σ) (fun ρ σ => exSs T.ns G C N b ρ σ) N ρ σ = tot → tot ≠ .stuck →
      (∀ q σF, tot = .ok q σF → ∀ fl s' β', ExtF env β s β' s' → SR T β' σF s' → ER T env Γ q.2 β' s' → FlR T s'.heap β' q.1 fl → RR (.ok fl) s') →
      (∀ c σF, tot = .err c σF → ∀ e s' β', ExtF env β s β' s' → SR T β' σF s' → XR T s' c e → notedBy (model T.prog T.w) A env (fun e s' => RR (.error e) s') e s') →
      codeAny (model T.prog T.w) A (.whileLoop tt bb [] env) RR s := by
    intro RR tot htot hns hok herr
    refine codeAny_whileLoop (fun k s' => ∃ β' σ' ρ', ExtF env β s β' s' ∧ SR T β' σ' s' ∧ ER T env Γ ρ' β' s' ∧ whileL (fun ρ σ => evE T.ns G C ρ t σ) (fun ρ σ => exSs T.ns G C N b ρ σ) k ρ' σ' = tot) ?_ N
      ⟨β, σ, ρ, .refl _ _ _, R, Nn, htot⟩
    rintro k s' ⟨β', σ', ρ', X, R', N', hw⟩
    cases k with
    | zero => exact absurd hw.symm hns
    | succ k =>
      rw [whileL] at hw
      have htest := (ht h.1 R' N' a).2
      have hw' : (asB (evE T.ns G C ρ' t σ')).bind (fun x σ1 => if x = true then (exSs T.ns G C N b ρ' σ1).bind fun fr σ2 => match fr with
          | (.next, ρ1) => whileL (fun ρ σ => evE T.ns G C ρ t σ) (fun ρ σ => exSs T.ns G C N b ρ σ) k ρ1 σ2
          | (.ret u, ρ1) => .ok (.ret u, ρ1) σ2 else .ok (.next, ρ') σ1) = tot := by
        rw [asB_bind, ← hw]
        congr 1
        funext v σ1
        cases v with
        | bool b => cases b <;> rfl
        | _ => rfl
      cases hr : asB (evE T.ns G C ρ' t σ') with
      | stuck => rw [hr] at hw'; exact absurd hw'.symm hns
      | err c σ1 =>
        rw [hr] at hw' htest
        exact htest _ _ fun e s₃ β₃ x₃ R₃ y₃ => herr c σ1 hw'.symm e s₃ β₃ (X.trans (x₃.toF N')) R₃ y₃
      | ok q σ1 =>
        rw [hr] at hw' htest
        refine htest _ _ fun q' s₁ β₁ x₁ R₁ y₁ => ?_
        have y₁' : q = q' := y₁
        subst y₁'
        have N₁ := N'.ext x₁
        have X₁ := X.trans (x₁.toF N')
        simp only [Mine.R.bind] at hw'
        cases q with
        | false =>
          simp only [Bool.false_eq_true, if_false] at hw' ⊢
          exact wpAny_execs_nil (hok _ _ hw'.symm .next s₁ β₁ X₁ R₁ N₁ .next)
        | true =>
          simp only [if_true] at hw' ⊢
          have hbody := hb h.2 R₁ N₁ a
          cases hr2 : exSs T.ns G C N b ρ' σ1 with
          | stuck => rw [hr2] at hw'; exact absurd hw'.symm hns
          | err c σ2 =>
            rw [hr2] at hw' hbody
            exact hbody _ _ fun e s₃ β₃ x₃ R₃ y₃ => herr c σ2 hw'.symm e s₃ β₃ (X₁.trans x₃) R₃ y₃
          | ok q σ2 =>
            rw [hr2] at hw' hbody
            obtain ⟨fl, ρ1⟩ := q
            refine hbody _ _ fun fl' s₃ β₃ x₃ R₃ N₃ y₃ => ?_
            cases y₃ with
            | next => exact ⟨k, Nat.lt_succ_self _, β₃, σ2, ρ1, X₁.trans x₃, R₃, N₃, hw'⟩
            | ret hv => exact hok _ _ hw'.symm _ s₃ β₃ (X₁.trans x₃) R₃ N₃ (.ret hv)
  cases htot : whileL (fun ρ σ => evE T.ns G C ρ t σ) (fun ρ σ => exSs T.ns G C N b ρ σ) N ρ σ with
  | stuck => exact trivial
  | ok q σF => exact fun Q E hQ => wpAny_While (core _ _ htot (by intro e; cases e) (fun q' σ' e fl s' β' X R' N' y => by cases e; exact hQ fl s' β' X R' N' y) (fun c σ' e => by cases e))
  | err c σF => exact fun Q E hE => wpAny_While (core _ _ htot (by intro e; cases e) (fun q' σ' e => by cases e) (fun c' σ' e ex s' β' X R' y => y.elim))
theorem snd_abort : SndS T cx G C N d .abort := fun _ _ _ _ _ _ _ _ _ _ _ _ => trivial
theorem snd_sNo {x : S} (h : ∀ sc Γ e, chkS cx sc Γ x e = false) : SndS T cx G C N d x := by
  intro A β σ s env Γ ρ e hc
  rw [h] at hc; cases hc

mutual
theorem sndS (hT : T.Ok) (X : TG T cx G) (hC : CS T C d) : ∀ st, SndS T cx G C N d st
  | .assign i e => snd_assign hT X hC i e
  | .setItem x i e => snd_setItem (sndE hT X hC x) (sndE hT X hC i) (sndE hT X hC e)
  | .append x e => snd_append (sndE hT X hC x) (sndE hT X hC e)
  | .clear _ => snd_sNo fun _ _ _ => rfl
  | .expr e => snd_expr (sndE hT X hC e)
  | .ret e => snd_ret (sndE hT X hC e)
  | .ite t a b => snd_ite (sndE hT X hC t) (sndSs hT X hC a) (sndSs hT X hC b)
  | .while t b => snd_while (sndE hT X hC t) (sndSs hT X hC b)
  | .for i it b => snd_for i (sndIt hT X hC it) (sndSs hT X hC b)
  | .abort => snd_abort
  | .raise _ => snd_sNo fun _ _ _ => rfl
  | .try _ _ => snd_sNo fun _ _ _ => rfl
theorem sndSs (hT : T.Ok) (X : TG T cx G) (hC : CS T C d) : ∀ st, SndSs T cx G C N d st
  | .nil => snd_sNil
  | .cons s r => snd_sCons (sndS hT X hC s) (sndSs hT X hC r)
end
end
end Mine

namespace Mine
open PySem PyProof.Rows PySem.Calls

theorem zip_lookup : ∀ {xs : List Str} {vs : List Value}, xs.Nodup → xs.length = vs.length → ∀ {n : Str}, n ∈ xs → ∃ v, (xs.zip vs).lookup n = some v
  | [], _, _, _, n, h => by simp at h
  | x :: xs, [], _, hl, n, h => by simp at hl
  | x :: xs, v :: vs, hn, hl, n, h => by
    rw [List.zip_cons_cons, List.lookup_cons]
    cases hb : n == x with
    | true => exact ⟨v, rfl⟩
    | false =>
      rcases List.mem_cons.mp h with e | h
      · subst e; simp at hb
      · exact zip_lookup (List.nodup_cons.mp hn).2 (by simpa using hl) h
theorem fm_congr {α β : Type} {f g : α → Option β} : ∀ {l : List α}, (∀ x ∈ l, f x = g x) → l.filterMap f = l.filterMap g
  | [], _ => rfl
  | x :: l, h => by rw [List.filterMap_cons, List.filterMap_cons, h x List.mem_cons_self, fm_congr fun y hy => h y (List.mem_cons_of_mem _ hy)]
theorem zip_filterMap : ∀ {xs : List Str} {vs : List Value}, xs.Nodup → xs.length = vs.length → xs.filterMap (fun n => ((xs.zip vs).lookup n).map (n, ·)) = xs.zip vs
  | [], [], _, _ => rfl
  | x :: xs, v :: vs, hn, hl => by
    have hn' := List.nodup_cons.mp hn
    rw [List.filterMap_cons]
    simp only [List.zip_cons_cons, List.lookup_cons, beq_self_eq_true, Option.map_some]
    congr 1
    conv => rhs; rw [← zip_filterMap hn'.2 (by simpa using hl)]
    exact fm_congr fun n h => by
      have : (n == x) = false := by
        cases hb : n == x with
        | false => rfl
        | true => have : n = x := by simpa using hb
                  subst this; exact absurd h hn'.1
      rw [this]

theorem bind_plain {fd : FuncData} {as : List Arg} {vals : List Value} (hp1 : fd.params.posonlyargs = []) (hp2 : fd.params.args = as) (hp3 : fd.params.vararg = none) (hp4 : fd.params.kwonlyargs = []) (hp5 : fd.params.kwarg = none) (hd : fd.defaults = .none)
    (hn : (as.map (·.arg)).Nodup) (hl : vals.length = as.length) : bindArgs fd ⟨vals, []⟩ = pure ((as.map (·.arg)).zip vals) := by
  have hl' : (as.map (·.arg)).length = vals.length := by simp [hl]
  have e1 : (List.filter (fun n => (List.lookup n ((as.map (·.arg)).zip vals)).isNone) (as.map (·.arg))) = [] := by
    rw [List.filter_eq_nil_iff]
    intro n h
    obtain ⟨v, hv⟩ := zip_lookup hn hl' h
    rw [hv]; simp
  have e2 := zip_filterMap hn hl'
  obtain ⟨nm, qn, params, bd, sc, gl, cl, dfs, kwd, doc, pm, an, cd, ct⟩ := fd
  obtain ⟨po, as', va, ko, kd, kw, df⟩ := params
  have hg : ¬ (vals.length > (as.map (·.arg)).length) := by rw [hl']; exact Nat.lt_irrefl _
  have h2 : as' = as := hp2
  clear hp2
  cases hp1; cases hp3; cases hp4; cases hp5; cases hd
  subst h2
  unfold bindArgs
  dsimp only
  have hs : seqItems? Value.none = pure none := rfl
  simp only [List.map_nil, List.nil_append, List.append_nil, List.forIn_nil, pure_bind, hs, Option.getD_none, Array.toList_empty, List.length_nil, Nat.zero_sub, List.drop_nil, Nat.sub_zero, List.take_length, e1, List.drop_length, List.isEmpty_nil, Bool.not_true, Bool.false_eq_true, if_false,
    gt_iff_lt, hg, decide_false, Bool.false_and, e2, List.zip_nil_right]

section
variable {T : Tp} {cx : Cx} {G : List Int} {d N : Nat} {P : List Fn}
variable {A : Around} {β : List Addr} {σ : Store} {s s' : Shared}

noncomputable def slotsOf (names : List Str) : List (Str × Nat) := names.zipIdx

noncomputable def chkFn (cx : Cx) (names : List Str) (f : Fn) (d : DefRec) : Bool :=
  d.params.posonlyargs.isEmpty && d.params.vararg.isNone && d.params.kwonlyargs.isEmpty && d.params.kwarg.isNone &&
    d.params.args.map (·.arg) == names.take f.nparams && decide (f.nparams ≤ names.length) && nodupB names &&
    d.scope.kind == .function && !d.scope.isCoroutine && !d.scope.isGenerator && (names.take f.nparams).all (fun x => isStore (d.scope.names.lookup x)) &&
    d.scope.names.all (fun p => !(p.2 == .free)) && chkSs cx d.scope (slotsOf names) f.body d.body

noncomputable def FnsOk (T : Tp) (cx : Cx) (P : List Fn) : Prop := ∀ (k : Nat) f a, P[k]? = some f → T.fa[k]? = some a →
  ∃ o d names pm code doc, T.h₀.get? a = some o ∧ o.data = .func (docDef d.name d.params d.body d.scope pm code doc) ∧ T.h₀.CodeRec code d.name ∧ chkFn cx names f d = true

theorem slots_at : ∀ {names : List Str} {n i : Nat} {x : Str}, (names.zipIdx n).lookup x = some i → n ≤ i ∧ names[i - n]? = some x
  | [], n, i, x, h => by simp at h
  | y :: r, n, i, x, h => by
    rw [List.zipIdx_cons, List.lookup_cons] at h
    cases hb : x == y with
    | true =>
      rw [hb] at h; cases h
      exact ⟨Nat.le_refl _, by simp; exact (by simpa using hb : x = y).symm⟩
    | false =>
      rw [hb] at h
      obtain ⟨h1, h2⟩ := slots_at (names := r) (n := n + 1) h
      refine ⟨by omega, ?_⟩
      have : i - n = (i - (n + 1)) + 1 := by omega
      rw [this, List.getElem?_cons_succ]; exact h2

theorem bindL_none {kindOf : Str → Option NameKind} {x : Str} : ∀ (binds : List (Str × Value)) (m : Str → Option Value), x ∉ binds.map (·.1) → bindL kindOf binds m x = m x
  | [], m, _ => rfl
  | (n, v) :: r, m, h => by
    simp only [List.map_cons, List.mem_cons, not_or] at h
    unfold bindL
    rw [bindL_none r _ h.2]
    split
    · simp [h.1]
    · rfl
theorem bindC_none {kindOf : Str → Option NameKind} {x : Str} : ∀ (binds : List (Str × Value)) (m : Str → Option Value), x ∉ binds.map (·.1) → bindC kindOf binds m x = m x
  | [], m, _ => rfl
  | (n, v) :: r, m, h => by
    simp only [List.map_cons, List.mem_cons, not_or] at h
    unfold bindC
    rw [bindC_none r _ h.2]
    split
    · rfl
    · simp [h.1]
theorem bindL_at {kindOf : Str → Option NameKind} {x : Str} {v : Value} (hk : kindOf x = some .local) : ∀ (binds : List (Str × Value)) (m : Str → Option Value), (binds.map (·.1)).Nodup → (x, v) ∈ binds → bindL kindOf binds m x = some v
  | [], m, _, h => by simp at h
  | (n, u) :: r, m, hn, h => by
    simp only [List.map_cons, List.nodup_cons] at hn
    unfold bindL
    rcases List.mem_cons.mp h with e | h
    · cases e
      rw [bindL_none r _ hn.1, if_pos hk]; simp
    · exact bindL_at hk r _ hn.2 h
theorem bindC_at {kindOf : Str → Option NameKind} {x : Str} {v : Value} (hk : kindOf x = some .cell) : ∀ (binds : List (Str × Value)) (m : Str → Option Value), (binds.map (·.1)).Nodup → (x, v) ∈ binds → bindC kindOf binds m x = some v
  | [], m, _, h => by simp at h
  | (n, u) :: r, m, hn, h => by
    simp only [List.map_cons, List.nodup_cons] at hn
    unfold bindC
    rcases List.mem_cons.mp h with e | h
    · cases e
      rw [bindC_none r _ hn.1, if_neg (by rw [hk]; intro q; cases q)]; simp
    · exact bindC_at hk r _ hn.2 h

theorem loc_at {args : List V} {n i : Nat} {v : V} (h : (args.map some ++ List.replicate n (none : Option V))[i]? = some (some v)) : args[i]? = some v := by
  by_cases hi : i < args.length
  · rw [List.getElem?_append_left (by simpa using hi), List.getElem?_map] at h
    cases hq : args[i]? with
    | none => rw [hq] at h; cases h
    | some u => rw [hq] at h; cases h; rfl
  · rw [List.getElem?_append_right (by simpa using hi), List.getElem?_replicate] at h
    split at h <;> cases h

theorem zip_mem {xs : List Str} {vs : List Value} {i : Nat} {x : Str} {v : Value} (h1 : xs[i]? = some x) (h2 : vs[i]? = some v) : (x, v) ∈ xs.zip vs := by
  have : (xs.zip vs)[i]? = some (x, v) := by rw [List.getElem?_zip_eq_some]; exact ⟨h1, h2⟩
  exact List.mem_of_getElem? this

theorem call_ER {fd : FuncData} {a : Addr} {s₁ : Shared} {names : List Str} {args : List V} {vals : List Value} {n : Nat} (R : SR T β σ s) (hv : VRs T s.heap β args vals)
    (hk : fd.scope.kind = .function) (hg : fd.globals = mainGlobals) (hb : fd.builtins = builtinsNs) (hnd : names.Nodup) (hfr : ∀ p ∈ fd.scope.names, p.2 ≠ .free) (hn : args.length ≤ names.length)
    (I : InCallC s (callEnvC fd s.heap.objs.size a).locals (bindL (callEnvC fd s.heap.objs.size a).kindOf ((names.take args.length).zip vals) fun _ => none) (callEnvC fd s.heap.objs.size a).cells
        (bindC (callEnvC fd s.heap.objs.size a).kindOf ((names.take args.length).zip vals) fun _ => none) s₁) :
    ER T (callEnvC fd s.heap.objs.size a) (slotsOf names) (args.map some ++ List.replicate n none) β s₁ := by
  have hkeep := I.toInCall.keep
  have x0 : Ext β s β s₁ := by
    obtain ⟨h₁, tk, rfl⟩ := I.toInCall.same
    exact .keeps hkeep rfl rfl
  have hlen := hv.length
  have hmap : (((names.take args.length).zip vals).map (·.1)) = names.take args.length := by
    rw [List.map_fst_zip]
    simp [← hlen]; omega
  have hndB : (((names.take args.length).zip vals).map (·.1)).Nodup := by rw [hmap]; exact hnd.sublist (List.take_sublist _ _)
  have hin : ∀ {x : Str} {i : Nat} {v : V}, (slotsOf names).lookup x = some i → args[i]? = some v → ∃ y, (x, y) ∈ (names.take args.length).zip vals ∧ VR T s₁.heap β v y := fun {x i v} h1 h2 => by
    obtain ⟨_, h3⟩ := slots_at (n := 0) h1
    obtain ⟨y, hy, hr⟩ := hv.get h2
    have hi := (List.getElem?_eq_some_iff.mp h2).1
    exact ⟨y, zip_mem (i := i) (by rw [List.getElem?_take_of_lt hi]; exact h3) hy, hr.ext x0⟩
  have kf : ∀ z, (callEnvC fd s.heap.objs.size a).kindOf z ≠ some .free := fun z e => hfr _ (mem_of_lookup e) rfl
  have fr : ∀ c, s.heap.objs.size ≤ c → c ∉ β ∧ T.h₀.get? c = none := fun c hc => by
    constructor
    · intro hm
      obtain ⟨i, hi, he⟩ := List.getElem_of_mem hm
      have hb : β[i]? = some c := by rw [List.getElem?_eq_getElem hi, he]
      have hs : i < σ.length := by rw [← R.len]; exact hi
      have hcr := R.cell i _ _ (List.getElem?_eq_getElem hs) hb
      have : ∃ o, s.heap.get? c = some o := by
        cases hcs : σ[i] with
        | list vs => rw [hcs] at hcr; obtain ⟨vals, ⟨o, ho⟩, _⟩ := hcr; exact ⟨_, ho⟩
        | dictI vs => rw [hcs] at hcr; obtain ⟨kv, hd, _⟩ := hcr; obtain ⟨o, ho, _⟩ := Heap.dictOf_iff.mp hd; exact ⟨_, ho⟩
        | dictS vs => rw [hcs] at hcr; obtain ⟨kv, hd, _⟩ := hcr; obtain ⟨o, ho, _⟩ := Heap.dictOf_iff.mp hd; exact ⟨_, ho⟩
      obtain ⟨o, ho⟩ := this
      exact absurd (Heap.lt_size ho) (Nat.not_lt.mpr hc)
    · cases hq : T.h₀.get? c with
      | none => rfl
      | some o => exact absurd (Heap.lt_size (R.base _ _ hq)) (Nat.not_lt.mpr hc)
  refine ⟨hk, hg, hb, ⟨_, I.toInCall.ns, fun x i v h1 h2 h3 => ?_⟩, fun x c hc => ⟨_, I.cell x c hc, fun i v h1 h2 h3 => ?_⟩, fun z hz => ?_, fun x y c h1 h2 => name_of_addr I.apart (mem_of_lookup h1) (mem_of_lookup h2), fun b hb' => ?_, fun x c hc => Nat.ne_of_gt (I.above x c (mem_of_lookup hc)), fun x y i h1 h2 => ?_⟩
  · obtain ⟨y, hm, hr⟩ := hin h2 (loc_at h3)
    exact ⟨y, bindL_at h1 _ _ hndB hm, hr⟩
  · rcases h1 with h1 | h1
    · obtain ⟨y, hm, hr⟩ := hin h2 (loc_at h3)
      exact ⟨y, bindC_at h1 _ _ hndB hm, hr⟩
    · exact absurd h1 (kf x)
  · rcases hz with h | h
    · obtain ⟨c, hc⟩ := cells_has fd.scope.names (n := s.heap.objs.size + 1) (mem_of_lookup h)
      exact lookup_mem_some hc
    · exact absurd h (kf z)
  · rcases hb' with rfl | ⟨z, hz⟩
    · exact fr _ (Nat.le_refl _)
    · exact fr b (Nat.le_of_lt (I.above z b (mem_of_lookup hz)))
  · obtain ⟨_, h3⟩ := slots_at (n := 0) h1
    obtain ⟨_, h4⟩ := slots_at (n := 0) h2
    rw [h3] at h4; cases h4; rfl

theorem ExtF.call {env : Env} {s₁ : Shared} {β' : List Addr} (hk : ∀ b o, s.heap.get? b = some o → s₁.heap.get? b = some o) (hf : ∀ b, frameAt env b → s.heap.objs.size ≤ b) (hg : s₁.gens = s.gens) (ho : s₁.os = s.os) (x : ExtF env β s₁ β' s') : Ext β s β' s' :=
  ⟨x.pre, fun a ha => (x.new a ha).imp id fun e => (by
    cases hq : s.heap.get? a with
    | none => rfl
    | some o => rw [hk a o hq] at e; cases e), fun b o hb e => x.keep b o hb (fun q => absurd (Heap.lt_size e) (Nat.not_lt.mpr (hf b q))) (hk b o e), x.gens.trans hg, x.os.trans ho⟩

theorem call_sound (hT : T.Ok) (X : TG T cx G) (hF : FnsOk T cx P) : ∀ d, CS T (callF T.ns G P N d) d
  | 0 => fun _ _ _ _ _ _ _ _ _ _ _ _ => trivial
  | d + 1 => by
    have ih := call_sound hT X hF d
    intro A β σ s k a args vals hA R ha hv
    unfold callF
    cases hp : P[k]? with
    | none => exact trivial
    | some f =>
      simp only
      split
      · rename_i hlen
        obtain ⟨o, dr, names, pm, code, doc, ho, hod, hcd, hchk⟩ := hF k f a hp ha
        simp only [chkFn, Bool.and_eq_true, beq_iff_eq, Bool.not_eq_true', List.isEmpty_iff, Option.isNone_iff_eq_none, decide_eq_true_eq, List.all_eq_true] at hchk
        obtain ⟨⟨⟨⟨⟨⟨⟨⟨⟨⟨⟨⟨c1, c2⟩, c3⟩, c4⟩, c5⟩, c6⟩, c7⟩, c8⟩, c9⟩, c10⟩, c11⟩, c12⟩, c13⟩ := hchk
        have hnd := nodupB_nodup c7
        have hvl := hv.length
        have hpl : vals.length = dr.params.args.length := by
          have := congrArg List.length c5
          simp at this
          omega
        have hbind : bindArgs (docDef dr.name dr.params dr.body dr.scope pm code doc) ⟨vals, []⟩ = pure ((names.take args.length).zip vals) := by
          rw [hlen, ← c5]
          exact bind_plain c1 rfl c2 c3 c4 rfl (by rw [c5]; exact hnd.sublist (List.take_sublist _ _)) hpl
        have hsz : (names.take args.length).length = vals.length := by simp; omega
        have hroom : A.depth < recursionLimit := by have := hA.depth; have : recursionLimit = 1000 := rfl; omega
        have hkind : ∀ x ∈ (names.take args.length).zip vals, dr.scope.names.lookup x.1 = some .local ∨ (dr.scope.names.lookup x.1 = some .cell ∧ ((cellsFrom (s.heap.objs.size + 1) dr.scope.names []).lookup x.1).isSome = true) := fun x hx => by
          have hm : x.1 ∈ names.take f.nparams := by rw [← hlen]; exact (List.of_mem_zip (a := x.1) (b := x.2) hx).1
          have := c11 x.1 hm
          simp only [isStore, Bool.or_eq_true, beq_iff_eq] at this
          rcases this with e | e
          · exact .inl e
          · obtain ⟨c, hc⟩ := cells_has dr.scope.names (n := s.heap.objs.size + 1) (mem_of_lookup e)
            obtain ⟨c', hc'⟩ := lookup_mem_some hc
            exact .inr ⟨e, by rw [hc']; rfl⟩
        have core : ∀ (RR : Result → Shared → Prop), (∀ s₁, ER T (callEnvC (docDef dr.name dr.params dr.body dr.scope pm code doc) s.heap.objs.size a) (slotsOf names) (args.map some ++ List.replicate (f.nslots - f.nparams) none) β s₁ → SR T β σ s₁ →
            (∀ β' s', ExtF (callEnvC (docDef dr.name dr.params dr.body dr.scope pm code doc) s.heap.objs.size a) β s₁ β' s' → Ext β s β' s') →
            wpAny (model T.prog T.w) (A.deeper (callEnvC (docDef dr.name dr.params dr.body dr.scope pm code doc) s.heap.objs.size a)) (execs dr.body (callEnvC (docDef dr.name dr.params dr.body dr.scope pm code doc) s.heap.objs.size a)) (fun f s' => RR (.ok (.ret (match f with | .ret v => v | _ => .none))) s')
              (fun e s' => wpAny (model T.prog T.w) (A.deeper (callEnvC (docDef dr.name dr.params dr.body dr.scope pm code doc) s.heap.objs.size a)) (leaving (callEnvC (docDef dr.name dr.params dr.body dr.scope pm code doc) s.heap.objs.size a) e) (fun _ s'' => RR (.error e) s'') (fun e' s'' => RR (.error e') s'') s') s₁) →
            codeAny (model T.prog T.w) A (.call (.ref a) ⟨vals, []⟩) RR s := fun RR h => by
          refine codeAny_call_cells (fd := docDef dr.name dr.params dr.body dr.scope pm code doc) (body := dr.body) (binds := (names.take args.length).zip vals) hroom (R.base _ _ ho) hod (X.nolimit.keeps R.base) (hcd.keeps R.base) rfl hbind rfl hkind (fun s₁ I => ?_) c9 c10 c8
          have hk := I.toInCall.keep
          have R₁ : SR T β σ s₁ := R.keeps hk
          have N₁ := call_ER (n := f.nslots - f.nparams) R hv c8 rfl rfl hnd (fun p hp => by have := c12 p hp; simpa using this) (by omega) I
          refine h s₁ N₁ R₁ fun β' s' x => ?_
          have : s₁.gens = s.gens ∧ s₁.os = s.os := by obtain ⟨h₁, tk, rfl⟩ := I.toInCall.same; exact ⟨rfl, rfl⟩
          exact x.call hk (fun b hb => by
            rcases hb with rfl | ⟨z, hz⟩
            · exact Nat.le_refl _
            · exact Nat.le_of_lt (I.above z b (mem_of_lookup hz))) this.1 this.2
        have body := fun (s₁ : Shared) (N₁ : ER T (callEnvC (docDef dr.name dr.params dr.body dr.scope pm code doc) s.heap.objs.size a) (slotsOf names) (args.map some ++ List.replicate (f.nslots - f.nparams) none) β s₁) (R₁ : SR T β σ s₁) =>
          sndSs (N := N) hT X ih f.body c13 R₁ N₁ (hA.deeper (callEnvC (docDef dr.name dr.params dr.body dr.scope pm code doc) s.heap.objs.size a))
        cases hr : exSs T.ns G (callF T.ns G P N d) N f.body (args.map some ++ List.replicate (f.nslots - f.nparams) none) σ with
        | stuck => exact trivial
        | err c σ' =>
          intro Q E hE
          refine wpAny_call (core _ fun s₁ N₁ R₁ hx => ?_)
          have := body s₁ N₁ R₁
          rw [hr] at this
          exact this _ _ fun e s' β' x R' y => y.elim
        | ok q σ' =>
          obtain ⟨fl, ρ'⟩ := q
          have key : ∀ (v : V) (Q : Value → Shared → Prop) (E : Value → Shared → Prop), (match fl with | .next => V.none | .ret u => u) = v → (∀ v' s' β', Ext β s β' s' → SR T β' σ' s' → VR T s'.heap β' v v' → Q v' s') → wpAny (model T.prog T.w) A (call (.ref a) vals) Q E s := by
            intro v Q E hvv hQ
            refine wpAny_call (core _ fun s₁ N₁ R₁ hx => ?_)
            have := body s₁ N₁ R₁
            rw [hr] at this
            refine this _ _ fun fl' s' β' x R' N' y => ?_
            cases y with
            | next => subst hvv; exact hQ _ _ _ (hx _ _ x) R' .none
            | ret hu => subst hvv; exact hQ _ _ _ (hx _ _ x) R' hu
          cases fl with
          | next => exact fun Q E hQ => key _ Q E rfl hQ
          | ret u => exact fun Q E hQ => key _ Q E rfl hQ
      · exact trivial
end
end Mine

namespace Mine
open PySem PyProof.Rows PySem.Calls PySem.W

/-- the text's tables against the view -/
noncomputable def chkTop (q : Program) (loose : List Str) (cx : Cx) (P : List Fn) (names : List (List Str)) (G : List Int) : Bool :=
  cx.fns.length == P.length && names.length == P.length && cx.glb.length == G.length &&
    (List.range P.length).all (fun k => match cx.fns[k]?, P[k]?, names[k]? with
      | some nm, some f, some ns => (match (recsOf q).find? (fun d => d.name == nm) with
        | some d => chkFn cx ns f d
        | none => false)
      | _, _, _ => false) &&
    (List.range G.length).all (fun g => match cx.glb[g]?, G[g]? with
      | some nm, some i => (match valOf q nm with
        | some (.int j) => i == j
        | _ => false)
      | _, _ => false) &&
    builtinVals.all (fun p => !(startupNames.contains p.1) && !(loose.contains p.1) && !((recsOf q).map (·.name)).contains p.1 && !((litsOf q).map (·.1)).contains p.1 && !((clssOf q loose).map (·.name)).contains p.1)

theorem boot_vals : ∀ p ∈ builtinVals, p.1 ≠ ("__name__" : Str) ∧ bootBuiltins p.1 = some p.2 := by
  have : (builtinVals.all fun p => !(p.1 == ("__name__" : Str)) && (bootBuiltins p.1 == some p.2)) = true := by decide +kernel
  intro p hp
  have := List.all_eq_true.mp this p hp
  simp only [Bool.and_eq_true, Bool.not_eq_true', beq_eq_false_iff_ne, ne_eq, beq_iff_eq] at this
  exact this

theorem ints_at : ∀ {vs : List Value} {ns : List Int}, IntsAre vs ns → vs.length = ns.length ∧ ∀ (k : Nat) n, ns[k]? = some n → ∃ t, vs[k]? = some (.int n t)
  | _, _, .nil => ⟨rfl, fun k n h => by simp at h⟩
  | _, _, .cons n t r => by
    have ih := ints_at r
    refine ⟨by simp [ih.1], fun k m h => ?_⟩
    cases k with
    | zero => simp at h; subst h; exact ⟨t, rfl⟩
    | succ k => simpa using ih.2 k m (by simpa using h)

theorem not_mem_of {x : Str} {l : List Str} (h : l.contains x = false) : x ∉ l := fun hm => by
  have : l.contains x = true := by simpa using hm
  rw [h] at this; cases this

theorem law_core {prog q : Program} {loose : List Str} {mean : ExcName → Option Value} {mg mb : Str → Option Value} {s₁ : Shared} {w : World} {fa sa : Addr} {vals : List Value} {ns : List Int} {cl : Str → Option Addr} {args : List WData} {c : ClaimW} {mean' : ExcName → Option Value}
    {nm : Str} (TT : Top q loose mean mg mb s₁.heap) (hmg : mg nm = some (.ref fa)) (hg : s₁.gens = #[]) (hL : s₁.heap.IsList sa vals.toArray) (hI : IntsAre vals ns) (hn : ns.length ≤ 63)
    (hr : ∀ cls, c.raises args cls = false) (hp : c.post args (.bool true) args = true)
    (cx : Cx) (P : List Fn) (names : List (List Str)) (G : List Int) (N D k : Nat) (hchk : chkTop q loose cx P names G = true) (hk : cx.fns[k]? = some nm) (hD : D ≤ 500)
    (hlaw : ∃ σ', callF ns G P N D k [.scr] [] = .ok (.bool true) σ') :
    wpAny (model prog w) callerA (call (.ref fa) [.ref sa]) (fun v s' => GoodWG c cl mean' args s₁ (.ok (.ret v)) s') (fun e s' => GoodWG c cl mean' args s₁ (.error e) s') s₁ := by
  simp only [chkTop, Bool.and_eq_true, beq_iff_eq, List.all_eq_true, Bool.not_eq_true'] at hchk
  obtain ⟨⟨⟨⟨⟨k1, k2⟩, k3⟩, k4⟩, k5⟩, k6⟩ := hchk
  let T : Tp := { prog := prog, w := w, h₀ := s₁.heap, sa := sa, ns := ns, fa := cx.fns.map fun x => match mg x with | some (.ref a) => a | _ => 0 }
  have hin := ints_at hI
  have hT : T.Ok := by
    refine ⟨?_, ⟨vals, hL, hin.1, hin.2⟩, by show ns.length ≤ sizeMax; unfold sizeMax; omega⟩
    obtain ⟨mc, ⟨o, _, _, ho, _⟩, _⟩ := TT.nodigits
    exact ⟨o, ho⟩
  have fnAt : ∀ (j : Nat) x, cx.fns[j]? = some x → ∃ f nms d a o pm code doc, P[j]? = some f ∧ names[j]? = some nms ∧ chkFn cx nms f d = true ∧ mg x = some (.ref a) ∧ T.fa[j]? = some a ∧ s₁.heap.get? a = some o ∧ o.data = .func (docDef d.name d.params d.body d.scope pm code doc) ∧ s₁.heap.CodeRec code d.name := fun j x hj => by
    have hlt : j < P.length := by rw [← k1]; exact (List.getElem?_eq_some_iff.mp hj).1
    have := k4 j (List.mem_range.mpr hlt)
    rw [hj, List.getElem?_eq_getElem hlt, List.getElem?_eq_getElem (by omega : j < names.length)] at this
    simp only at this
    split at this
    · rename_i d hd
      have hdn : d.name = x := by have := List.find?_some hd; simpa using this
      obtain ⟨a, o, pm, code, doc, h1, h2, h3, h4⟩ := TT.fn d (List.mem_of_find?_eq_some hd)
      rw [hdn] at h1
      refine ⟨_, _, d, a, o, pm, code, doc, List.getElem?_eq_getElem hlt, List.getElem?_eq_getElem (by omega), this, h1, ?_, h2, h3, h4⟩
      show (cx.fns.map _)[j]? = some a
      rw [List.getElem?_map, hj, Option.map_some, h1]
    · cases this
  have X : TG T cx G := by
    refine ⟨mg, mb, TT.g, TT.b, TT.nolimit, fun p hp => ?_, fun j x hj => ?_, fun g x i hx hi => ?_⟩
    · obtain ⟨b1, b2⟩ := boot_vals p hp
      have := k6 p hp
      refine ⟨TT.free p.1 (not_mem_of this.1.1.1.1) (not_mem_of this.1.1.1.2) (not_mem_of this.1.1.2) (not_mem_of this.1.2) (not_mem_of this.2), ?_⟩
      rw [TT.builtins p.1 b1, b2]
    · obtain ⟨f, nms, d, a, o, pm, code, doc, _, _, _, h1, h2, h3, h4, _⟩ := fnAt j x hj
      exact ⟨a, h2, h1, o, _, h3, h4⟩
    · have hlt : g < G.length := (List.getElem?_eq_some_iff.mp hi).1
      have := k5 g (List.mem_range.mpr hlt)
      rw [hx, hi] at this
      simp only at this
      split at this
      · rename_i j hj
        have e : i = j := by simpa using this
        subst e
        obtain ⟨v, hv, hr⟩ := TT.const x _ hj
        have := hr s₁.heap
        cases this
        exact ⟨_, hv⟩
      · cases this
  have hF : FnsOk T cx P := fun j f a hj ha => by
    have hlt : j < cx.fns.length := by rw [k1]; exact (List.getElem?_eq_some_iff.mp hj).1
    obtain ⟨f', nms, d, a', o, pm, code, doc, h0, _, h1, _, h2, h3, h4, h5⟩ := fnAt j _ (List.getElem?_eq_getElem hlt)
    rw [hj] at h0; cases h0
    rw [ha] at h2; cases h2
    exact ⟨o, d, nms, pm, code, doc, h3, h4, h5, h1⟩
  have R : SR T [] [] s₁ := ⟨rfl, .nil, fun a h => by simp at h, fun i c a h => by simp at h, fun b o e => e⟩
  have hfa : T.fa[k]? = some fa := by
    obtain ⟨f, nms, d, a, o, pm, code, doc, _, _, _, h1, h2, _⟩ := fnAt k nm hk
    rw [hmg] at h1; cases h1; exact h2
  have hA : AOk callerA D := ⟨rfl, by show 1 + claimMargin + D < 900; have : claimMargin = 300 := rfl; omega, by show 4 + 4 * D < 9000; omega⟩
  have hC := call_sound (N := N) (G := G) hT X hF D
  have key := hC hA R hfa (args := [.scr]) (vals := [.ref sa]) (.cons .scr .nil)
  obtain ⟨σ', hl⟩ := hlaw
  have hl' : callF T.ns G P N D k [.scr] [] = .ok (.bool true) σ' := hl
  rw [hl'] at key
  refine key _ _ fun v' s' β' x R' y => ?_
  cases y
  exact GoodW.toG ⟨.inl ⟨_, .bool true, [], rfl, hr, .bool true, hp, fun _ => ⟨.nil, fun a h => by simp at h⟩⟩, fun b o e => x.keep b o (by simp) e, x.os, x.gens.trans hg⟩
theorem law_post (l : OpenLaw) (args : List WData) : l.row.toRowW.claim.post args (.bool true) args = true := by
  refine postW_of (X := true) (by simp [OpenLaw.row, WShape.has, WShape.arms]) ?_ rfl
  simp only [OpenLaw.row]
  simp [WTm.value]
  first | rfl | decide | (simp [same]) | (unfold same; simp)

theorem law_raises (l : OpenLaw) (args : List WData) (cls : ExcName) : l.row.toRowW.claim.raises args cls = false := rfl
end Mine

namespace Mine
open PySem

/-- it ends well, and then -/
noncomputable def Ok {α : Type} (r : R α) (Q : α → Store → Prop) : Prop :=
  match r with
  | .ok a σ => Q a σ
  | _ => False

theorem Ok_ok {α : Type} {a : α} {σ : Store} {Q : α → Store → Prop} : Ok (.ok a σ) Q ↔ Q a σ := Iff.rfl
theorem Ok_bind {α β : Type} {r : R α} {f : α → Store → R β} {Q : β → Store → Prop} : Ok (r.bind f) Q ↔ Ok r (fun a σ => Ok (f a σ) Q) := by
  cases r <;> exact Iff.rfl
theorem Ok_noErr {α : Type} {r : R α} {Q : α → Store → Prop} : Ok r.noErr Q ↔ Ok r Q := by
  cases r <;> exact Iff.rfl
theorem Ok.mono {α : Type} {r : R α} {Q Q' : α → Store → Prop} (h : Ok r Q) (k : ∀ a σ, Q a σ → Q' a σ) : Ok r Q' := by
  cases r with
  | ok a σ => exact k a σ h
  | _ => exact h
theorem Ok.ex {α : Type} {r : R α} {Q : α → Store → Prop} (h : Ok r Q) : ∃ a σ, r = .ok a σ ∧ Q a σ := by
  cases r with
  | ok a σ => exact ⟨a, σ, rfl, h⟩
  | _ => exact h.elim
theorem Ok.of {α : Type} {r : R α} {a : α} {σ : Store} {Q : α → Store → Prop} (e : r = .ok a σ) (h : Q a σ) : Ok r Q := by rw [e]; exact h

section
variable {ns : List Int} {G : List Int} {C : Nat → List V → Store → R V} {N : Nat} {ρ : Loc} {σ : Store}

theorem Ok_ite {t : E} {a b : Ss} {Q : F × Loc → Store → Prop} :
    Ok (exS ns G C N (.ite t a b) ρ σ) Q ↔ Ok (evE ns G C ρ t σ) (fun v σ1 => (v = .bool true ∧ Ok (exSs ns G C N a ρ σ1) Q) ∨ (v = .bool false ∧ Ok (exSs ns G C N b ρ σ1) Q)) := by
  change Ok ((evE ns G C ρ t σ).bind fun x σ1 => match x with | .bool true => exSs ns G C N a ρ σ1 | .bool false => exSs ns G C N b ρ σ1 | _ => .stuck) Q ↔ _
  rw [Ok_bind]
  constructor
  · intro h
    refine h.mono fun v σ1 h1 => ?_
    cases v with
    | bool c => cases c with
      | true => exact .inl ⟨rfl, h1⟩
      | false => exact .inr ⟨rfl, h1⟩
    | _ => exact h1.elim
  · intro h
    refine h.mono fun v σ1 h1 => ?_
    rcases h1 with ⟨rfl, h⟩ | ⟨rfl, h⟩ <;> exact h
theorem Ok_and {a b : E} {Q : V → Store → Prop} :
    Ok (evE ns G C ρ (.and a b) σ) Q ↔ Ok (evE ns G C ρ a σ) (fun v σ1 => (v = .bool true ∧ Ok (evE ns G C ρ b σ1) Q) ∨ (v = .bool false ∧ Q (.bool false) σ1)) := by
  change Ok ((evE ns G C ρ a σ).bind fun x σ1 => match x with | .bool true => evE ns G C ρ b σ1 | .bool false => .ok (.bool false) σ1 | _ => .stuck) Q ↔ _
  rw [Ok_bind]
  constructor
  · intro h
    refine h.mono fun v σ1 h1 => ?_
    cases v with
    | bool c => cases c with
      | true => exact .inl ⟨rfl, h1⟩
      | false => exact .inr ⟨rfl, h1⟩
    | _ => exact h1.elim
  · intro h
    refine h.mono fun v σ1 h1 => ?_
    rcases h1 with ⟨rfl, h⟩ | ⟨rfl, h⟩ <;> exact h
theorem Ok_or {a b : E} {Q : V → Store → Prop} :
    Ok (evE ns G C ρ (.or a b) σ) Q ↔ Ok (evE ns G C ρ a σ) (fun v σ1 => (v = .bool true ∧ Q (.bool true) σ1) ∨ (v = .bool false ∧ Ok (evE ns G C ρ b σ1) Q)) := by
  change Ok ((evE ns G C ρ a σ).bind fun x σ1 => match x with | .bool true => .ok (.bool true) σ1 | .bool false => evE ns G C ρ b σ1 | _ => .stuck) Q ↔ _
  rw [Ok_bind]
  constructor
  · intro h
    refine h.mono fun v σ1 h1 => ?_
    cases v with
    | bool c => cases c with
      | true => exact .inl ⟨rfl, h1⟩
      | false => exact .inr ⟨rfl, h1⟩
    | _ => exact h1.elim
  · intro h
    refine h.mono fun v σ1 h1 => ?_
    rcases h1 with ⟨rfl, h⟩ | ⟨rfl, h⟩ <;> exact h
/-- behind a statement: the rest, or the value that was given back -/
noncomputable def Then (ns G : List Int) (C : Nat → List V → Store → R V) (N : Nat) (r : Ss) (Q : F × Loc → Store → Prop) (fr : F × Loc) (σ : Store) : Prop :=
  match fr.1 with
  | .next => Ok (exSs ns G C N r fr.2 σ) Q
  | .ret _ => Q fr σ
theorem Then_next {r : Ss} {Q : F × Loc → Store → Prop} : Then ns G C N r Q (.next, ρ) σ ↔ Ok (exSs ns G C N r ρ σ) Q := Iff.rfl
theorem Then_ret {r : Ss} {v : V} {Q : F × Loc → Store → Prop} : Then ns G C N r Q (.ret v, ρ) σ ↔ Q (.ret v, ρ) σ := Iff.rfl
theorem Ok_seq {s : S} {r : Ss} {Q : F × Loc → Store → Prop} :
    Ok (exSs ns G C N (.cons s r) ρ σ) Q ↔ Ok (exS ns G C N s ρ σ) (Then ns G C N r Q) := by
  change Ok ((exS ns G C N s ρ σ).bind fun fr σ1 => match fr with | (.next, ρ1) => exSs ns G C N r ρ1 σ1 | (.ret v, ρ1) => .ok (.ret v, ρ1) σ1) Q ↔ _
  rw [Ok_bind]
  constructor
  · intro h
    refine h.mono fun fr σ1 h1 => ?_
    obtain ⟨f, ρ1⟩ := fr
    cases f with
    | next => exact h1
    | ret v => exact h1
  · intro h
    refine h.mono fun fr σ1 h1 => ?_
    obtain ⟨f, ρ1⟩ := fr
    cases f with
    | next => exact h1
    | ret v => exact h1

/-- a turn of a loop: on to the next, or the value that was given back -/
noncomputable def Turn (Inv : Loc → Store → Prop) (Q : F × Loc → Store → Prop) (fr : F × Loc) (σ : Store) : Prop :=
  match fr.1 with
  | .next => Inv fr.2 σ
  | .ret _ => Q fr σ
theorem Turn_next {Inv : Loc → Store → Prop} {Q : F × Loc → Store → Prop} : Turn Inv Q (.next, ρ) σ ↔ Inv ρ σ := Iff.rfl
theorem Turn_ret {Inv : Loc → Store → Prop} {v : V} {Q : F × Loc → Store → Prop} : Turn Inv Q (.ret v, ρ) σ ↔ Q (.ret v, ρ) σ := Iff.rfl
theorem Turn.or {Inv : Loc → Store → Prop} {Q : F × Loc → Store → Prop} {fr : F × Loc} (h : Turn Inv Q fr σ) : (fr.1 = .next ∧ Inv fr.2 σ) ∨ (∃ u, fr.1 = .ret u ∧ Q fr σ) := by
  obtain ⟨f, ρ1⟩ := fr
  cases f with
  | next => exact .inl ⟨rfl, h⟩
  | ret v => exact .inr ⟨v, rfl, h⟩
/-- the end of a call -/
noncomputable def Back (Q : V → Store → Prop) (fr : F × Loc) (σ : Store) : Prop :=
  match fr.1 with
  | .next => Q .none σ
  | .ret v => Q v σ
theorem Back_next {Q : V → Store → Prop} : Back Q (.next, ρ) σ ↔ Q .none σ := Iff.rfl
theorem Back_ret {v : V} {Q : V → Store → Prop} : Back Q (.ret v, ρ) σ ↔ Q v σ := Iff.rfl

/-- a loop over a range -/
theorem ok_for_vals {body : Loc → Store → R (F × Loc)} {x : Nat} {Q : F × Loc → Store → Prop} (xs : List V) (Inv : Nat → Loc → Store → Prop)
    (step : ∀ i v ρ σ, xs[i]? = some v → Inv i ρ σ → Ok (body (ρ.set x (some v)) σ) (Turn (Inv (i + 1)) Q))
    (hQ : ∀ ρ σ, Inv xs.length ρ σ → Q (.next, ρ) σ) (h0 : Inv 0 ρ σ) : Ok (forL body x (xs.length + 1) (.vals xs) ρ σ) Q := by
  have key : ∀ (n i : Nat) ρ σ, n = xs.length - i → i ≤ xs.length → Inv i ρ σ → Ok (forL body x (n + 1) (.vals (xs.drop i)) ρ σ) Q := by
    intro n
    induction n with
    | zero =>
      intro i ρ σ hn hi hI
      have : i = xs.length := by omega
      subst this
      rw [List.drop_length, forL]
      exact hQ _ _ hI
    | succ n ih =>
      intro i ρ σ hn hi hI
      have hlt : i < xs.length := by omega
      rw [List.drop_eq_getElem_cons hlt, forL]
      simp only [itNext]
      rw [Ok_bind]
      refine (step i xs[i] ρ σ (List.getElem?_eq_getElem hlt) hI).mono fun fr σ1 h1 => ?_
      obtain ⟨f, ρ1⟩ := fr
      rcases h1.or with ⟨e, h⟩ | ⟨v, e, h⟩
      · simp only at e; subst e; exact ih (i + 1) ρ1 σ1 (by omega) (by omega) h
      · simp only at e; subst e; exact h
  have := key xs.length 0 ρ σ (by omega) (by omega) h0
  simpa using this

/-- a loop over a list that stays -/
theorem ok_for_ref {body : Loc → Store → R (F × Loc)} {x j : Nat} {Q : F × Loc → Store → Prop} (xs : List V) (Inv : Nat → Loc → Store → Prop)
    (stay : ∀ i ρ σ, Inv i ρ σ → σ[j]? = some (.list xs))
    (step : ∀ i v ρ σ, xs[i]? = some v → Inv i ρ σ → Ok (body (ρ.set x (some v)) σ) (Turn (Inv (i + 1)) Q))
    (hQ : ∀ ρ σ, Inv xs.length ρ σ → Q (.next, ρ) σ) (h0 : Inv 0 ρ σ) : Ok (forL body x (xs.length + 1) (.ref j 0) ρ σ) Q := by
  have key : ∀ (n i : Nat) ρ σ, n = xs.length - i → i ≤ xs.length → Inv i ρ σ → Ok (forL body x (n + 1) (.ref j i) ρ σ) Q := by
    intro n
    induction n with
    | zero =>
      intro i ρ σ hn hi hI
      have : i = xs.length := by omega
      subst this
      rw [forL]
      simp only [itNext, stay _ _ _ hI, List.getElem?_eq_none (Nat.le_refl xs.length)]
      exact hQ _ _ hI
    | succ n ih =>
      intro i ρ σ hn hi hI
      have hlt : i < xs.length := by omega
      rw [forL]
      simp only [itNext, stay _ _ _ hI, List.getElem?_eq_getElem hlt]
      rw [Ok_bind]
      refine (step i xs[i] ρ σ (List.getElem?_eq_getElem hlt) hI).mono fun fr σ1 h1 => ?_
      obtain ⟨f, ρ1⟩ := fr
      rcases h1.or with ⟨e, h⟩ | ⟨v, e, h⟩
      · simp only at e; subst e; exact ih (i + 1) ρ1 σ1 (by omega) (by omega) h
      · simp only at e; subst e; exact h
  exact key xs.length 0 ρ σ (by omega) (by omega) h0

theorem rangeV_len (n : Nat) : (rangeV n).length = n := by simp [rangeV]
theorem rangeV_get {n i : Nat} {v : V} (h : (rangeV n)[i]? = some v) : i < n ∧ v = .int (i : Int) := by
  have hi := (List.getElem?_eq_some_iff.mp h).1
  rw [rangeV_len] at hi
  refine ⟨hi, ?_⟩
  simp [rangeV, List.getElem?_map, List.getElem?_range hi] at h
  exact h.symm

theorem ex_for {x : Nat} {it : It} {body : Ss} : exS ns G C N (.for x it body) ρ σ = (evIt ns G C ρ it σ).bind fun i σ1 => forL (fun ρ σ => exSs ns G C N body ρ σ) x (itFuel i σ1) i ρ σ1 := rfl
theorem evI_range {e : E} : evIt ns G C ρ (.range e) σ = (evE ns G C ρ e σ).bind fun x σ1 => match x with | .int n => (if 0 ≤ n ∧ n ≤ sizeMax then .ok (Itr.vals (rangeV n.toNat)) σ1 else .stuck) | _ => .stuck := rfl
theorem evI_seq {e : E} : evIt ns G C ρ (.seq e) σ = (evE ns G C ρ e σ).bind fun x σ1 => match x with | .ref i => (match σ1[i]? with | some (.list _) => .ok (Itr.ref i 0) σ1 | _ => .stuck) | _ => .stuck := rfl
theorem ev_compR {elt : E} {x : Nat} {it : It} : evE ns G C ρ (.comp elt x it) σ = (evIt ns G C ρ it σ).bind fun i σ1 => (compL (fun v τ => (evE ns G C (ρ.set x (some v)) elt τ).bind fun y τ1 => .ok (some y) τ1) (itFuel i σ1) i σ1).noErr.bind newL := rfl
theorem ev_compIfR {elt c : E} {x : Nat} {it : It} : evE ns G C ρ (.compIf elt x it c) σ = (evIt ns G C ρ it σ).bind fun i σ1 => (compL (fun v τ => (evE ns G C (ρ.set x (some v)) c τ).bind fun b τ1 => match b with
          | .bool true => (evE ns G C (ρ.set x (some v)) elt τ1).bind fun y τ2 => .ok (some y) τ2
          | .bool false => .ok .none τ1
          | _ => .stuck) (itFuel i σ1) i σ1).noErr.bind newL := rfl
theorem ok_for_range {x : Nat} {e : E} {body : Ss} {Q : F × Loc → Store → Prop} {n : Nat} (he : evE ns G C ρ e σ = .ok (.int (n : Int)) σ) (hn : n ≤ sizeMax) (Inv : Nat → Loc → Store → Prop)
    (h0 : Inv 0 ρ σ) (step : ∀ i ρ σ, i < n → Inv i ρ σ → Ok (exSs ns G C N body (ρ.set x (some (.int (i : Int)))) σ) (Turn (Inv (i + 1)) Q))
    (hQ : ∀ ρ σ, Inv n ρ σ → Q (.next, ρ) σ) : Ok (exS ns G C N (.for x (.range e) body) ρ σ) Q := by
  rw [ex_for, evI_range, he]
  simp only [R.bind]
  rw [if_pos ⟨by omega, by omega⟩]
  simp only [itFuel, Int.toNat_natCast, rangeV_len]
  have := ok_for_vals (body := fun ρ σ => exSs ns G C N body ρ σ) (x := x) (Q := Q) (ρ := ρ) (σ := σ) (rangeV n) Inv (fun i v ρ σ hv hI => by
    obtain ⟨h1, rfl⟩ := rangeV_get hv
    exact step i ρ σ h1 hI) (by rw [rangeV_len]; exact hQ) h0
  rw [rangeV_len] at this
  exact this

theorem ok_for_seq {x j : Nat} {e : E} {body : Ss} {Q : F × Loc → Store → Prop} (xs : List V) (he : evE ns G C ρ e σ = .ok (.ref j) σ) (Inv : Nat → Loc → Store → Prop)
    (stay : ∀ i ρ σ, Inv i ρ σ → σ[j]? = some (.list xs)) (h0 : Inv 0 ρ σ)
    (step : ∀ i v ρ σ, xs[i]? = some v → Inv i ρ σ → Ok (exSs ns G C N body (ρ.set x (some v)) σ) (Turn (Inv (i + 1)) Q))
    (hQ : ∀ ρ σ, Inv xs.length ρ σ → Q (.next, ρ) σ) : Ok (exS ns G C N (.for x (.seq e) body) ρ σ) Q := by
  have h1 := stay _ _ _ h0
  rw [ex_for, evI_seq, he]
  simp only [R.bind, h1, itFuel]
  exact ok_for_ref xs Inv stay step hQ h0

/-- a while loop: at most k turns more -/
theorem ok_while {t : E} {body : Ss} {Q : F × Loc → Store → Prop} (Inv : Nat → Loc → Store → Prop) (k : Nat) (hk : k < N) (h0 : Inv k ρ σ)
    (step : ∀ k ρ σ, Inv k ρ σ → Ok (evE ns G C ρ t σ) (fun v σ1 => (v = .bool true ∧ 0 < k ∧ Ok (exSs ns G C N body ρ σ1) (Turn (fun ρ' σ' => ∃ m, m < k ∧ Inv m ρ' σ') Q)) ∨ (v = .bool false ∧ Q (.next, ρ) σ1))) :
    Ok (exS ns G C N (.while t body) ρ σ) Q := by
  change Ok (whileL (fun ρ σ => evE ns G C ρ t σ) (fun ρ σ => exSs ns G C N body ρ σ) N ρ σ) Q
  have key : ∀ (n k : Nat) ρ σ, k < n → Inv k ρ σ → Ok (whileL (fun ρ σ => evE ns G C ρ t σ) (fun ρ σ => exSs ns G C N body ρ σ) n ρ σ) Q := by
    intro n
    induction n with
    | zero => intro k ρ σ h; omega
    | succ n ih =>
      intro k ρ σ hkn hI
      rw [whileL, Ok_bind]
      refine (step k ρ σ hI).mono fun v σ1 h1 => ?_
      rcases h1 with ⟨rfl, hk0, hb⟩ | ⟨rfl, hq⟩
      · simp only
        rw [Ok_bind]
        refine hb.mono fun fr σ2 h2 => ?_
        obtain ⟨f, ρ1⟩ := fr
        rcases h2.or with ⟨e, m, hm, h⟩ | ⟨v, e, h⟩
        · simp only at e; subst e; exact ih m ρ1 σ2 (by omega) h
        · simp only at e; subst e; exact h
      · exact hq
  exact key N k ρ σ hk h0

/-- a comprehension's loop -/
theorem ok_comp_vals {f : V → Store → R (Option V)} (xs : List V) (Inv : Nat → List V → Store → Prop)
    (step : ∀ i v acc σ, xs[i]? = some v → Inv i acc σ → Ok (f v σ) (fun o σ1 => Inv (i + 1) (acc ++ o.toList) σ1)) (h0 : Inv 0 [] σ) :
    Ok (compL f (xs.length + 1) (.vals xs) σ) (fun r σ1 => Inv xs.length r σ1) := by
  have key : ∀ (n i : Nat) acc σ, n = xs.length - i → i ≤ xs.length → Inv i acc σ → Ok (compL f (n + 1) (.vals (xs.drop i)) σ) (fun r σ1 => Inv xs.length (acc ++ r) σ1) := by
    intro n
    induction n with
    | zero =>
      intro i acc σ hn hi hI
      have : i = xs.length := by omega
      subst this
      rw [List.drop_length, compL]
      simpa [itNext, Ok_ok] using hI
    | succ n ih =>
      intro i acc σ hn hi hI
      have hlt : i < xs.length := by omega
      rw [List.drop_eq_getElem_cons hlt, compL]
      simp only [itNext]
      rw [Ok_bind]
      refine (step i xs[i] acc σ (List.getElem?_eq_getElem hlt) hI).mono fun o σ1 h1 => ?_
      rw [Ok_bind]
      refine (ih (i + 1) _ σ1 (by omega) (by omega) h1).mono fun r σ2 h2 => ?_
      rw [Ok_ok]
      cases o <;> simpa using h2
  have := key xs.length 0 [] σ (by omega) (by omega) h0
  simpa using this
theorem ok_comp_ref {f : V → Store → R (Option V)} {j : Nat} (xs : List V) (Inv : Nat → List V → Store → Prop) (stay : ∀ i acc σ, Inv i acc σ → σ[j]? = some (.list xs))
    (step : ∀ i v acc σ, xs[i]? = some v → Inv i acc σ → Ok (f v σ) (fun o σ1 => Inv (i + 1) (acc ++ o.toList) σ1)) (h0 : Inv 0 [] σ) :
    Ok (compL f (xs.length + 1) (.ref j 0) σ) (fun r σ1 => Inv xs.length r σ1) := by
  have key : ∀ (n i : Nat) acc σ, n = xs.length - i → i ≤ xs.length → Inv i acc σ → Ok (compL f (n + 1) (.ref j i) σ) (fun r σ1 => Inv xs.length (acc ++ r) σ1) := by
    intro n
    induction n with
    | zero =>
      intro i acc σ hn hi hI
      have : i = xs.length := by omega
      subst this
      rw [compL]
      simp only [itNext, stay _ _ _ hI, List.getElem?_eq_none (Nat.le_refl xs.length)]
      simpa [Ok_ok] using hI
    | succ n ih =>
      intro i acc σ hn hi hI
      have hlt : i < xs.length := by omega
      rw [compL]
      simp only [itNext, stay _ _ _ hI, List.getElem?_eq_getElem hlt]
      rw [Ok_bind]
      refine (step i xs[i] acc σ (List.getElem?_eq_getElem hlt) hI).mono fun o σ1 h1 => ?_
      rw [Ok_bind]
      refine (ih (i + 1) _ σ1 (by omega) (by omega) h1).mono fun r σ2 h2 => ?_
      rw [Ok_ok]
      cases o <;> simpa using h2
  have := key xs.length 0 [] σ (by omega) (by omega) h0
  simpa using this

theorem Ok_newL {vs : List V} {Q : V → Store → Prop} : Ok (newL vs σ) Q ↔ vs.length ≤ sizeMax ∧ Q (.ref σ.length) (σ ++ [.list vs]) := by
  unfold newL
  split
  · rename_i h; exact ⟨fun q => ⟨h, q⟩, fun q => q.2⟩
  · rename_i h; exact ⟨fun q => q.elim, fun q => h q.1⟩
end
end Mine

namespace Mine
open PySem
section
variable {ns : List Int} {G : List Int} {C : Nat → List V → Store → R V} {N : Nat} {ρ : Loc} {σ : Store}
theorem ev_none : evE ns G C ρ .none σ = .ok .none σ := rfl
theorem ev_bool {b : Bool} : evE ns G C ρ (.bool b) σ = .ok (.bool b) σ := rfl
theorem ev_int {i : Int} : evE ns G C ρ (.int i) σ = .ok (.int i) σ := rfl
theorem ev_str {i : Str} : evE ns G C ρ (.str i) σ = .ok (.str i) σ := rfl
theorem ev_var {i : Nat} : evE ns G C ρ (.var i) σ = match ρ[i]? with | some (some v) => .ok v σ | _ => .stuck := rfl
theorem ev_glob {g : Nat} : evE ns G C ρ (.glob g) σ = match G[g]? with | some i => .ok (.int i) σ | _ => .stuck := rfl
theorem ev_fn {k : Nat} : evE ns G C ρ (.fn k) σ = .ok (.fn k) σ := rfl
theorem ev_bin {op : Operator} {a b : E} : evE ns G C ρ (.bin op a b) σ = (evE ns G C ρ a σ).bind fun x σ1 => (evE ns G C ρ b σ1).bind fun y σ2 => binV op x y σ2 := rfl
theorem ev_neg {a : E} : evE ns G C ρ (.neg a) σ = (evE ns G C ρ a σ).bind fun x σ1 => match x with | .int i => .ok (.int (-i)) σ1 | _ => .stuck := rfl
theorem ev_not {a : E} : evE ns G C ρ (.not a) σ = (evE ns G C ρ a σ).bind fun x σ1 => match x with | .bool i => .ok (.bool (!i)) σ1 | _ => .stuck := rfl
theorem ev_cmp {op : CmpOp} {a b : E} : evE ns G C ρ (.cmp op a b) σ = (evE ns G C ρ a σ).bind fun x σ1 => (evE ns G C ρ b σ1).bind fun y σ2 => R.ofB (cmpV σ2 op x y) σ2 := rfl
theorem ev_list {es : Es} : evE ns G C ρ (.list es) σ = (evEs ns G C ρ es σ).bind fun vs σ1 => newL vs σ1 := rfl
theorem ev_tup {es : Es} : evE ns G C ρ (.tup es) σ = (evEs ns G C ρ es σ).bind fun vs σ1 => if vs.length ≤ 64 then .ok (.tup vs) σ1 else .stuck := rfl
theorem ev_dictS {ks : List Str} {es : Es} : evE ns G C ρ (.dictS ks es) σ = (evEs ns G C ρ es σ).bind fun vs σ1 => match intsOf vs with | some l => .ok (.ref σ1.length) (σ1 ++ [.dictS (ks.zip l)]) | .none => .stuck := rfl
theorem ev_dictI : evE ns G C ρ .dictI σ = .ok (.ref σ.length) (σ ++ [.dictI []]) := rfl
theorem ev_idx {a b : E} : evE ns G C ρ (.idx a b) σ = (evE ns G C ρ a σ).bind fun x σ1 => (evE ns G C ρ b σ1).bind fun y σ2 => idxV ns x y σ2 := rfl
theorem ev_sl {a b c : E} : evE ns G C ρ (.sl a b c) σ = (evE ns G C ρ a σ).bind fun x σ1 => (evE ns G C ρ b σ1).bind fun l σ2 => (evE ns G C ρ c σ2).bind fun h σ3 => match l, h with | .int l, .int h => slV ns x (some l) (some h) σ3 | _, _ => .stuck := rfl
theorem ev_slFrom {a b : E} : evE ns G C ρ (.slFrom a b) σ = (evE ns G C ρ a σ).bind fun x σ1 => (evE ns G C ρ b σ1).bind fun l σ2 => match l with | .int l => slV ns x (some l) .none σ2 | _ => .stuck := rfl
theorem ev_slTo {a b : E} : evE ns G C ρ (.slTo a b) σ = (evE ns G C ρ a σ).bind fun x σ1 => (evE ns G C ρ b σ1).bind fun l σ2 => match l with | .int l => slV ns x .none (some l) σ2 | _ => .stuck := rfl
theorem ev_call {f : Nat} {es : Es} : evE ns G C ρ (.call f es) σ = (evEs ns G C ρ es σ).bind fun vs σ1 => C f vs σ1 := rfl
theorem ev_len {a : E} : evE ns G C ρ (.len a) σ = (evE ns G C ρ a σ).bind fun x σ1 => lenV ns x σ1 := rfl
theorem ev_listOf {a : E} : evE ns G C ρ (.listOf a) σ = (evE ns G C ρ a σ).bind fun x σ1 => match x with | .ref i => (match σ1[i]? with | some (.list vs) => newL vs σ1 | _ => .stuck) | _ => .stuck := rfl
theorem ev_listRange {a : E} : evE ns G C ρ (.listRange a) σ = (evE ns G C ρ a σ).bind fun x σ1 => match x with | .int n => (if 0 ≤ n ∧ n ≤ sizeMax then newL (rangeV n.toNat) σ1 else .stuck) | _ => .stuck := rfl
theorem ev_listRev {a : E} : evE ns G C ρ (.listRev a) σ = (evE ns G C ρ a σ).bind fun x σ1 => match x with | .ref i => (match σ1[i]? with | some (.list vs) => newL vs.reverse σ1 | _ => .stuck) | _ => .stuck := rfl
theorem ev_isinst {a : E} {t : Ty} : evE ns G C ρ (.isinst a t) σ = (evE ns G C ρ a σ).bind fun x σ1 => R.ofB (isinstV x t σ1) σ1 := rfl
theorem ev_toInt {a : E} : evE ns G C ρ (.toInt a) σ = (evE ns G C ρ a σ).bind fun x σ1 => match x with | .bool b => .ok (.int (if b then 1 else 0)) σ1 | _ => .stuck := rfl
theorem ev_max {a b : E} : evE ns G C ρ (.max a b) σ = (evE ns G C ρ a σ).bind fun x σ1 => (evE ns G C ρ b σ1).bind fun y σ2 => match x, y with | .int a, .int b => .ok (.int (if b > a then b else a)) σ2 | _, _ => .stuck := rfl
theorem ev_min {a b : E} : evE ns G C ρ (.min a b) σ = (evE ns G C ρ a σ).bind fun x σ1 => (evE ns G C ρ b σ1).bind fun y σ2 => match x, y with | .int a, .int b => .ok (.int (if b < a then b else a)) σ2 | _, _ => .stuck := rfl
theorem ev_sum {a : E} : evE ns G C ρ (.sum a) σ = (evE ns G C ρ a σ).bind fun x σ1 => match x with | .ref i => (match σ1[i]? with | some (.list vs) => (match intsOf vs with | some l => .ok (.int l.sum) σ1 | .none => .stuck) | _ => .stuck) | _ => .stuck := rfl
theorem ev_nil : evEs ns G C ρ .nil σ = .ok [] σ := rfl
theorem ev_cons {a : E} {r : Es} : evEs ns G C ρ (.cons a r) σ = (evE ns G C ρ a σ).bind fun v σ1 => (evEs ns G C ρ r σ1).bind fun vs σ2 => .ok (v :: vs) σ2 := rfl
theorem ex_assign {i : Nat} {a : E} : exS ns G C N (.assign i a) ρ σ = (evE ns G C ρ a σ).bind fun v σ1 => .ok (.next, ρ.set i (some v)) σ1 := rfl
theorem ex_setItem {x i a : E} : exS ns G C N (.setItem x i a) ρ σ = (evE ns G C ρ a σ).bind fun v σ1 => (evE ns G C ρ x σ1).bind fun xv σ2 => (evE ns G C ρ i σ2).bind fun iv σ3 => (setV xv iv v σ3).bind fun _ σ4 => .ok (.next, ρ) σ4 := rfl
theorem ex_append {x a : E} : exS ns G C N (.append x a) ρ σ = (evE ns G C ρ x σ).bind fun xv σ1 => if isL xv σ1 = true then (evE ns G C ρ a σ1).bind fun v σ2 => (appV xv v σ2).bind fun _ σ3 => .ok (.next, ρ) σ3 else .stuck := rfl
theorem ex_clear {x : E} : exS ns G C N (.clear x) ρ σ = (evE ns G C ρ x σ).bind fun xv σ1 => (clearV xv σ1).bind fun _ σ2 => .ok (.next, ρ) σ2 := rfl
theorem ex_expr {a : E} : exS ns G C N (.expr a) ρ σ = (evE ns G C ρ a σ).bind fun _ σ1 => .ok (.next, ρ) σ1 := rfl
theorem ex_ret {a : E} : exS ns G C N (.ret a) ρ σ = (evE ns G C ρ a σ).bind fun v σ1 => .ok (.ret v, ρ) σ1 := rfl
theorem ex_nil : exSs ns G C N .nil ρ σ = .ok (.next, ρ) σ := rfl
theorem cm_Eq {a b : V} : cmpV σ .Eq a b = eqV σ a b := rfl
theorem cm_NotEq {a b : V} : cmpV σ .NotEq a b = (eqV σ a b).map (!·) := rfl
theorem cm_Lt {a b : Int} : cmpV σ .Lt (.int a) (.int b) = some (decide (a < b)) := rfl
theorem cm_LtE {a b : Int} : cmpV σ .LtE (.int a) (.int b) = some (decide (a ≤ b)) := rfl
theorem cm_Gt {a b : Int} : cmpV σ .Gt (.int a) (.int b) = some (decide (b < a)) := rfl
theorem cm_GtE {a b : Int} : cmpV σ .GtE (.int a) (.int b) = some (decide (b ≤ a)) := rfl
theorem cm_Is {a : V} : cmpV σ .Is a .none = isNone a := rfl
theorem cm_IsNot {a : V} : cmpV σ .IsNot a .none = (isNone a).map (!·) := rfl
theorem cm_In {a b : V} : cmpV σ .In a b = inV σ a b := rfl
theorem cm_NotIn {a b : V} : cmpV σ .NotIn a b = (inV σ a b).map (!·) := rfl
theorem eq_ii {a b : Int} : eqV σ (.int a) (.int b) = some (a == b) := rfl
theorem eq_ss {a b : Str} : eqV σ (.str a) (.str b) = some (a == b) := rfl
theorem eq_bb {a b : Bool} : eqV σ (.bool a) (.bool b) = some (a == b) := rfl
theorem eq_rr {a b : Nat} : eqV σ (.ref a) (.ref b) = eqD σ (.ref a) (.ref b) := rfl
theorem eq_tt {a b : List V} : eqV σ (.tup a) (.tup b) = eqD σ (.tup a) (.tup b) := rfl
theorem eq_nx {b : V} : eqV σ .none b = eqD σ .none b := by cases b <;> rfl
theorem eq_in {a : Int} : eqV σ (.int a) .none = eqD σ (.int a) .none := rfl
theorem no_none : isNone .none = some true := rfl
theorem no_int {i : Int} : isNone (.int i) = some false := rfl
theorem no_ref {i : Nat} : isNone (.ref i) = some false := rfl
theorem no_tup {l : List V} : isNone (.tup l) = some false := rfl
theorem ist_ii {i : Int} : isinstV (.int i) .int σ = some true := rfl
theorem ist_ib {i : Int} : isinstV (.int i) .bool σ = some false := rfl
theorem ist_bb {i : Bool} : isinstV (.bool i) .bool σ = some true := rfl
theorem ist_tt {i : List V} : isinstV (.tup i) .tuple σ = some true := rfl
theorem ist_ss {i : Str} : isinstV (.str i) .str σ = some true := rfl
theorem bind_ok {α β : Type} {a : α} {f : α → Store → R β} : (R.ok a σ).bind f = f a σ := rfl
theorem ofB_some {b : Bool} : R.ofB (some b) σ = .ok (.bool b) σ := rfl
theorem Ok_cmp2 {o1 o2 : CmpOp} {a b c : E} {Q : V → Store → Prop} :
    Ok (evE ns G C ρ (.cmp2 o1 o2 a b c) σ) Q ↔ Ok (evE ns G C ρ a σ) (fun x σ1 => Ok (evE ns G C ρ b σ1) (fun y σ2 => (cmpV σ2 o1 x y = some true ∧ Ok (evE ns G C ρ c σ2) (fun z σ3 => Ok (R.ofB (cmpV σ3 o2 y z) σ3) Q)) ∨ (cmpV σ2 o1 x y = some false ∧ Q (.bool false) σ2))) := by
  change Ok ((evE ns G C ρ a σ).bind fun x σ1 => (evE ns G C ρ b σ1).bind fun y σ2 => match cmpV σ2 o1 x y with | some true => (evE ns G C ρ c σ2).bind fun z σ3 => R.ofB (cmpV σ3 o2 y z) σ3 | some false => .ok (.bool false) σ2 | .none => .stuck) Q ↔ _
  simp only [Ok_bind]
  constructor
  · intro h
    refine h.mono fun x σ1 h1 => h1.mono fun y σ2 h2 => ?_
    revert h2
    cases cmpV σ2 o1 x y with
    | none => exact fun h => h.elim
    | some b => cases b with
      | true => intro h; simp only [Ok_bind] at h; exact .inl ⟨rfl, h⟩
      | false => exact fun h => .inr ⟨rfl, h⟩
  · intro h
    refine h.mono fun x σ1 h1 => h1.mono fun y σ2 h2 => ?_
    rcases h2 with ⟨e, h⟩ | ⟨e, h⟩
    · rw [e]; simp only [Ok_bind]; exact h
    · rw [e]; exact h
theorem st_assign {i : Nat} {e : E} {r : Ss} {v : V} {σ' : Store} {Q : F × Loc → Store → Prop} (he : evE ns G C ρ e σ = .ok v σ') (k : Ok (exSs ns G C N r (ρ.set i (some v)) σ') Q) : Ok (exSs ns G C N (.cons (.assign i e) r) ρ σ) Q := by
  rw [Ok_seq, ex_assign, he]; exact k
theorem st_expr {e : E} {r : Ss} {Q : F × Loc → Store → Prop} (he : Ok (evE ns G C ρ e σ) fun _ σ' => Ok (exSs ns G C N r ρ σ') Q) : Ok (exSs ns G C N (.cons (.expr e) r) ρ σ) Q := by
  rw [Ok_seq, ex_expr, Ok_bind]; exact he
theorem st_skip {t : E} {a r : Ss} {σ' : Store} {Q : F × Loc → Store → Prop} (he : evE ns G C ρ t σ = .ok (.bool false) σ') (k : Ok (exSs ns G C N r ρ σ') Q) : Ok (exSs ns G C N (.cons (.ite t a .nil) r) ρ σ) Q := by
  rw [Ok_seq, Ok_ite, he]; exact .inr ⟨rfl, k⟩
theorem st_then {t : E} {a b r : Ss} {σ' : Store} {Q : F × Loc → Store → Prop} (he : evE ns G C ρ t σ = .ok (.bool true) σ') (k : Ok (exSs ns G C N a ρ σ') (Then ns G C N r Q)) : Ok (exSs ns G C N (.cons (.ite t a b) r) ρ σ) Q := by
  rw [Ok_seq, Ok_ite, he]; exact .inl ⟨rfl, k⟩
theorem st_ret {e : E} {r : Ss} {v : V} {σ' : Store} {Q : F × Loc → Store → Prop} (he : evE ns G C ρ e σ = .ok v σ') (k : Q (.ret v, ρ) σ') : Ok (exSs ns G C N (.cons (.ret e) r) ρ σ) Q := by
  rw [Ok_seq, ex_ret, he]; exact k
theorem st_append {x e : E} {r : Ss} {j : Nat} {vs : List V} {v : V} {σ' : Store} {Q : F × Loc → Store → Prop} (hx : evE ns G C ρ x σ = .ok (.ref j) σ) (hj : isL (.ref j) σ = true) (he : evE ns G C ρ e σ = .ok v σ') (ha : appV (.ref j) v σ' = .ok () (σ'.set j (.list (vs ++ [v]))))
    (k : Ok (exSs ns G C N r ρ (σ'.set j (.list (vs ++ [v])))) Q) : Ok (exSs ns G C N (.cons (.append x e) r) ρ σ) Q := by
  rw [Ok_seq, ex_append, hx, bind_ok, if_pos hj, he, bind_ok, ha]; exact k
theorem st_set {x i e : E} {r : Ss} {xv iv v : V} {σ1 σ2 σ3 σ4 : Store} {Q : F × Loc → Store → Prop} (he : evE ns G C ρ e σ = .ok v σ1) (hx : evE ns G C ρ x σ1 = .ok xv σ2) (hi : evE ns G C ρ i σ2 = .ok iv σ3) (hs : setV xv iv v σ3 = .ok () σ4) (k : Ok (exSs ns G C N r ρ σ4) Q) : Ok (exSs ns G C N (.cons (.setItem x i e) r) ρ σ) Q := by
  rw [Ok_seq, ex_setItem, he, bind_ok, hx, bind_ok, hi, bind_ok, hs]; exact k
theorem st_nil {r : Ss} {Q : F × Loc → Store → Prop} (k : Ok (exSs ns G C N r ρ σ) Q) : Ok (exSs ns G C N .nil ρ σ) (Then ns G C N r Q) := k
end
end Mine

namespace Mine
namespace B
open PySem
/- need_hand: [(0, 'hands'), (1, 'hand')]; comprehensions [] -/
noncomputable def need_hand (x_NoHand : S) : Fn := ⟨2, 2, (.cons (.ite (.not (.cmp2 .LtE .Lt (.int 0) (.var 1) (.var 0))) (.cons x_NoHand
  .nil) .nil)
  .nil)⟩
/- need_form: [(0, 'row'), (1, 'lengths')]; comprehensions [] -/
noncomputable def need_form (x_NoRow : S) : Fn := ⟨1, 2, (.cons (.assign 1 (.dictS [(Str.ofString "send"), (Str.ofString "got"), (Str.ofString "note")] (.cons (.int 3) (.cons (.int 3) (.cons (.int 2) .nil)))))
  (.cons (.ite (.or (.cmp .Eq (.len (.var 0)) (.int 0)) (.or (.cmp .NotIn (.idx (.var 0) (.int 0)) (.var 1)) (.cmp .NotEq (.len (.var 0)) (.idx (.var 1) (.idx (.var 0) (.int 0)))))) (.cons x_NoRow
  .nil) .nil)
  .nil))⟩
/- letters: [(0, 'hands'), (1, 'rows'), (2, 'found'), (3, 'place'), (4, 'row'), (5, 'letter')]; comprehensions [] -/
noncomputable def letters_s1 (c_need_hand : Nat) : Ss := (.cons (.expr (.call c_need_hand (.cons (.var 0) (.cons (.idx (.var 4) (.int 2)) .nil))))
  (.cons (.append (.var 2) (.tup (.cons (.idx (.var 4) (.int 1)) (.cons (.idx (.var 4) (.int 2)) (.cons (.var 3) (.cons .none .nil))))))
  .nil))
noncomputable def letters_s2 (x_NoLetter : S) (x_GotTwice : S) : Ss := (.cons (.ite (.or (.not (.cmp2 .LtE .Lt (.int 0) (.idx (.var 4) (.int 2)) (.len (.var 2)))) (.cmp .NotEq (.idx (.idx (.var 2) (.idx (.var 4) (.int 2))) (.int 1)) (.idx (.var 4) (.int 1)))) (.cons x_NoLetter
  .nil) .nil)
  (.cons (.assign 5 (.idx (.var 2) (.idx (.var 4) (.int 2))))
  (.cons (.ite (.cmp .IsNot (.idx (.var 5) (.int 3)) .none) (.cons x_GotTwice
  .nil) .nil)
  (.cons (.setItem (.var 2) (.idx (.var 4) (.int 2)) (.tup (.cons (.idx (.var 5) (.int 0)) (.cons (.idx (.var 5) (.int 1)) (.cons (.idx (.var 5) (.int 2)) (.cons (.var 3) .nil))))))
  .nil))))
noncomputable def letters_s3 (c_need_form : Nat) (c_need_hand : Nat) (x_NoLetter : S) (x_GotTwice : S) : Ss := (.cons (.assign 4 (.idx (.var 1) (.var 3)))
  (.cons (.expr (.call c_need_form (.cons (.var 4) .nil)))
  (.cons (.expr (.call c_need_hand (.cons (.var 0) (.cons (.idx (.var 4) (.int 1)) .nil))))
  (.cons (.ite (.cmp .Eq (.idx (.var 4) (.int 0)) (.str (Str.ofString "send"))) (letters_s1 c_need_hand) .nil)
  (.cons (.ite (.cmp .Eq (.idx (.var 4) (.int 0)) (.str (Str.ofString "got"))) (letters_s2 x_NoLetter x_GotTwice) .nil)
  .nil)))))
noncomputable def letters (g_HANDS : Nat) (x_NoHands : S) (g_ROWS : Nat) (x_TooMany : S) (c_need_form : Nat) (c_need_hand : Nat) (x_NoLetter : S) (x_GotTwice : S) : Fn := ⟨2, 6, (.cons (.ite (.not (.cmp2 .LtE .LtE (.int 1) (.var 0) (.glob g_HANDS))) (.cons x_NoHands
  .nil) .nil)
  (.cons (.ite (.cmp .Gt (.len (.var 1)) (.glob g_ROWS)) (.cons x_TooMany
  .nil) .nil)
  (.cons (.assign 2 (.list .nil))
  (.cons (.for 3 (.range (.len (.var 1))) (letters_s3 c_need_form c_need_hand x_NoLetter x_GotTwice))
  (.cons (.ret (.var 2))
  .nil)))))⟩
/- ends_of: [(0, 'hands'), (1, 'rows'), (2, 'found'), (3, 'place')]; comprehensions [('hand', 4), ('own', 5)] -/
noncomputable def ends_of  : Fn := ⟨2, 6, (.cons (.assign 2 (.comp (.list (.cons (.int 0) .nil)) 4 (.range (.var 0))))
  (.cons (.for 3 (.range (.len (.var 1))) (.cons (.ite (.cmp .Eq (.idx (.idx (.var 1) (.var 3)) (.int 0)) (.str (Str.ofString "note"))) (.cons (.append (.idx (.var 2) (.idx (.idx (.var 1) (.var 3)) (.int 1))) (.bin .Add (.var 3) (.int 1)))
  .nil) .nil)
  .nil))
  (.cons (.ret (.comp (.bin .Add (.var 5) (.list (.cons (.len (.var 1)) .nil))) 5 (.seq (.var 2))))
  .nil)))⟩
/- ends: [(0, 'hands'), (1, 'rows')]; comprehensions [] -/
noncomputable def ends (c_letters : Nat) (c_ends_of : Nat) : Fn := ⟨2, 2, (.cons (.expr (.call c_letters (.cons (.var 0) (.cons (.var 1) .nil))))
  (.cons (.ret (.call c_ends_of (.cons (.var 0) (.cons (.var 1) .nil))))
  .nil))⟩
/- kept_up_to: [(0, 'known'), (1, 'line')]; comprehensions [('hand', 2)] -/
noncomputable def kept_up_to  : Fn := ⟨2, 3, (.cons (.ret (.comp (.idx (.idx (.var 0) (.var 2)) (.idx (.var 1) (.var 2))) 2 (.range (.len (.var 1)))))
  .nil)⟩
/- strays_by: [(0, 'sent'), (1, 'far'), (2, 'found'), (3, 'letter'), (4, 'row')]; comprehensions [] -/
noncomputable def strays_by_s1  : Ss := (.cons (.assign 4 (.idx (.var 0) (.var 3)))
  (.cons (.ite (.and (.cmp .IsNot (.idx (.var 4) (.int 3)) .none) (.and (.cmp .Lt (.idx (.var 4) (.int 3)) (.idx (.var 1) (.idx (.var 4) (.int 1)))) (.cmp .GtE (.idx (.var 4) (.int 2)) (.idx (.var 1) (.idx (.var 4) (.int 0)))))) (.cons (.append (.var 2) (.var 3))
  .nil) .nil)
  .nil))
noncomputable def strays_by  : Fn := ⟨2, 5, (.cons (.assign 2 (.list .nil))
  (.cons (.for 3 (.range (.len (.var 0))) (strays_by_s1))
  (.cons (.ret (.var 2))
  .nil)))⟩
/- top_line: [(0, 'hands'), (1, 'rows'), (2, 'fallen'), (3, 'known'), (4, 'hand'), (5, 'found')]; comprehensions [] -/
noncomputable def top_line (c_ends : Nat) (c_need_hand : Nat) : Fn := ⟨3, 6, (.cons (.assign 3 (.call c_ends (.cons (.var 0) (.cons (.var 1) .nil))))
  (.cons (.for 4 (.seq (.var 2)) (.cons (.expr (.call c_need_hand (.cons (.var 0) (.cons (.var 4) .nil))))
  .nil))
  (.cons (.assign 5 (.list .nil))
  (.cons (.for 4 (.range (.var 0)) (.cons (.ite (.cmp .In (.var 4) (.var 2)) (.cons (.append (.var 5) (.bin .Sub (.len (.idx (.var 3) (.var 4))) (.int 2)))
  .nil) (.cons (.append (.var 5) (.bin .Sub (.len (.idx (.var 3) (.var 4))) (.int 1)))
  .nil))
  .nil))
  (.cons (.ret (.var 5))
  .nil)))))⟩
/- number_ahead: [(0, 'own'), (1, 'place'), (2, 'number')]; comprehensions [] -/
noncomputable def number_ahead  : Fn := ⟨2, 3, (.cons (.assign 2 (.bin .Sub (.len (.var 0)) (.int 1)))
  (.cons (.while (.cmp .Gt (.idx (.var 0) (.var 2)) (.var 1)) (.cons (.assign 2 (.bin .Sub (.var 2) (.int 1)))
  .nil))
  (.cons (.ret (.var 2))
  .nil)))⟩
/- lowered: [(0, 'hands'), (1, 'rows'), (2, 'line'), (3, 'known'), (4, 'sent'), (5, 'here'), (6, 'found'), (7, 'bad'), (8, 'letter'), (9, 'hand')]; comprehensions [] -/
noncomputable def lowered_s1 (c_number_ahead : Nat) (c_strays_by : Nat) (c_kept_up_to : Nat) : Ss := (.cons (.assign 8 (.idx (.var 7) (.int 0)))
  (.cons (.assign 9 (.idx (.idx (.var 4) (.var 8)) (.int 1)))
  (.cons (.setItem (.var 5) (.var 9) (.call c_number_ahead (.cons (.idx (.var 3) (.var 9)) (.cons (.idx (.idx (.var 4) (.var 8)) (.int 3)) .nil))))
  (.cons (.append (.var 6) (.tup (.cons (.var 8) (.cons (.var 9) (.cons (.idx (.var 5) (.var 9)) .nil)))))
  (.cons (.assign 7 (.call c_strays_by (.cons (.var 4) (.cons (.call c_kept_up_to (.cons (.var 3) (.cons (.var 5) .nil))) .nil))))
  .nil)))))
noncomputable def lowered (c_ends : Nat) (c_letters : Nat) (c_strays_by : Nat) (c_kept_up_to : Nat) (c_number_ahead : Nat) : Fn := ⟨3, 10, (.cons (.assign 3 (.call c_ends (.cons (.var 0) (.cons (.var 1) .nil))))
  (.cons (.assign 4 (.call c_letters (.cons (.var 0) (.cons (.var 1) .nil))))
  (.cons (.assign 5 (.listOf (.var 2)))
  (.cons (.assign 6 (.list .nil))
  (.cons (.assign 7 (.call c_strays_by (.cons (.var 4) (.cons (.call c_kept_up_to (.cons (.var 3) (.cons (.var 5) .nil))) .nil))))
  (.cons (.while (.cmp .NotEq (.var 7) (.list .nil)) (lowered_s1 c_number_ahead c_strays_by c_kept_up_to))
  (.cons (.ret (.tup (.cons (.var 6) (.cons (.var 5) .nil))))
  .nil)))))))⟩
/- steps: [(0, 'hands'), (1, 'rows'), (2, 'fallen')]; comprehensions [] -/
noncomputable def steps (c_lowered : Nat) (c_top_line : Nat) : Fn := ⟨3, 3, (.cons (.ret (.idx (.call c_lowered (.cons (.var 0) (.cons (.var 1) (.cons (.call c_top_line (.cons (.var 0) (.cons (.var 1) (.cons (.var 2) .nil)))) .nil)))) (.int 0)))
  .nil)⟩
/- last_line: [(0, 'hands'), (1, 'rows'), (2, 'fallen')]; comprehensions [] -/
noncomputable def last_line (c_lowered : Nat) (c_top_line : Nat) : Fn := ⟨3, 3, (.cons (.ret (.idx (.call c_lowered (.cons (.var 0) (.cons (.var 1) (.cons (.call c_top_line (.cons (.var 0) (.cons (.var 1) (.cons (.var 2) .nil)))) .nil)))) (.int 1)))
  .nil)⟩
/- _law_cell_at: [(0, '_law_script'), (1, '_law_k')]; comprehensions [] -/
noncomputable def L_cell_at  : Fn := ⟨2, 2, (.cons (.ite (.cmp .Lt (.var 1) (.len (.var 0))) (.cons (.ret (.idx (.var 0) (.var 1)))
  .nil) .nil)
  (.cons (.ret (.int 0))
  .nil))⟩
/- _law_hands_by: [(0, '_law_cell')]; comprehensions [] -/
noncomputable def L_hands_by  : Fn := ⟨1, 1, (.cons (.ite (.cmp .Eq (.bin .Mod (.bin .FloorDiv (.var 0) (.int 5)) (.int 8)) (.int 1)) (.cons (.ret (.bin .Add (.int 1) (.bin .Mod (.bin .FloorDiv (.var 0) (.int 40)) (.int 40))))
  .nil) .nil)
  (.cons (.ret (.bin .Add (.int 1) (.bin .Mod (.var 0) (.int 5))))
  .nil))⟩
/- _law_cells_by: [(0, '_law_script'), (1, '_law_first'), (2, '_law_size'), (3, '_law_many')]; comprehensions [('_law_k', 4)] -/
noncomputable def L_cells_by_1236_s1  : Ss := (.cons (.assign 3 (.bin .Add (.bin .Mod (.bin .FloorDiv (.var 2) (.int 4)) (.int 61)) (.bin .Mult (.int 100) (.bin .FloorDiv (.bin .Mod (.bin .FloorDiv (.var 2) (.int 244)) (.int 8)) (.int 7)))))
  (.cons (.ret (.comp (.bin .Mod (.bin .Mult (.bin .Add (.bin .FloorDiv (.var 2) (.int 4)) (.bin .Mult (.int 104729) (.var 4))) (.int 48271)) (.int 2147483647)) 4 (.range (.var 3))))
  .nil))
noncomputable def L_cells_by_1236 (c__law_cell_at : Nat) : Fn := ⟨2, 5, (.cons (.assign 2 (.call c__law_cell_at (.cons (.var 0) (.cons (.int 1) .nil))))
  (.cons (.ite (.cmp .Eq (.bin .Mod (.var 2) (.int 4)) (.int 1)) (L_cells_by_1236_s1) .nil)
  (.cons (.ret (.sl (.var 0) (.var 1) (.bin .Add (.var 1) (.int 960))))
  .nil)))⟩
/- _law_rows_by: [(0, '_law_cells'), (1, '_law_hands'), (2, '_law_rows'), (3, '_law_sent'), (4, '_law_waits'), (5, '_law_cell'), (6, '_law_kind'), (7, '_law_more'), (8, '_law_letter')]; comprehensions [('_law_one', 9)] -/
noncomputable def L_rows_by_s1  : Ss := (.cons (.assign 8 (.idx (.var 4) (.bin .Mod (.var 7) (.len (.var 4)))))
  (.cons (.assign 4 (.compIf (.var 9) 9 (.seq (.var 4)) (.cmp .NotEq (.var 9) (.var 8))))
  (.cons (.append (.var 2) (.tup (.cons (.str (Str.ofString "got")) (.cons (.idx (.var 3) (.var 8)) (.cons (.var 8) .nil)))))
  .nil)))
noncomputable def L_rows_by_s2  : Ss := (.cons (.append (.var 2) (.tup (.cons (.str (Str.ofString "send")) (.cons (.bin .Mod (.var 7) (.var 1)) (.cons (.bin .Mod (.bin .FloorDiv (.var 7) (.var 1)) (.var 1)) .nil)))))
  (.cons (.append (.var 4) (.len (.var 3)))
  (.cons (.append (.var 3) (.bin .Mod (.bin .FloorDiv (.var 7) (.var 1)) (.var 1)))
  .nil)))
noncomputable def L_rows_by_s3  : Ss := (.cons (.assign 6 (.bin .Mod (.var 5) (.int 8)))
  (.cons (.assign 7 (.bin .FloorDiv (.var 5) (.int 8)))
  (.cons (.ite (.cmp .Gt (.var 6) (.int 5)) (.cons (.append (.var 2) (.tup (.cons (.str (Str.ofString "note")) (.cons (.bin .Mod (.var 7) (.var 1)) .nil))))
  .nil) (.cons (.ite (.and (.cmp .Gt (.var 6) (.int 2)) (.cmp .NotEq (.var 4) (.list .nil))) (L_rows_by_s1) (L_rows_by_s2))
  .nil))
  .nil)))
noncomputable def L_rows_by  : Fn := ⟨2, 10, (.cons (.assign 2 (.list .nil))
  (.cons (.assign 3 (.list .nil))
  (.cons (.assign 4 (.list .nil))
  (.cons (.for 5 (.seq (.var 0)) (L_rows_by_s3))
  (.cons (.ret (.var 2))
  .nil)))))⟩
/- _law_fallen_by: [(0, '_law_cell'), (1, '_law_hands'), (2, '_law_fallen')]; comprehensions [('_law_hand', 3)] -/
noncomputable def L_fallen_by_f2a7  : Fn := ⟨2, 4, (.cons (.assign 2 (.compIf (.var 3) 3 (.range (.var 1)) (.cmp .Eq (.bin .Mod (.bin .Mod (.bin .Mult (.bin .Add (.var 0) (.bin .Mult (.int 7919) (.var 3))) (.int 48271)) (.int 2147483647)) (.int 3)) (.int 0))))
  (.cons (.ite (.cmp .Eq (.bin .Mod (.var 0) (.int 7)) (.int 1)) (.cons (.assign 2 (.listRange (.var 1)))
  .nil) .nil)
  (.cons (.ite (.cmp .Eq (.bin .Mod (.var 0) (.int 7)) (.int 2)) (.cons (.assign 2 (.list .nil))
  .nil) .nil)
  (.cons (.ite (.cmp .Eq (.bin .Mod (.bin .FloorDiv (.var 0) (.int 7)) (.int 2)) (.int 1)) (.cons (.assign 2 (.listRev (.var 2)))
  .nil) .nil)
  (.cons (.ite (.cmp .Eq (.bin .Mod (.bin .FloorDiv (.var 0) (.int 14)) (.int 5)) (.int 1)) (.cons (.assign 2 (.bin .Add (.var 2) (.slTo (.var 2) (.int 1))))
  .nil) .nil)
  (.cons (.ret (.var 2))
  .nil))))))⟩
/- _law_whole: [(0, '_law_found')]; comprehensions [] -/
noncomputable def L_whole  : Fn := ⟨1, 1, (.cons (.ret (.and (.isinst (.var 0) .int) (.not (.isinst (.var 0) .bool))))
  .nil)⟩
/- _law_wholes: [(0, '_law_found'), (1, '_law_due'), (2, '_law_k')]; comprehensions [] -/
noncomputable def L_wholes (c__law_whole : Nat) : Fn := ⟨2, 3, (.cons (.ite (.or (.not (.isinst (.var 0) .list)) (.cmp .NotEq (.len (.var 0)) (.len (.var 1)))) (.cons (.ret (.bool false))
  .nil) .nil)
  (.cons (.for 2 (.range (.len (.var 1))) (.cons (.ite (.or (.not (.call c__law_whole (.cons (.idx (.var 0) (.var 2)) .nil))) (.cmp .NotEq (.idx (.var 0) (.var 2)) (.idx (.var 1) (.var 2)))) (.cons (.ret (.bool false))
  .nil) .nil)
  .nil))
  (.cons (.ret (.bool true))
  .nil)))⟩
/- _law_ends_by: [(0, '_law_rows'), (1, '_law_hands'), (2, '_law_found'), (3, '_law_place')]; comprehensions [('_law_hand', 4), ('_law_own', 5)] -/
noncomputable def L_ends_by  : Fn := ⟨2, 6, (.cons (.assign 2 (.comp (.list (.cons (.int 0) .nil)) 4 (.range (.var 1))))
  (.cons (.for 3 (.range (.len (.var 0))) (.cons (.ite (.cmp .Eq (.idx (.idx (.var 0) (.var 3)) (.int 0)) (.str (Str.ofString "note"))) (.cons (.append (.idx (.var 2) (.idx (.idx (.var 0) (.var 3)) (.int 1))) (.bin .Add (.var 3) (.int 1)))
  .nil) .nil)
  .nil))
  (.cons (.ret (.comp (.bin .Add (.var 5) (.list (.cons (.len (.var 0)) .nil))) 5 (.seq (.var 2))))
  .nil)))⟩
/- _law_letters_by: [(0, '_law_rows'), (1, '_law_found'), (2, '_law_place')]; comprehensions [] -/
noncomputable def L_letters_by_8606_s1  : Ss := (.cons (.ite (.cmp .Eq (.idx (.idx (.var 0) (.var 2)) (.int 0)) (.str (Str.ofString "send"))) (.cons (.append (.var 1) (.list (.cons (.idx (.idx (.var 0) (.var 2)) (.int 1)) (.cons (.idx (.idx (.var 0) (.var 2)) (.int 2)) (.cons (.var 2) (.cons (.len (.var 0)) .nil))))))
  .nil) .nil)
  (.cons (.ite (.cmp .Eq (.idx (.idx (.var 0) (.var 2)) (.int 0)) (.str (Str.ofString "got"))) (.cons (.setItem (.idx (.var 1) (.idx (.idx (.var 0) (.var 2)) (.int 2))) (.int 3) (.var 2))
  .nil) .nil)
  .nil))
noncomputable def L_letters_by_8606  : Fn := ⟨1, 3, (.cons (.assign 1 (.list .nil))
  (.cons (.for 2 (.range (.len (.var 0))) (L_letters_by_8606_s1))
  (.cons (.ret (.var 1))
  .nil)))⟩
/- _law_first_stray: [(0, '_law_sendings'), (1, '_law_told'), (2, '_law_line'), (3, '_law_kept'), (4, '_law_k'), (5, '_law_one')]; comprehensions [('_law_hand', 6)] -/
noncomputable def L_first_stray_s1  : Ss := (.cons (.assign 5 (.idx (.var 0) (.var 4)))
  (.cons (.ite (.and (.cmp .Lt (.idx (.var 5) (.int 3)) (.idx (.var 3) (.idx (.var 5) (.int 1)))) (.cmp .GtE (.idx (.var 5) (.int 2)) (.idx (.var 3) (.idx (.var 5) (.int 0))))) (.cons (.ret (.var 4))
  .nil) .nil)
  .nil))
noncomputable def L_first_stray  : Fn := ⟨3, 7, (.cons (.assign 3 (.comp (.idx (.idx (.var 1) (.var 6)) (.idx (.var 2) (.var 6))) 6 (.range (.len (.var 1)))))
  (.cons (.for 4 (.range (.len (.var 0))) (L_first_stray_s1))
  (.cons (.ret .none)
  .nil)))⟩
/- _law_good_step: [(0, '_law_step'), (1, '_law_sendings'), (2, '_law_told'), (3, '_law_line'), (4, '_law_first'), (5, '_law_own')]; comprehensions [] -/
noncomputable def L_good_step (c__law_first_stray : Nat) (c__law_whole : Nat) : Fn := ⟨4, 6, (.cons (.assign 4 (.call c__law_first_stray (.cons (.var 1) (.cons (.var 2) (.cons (.var 3) .nil)))))
  (.cons (.ite (.or (.cmp .Is (.var 4) .none) (.or (.not (.isinst (.var 0) .tuple)) (.cmp .NotEq (.len (.var 0)) (.int 3)))) (.cons (.ret (.bool false))
  .nil) .nil)
  (.cons (.ite (.or (.not (.call c__law_whole (.cons (.idx (.var 0) (.int 0)) .nil))) (.or (.not (.call c__law_whole (.cons (.idx (.var 0) (.int 1)) .nil))) (.not (.call c__law_whole (.cons (.idx (.var 0) (.int 2)) .nil))))) (.cons (.ret (.bool false))
  .nil) .nil)
  (.cons (.ite (.or (.cmp .NotEq (.idx (.var 0) (.int 0)) (.var 4)) (.cmp .NotEq (.idx (.var 0) (.int 1)) (.idx (.idx (.var 1) (.var 4)) (.int 1)))) (.cons (.ret (.bool false))
  .nil) .nil)
  (.cons (.assign 5 (.idx (.var 2) (.idx (.var 0) (.int 1))))
  (.cons (.ite (.or (.cmp .Lt (.idx (.var 0) (.int 2)) (.int 0)) (.cmp .GtE (.bin .Add (.idx (.var 0) (.int 2)) (.int 1)) (.len (.var 5)))) (.cons (.ret (.bool false))
  .nil) .nil)
  (.cons (.ret (.and (.cmp .LtE (.idx (.var 5) (.idx (.var 0) (.int 2))) (.idx (.idx (.var 1) (.var 4)) (.int 3))) (.cmp .Gt (.idx (.var 5) (.bin .Add (.idx (.var 0) (.int 2)) (.int 1))) (.idx (.idx (.var 1) (.var 4)) (.int 3)))))
  .nil)))))))⟩
/- law: [(0, '_law_script'), (1, '_law_hands'), (2, '_law_rows'), (3, '_law_fallen'), (4, '_law_told'), (5, '_law_sendings'), (6, '_law_line'), (7, '_law_handed'), (8, '_law_given'), (9, '_law_chain'), (10, '_law_step')]; comprehensions [('_law_hand', 11)] -/
noncomputable def law_99ac_s1 (c__law_good_step : Nat) : Ss := (.cons (.ite (.not (.call c__law_good_step (.cons (.var 10) (.cons (.var 5) (.cons (.var 4) (.cons (.var 6) .nil)))))) (.cons (.ret (.bool false))
  .nil) .nil)
  (.cons (.setItem (.var 6) (.idx (.var 10) (.int 1)) (.idx (.var 10) (.int 2)))
  .nil))
noncomputable def law_99ac (c__law_hands_by : Nat) (c__law_cell_at : Nat) (c__law_rows_by : Nat) (c__law_cells_by : Nat) (c__law_fallen_by : Nat) (c__law_ends_by : Nat) (c__law_letters_by : Nat) (c__law_wholes : Nat) (c_top_line : Nat) (c_steps : Nat) (c__law_good_step : Nat) (c__law_first_stray : Nat) (c_last_line : Nat) : Fn := ⟨1, 12, (.cons (.assign 1 (.call c__law_hands_by (.cons (.call c__law_cell_at (.cons (.var 0) (.cons (.int 0) .nil))) .nil)))
  (.cons (.assign 2 (.call c__law_rows_by (.cons (.call c__law_cells_by (.cons (.var 0) (.cons (.int 3) .nil))) (.cons (.var 1) .nil))))
  (.cons (.assign 3 (.call c__law_fallen_by (.cons (.call c__law_cell_at (.cons (.var 0) (.cons (.int 2) .nil))) (.cons (.var 1) .nil))))
  (.cons (.assign 4 (.call c__law_ends_by (.cons (.var 2) (.cons (.var 1) .nil))))
  (.cons (.assign 5 (.call c__law_letters_by (.cons (.var 2) .nil)))
  (.cons (.assign 6 (.comp (.bin .Sub (.bin .Sub (.len (.idx (.var 4) (.var 11))) (.int 1)) (.toInt (.cmp .In (.var 11) (.var 3)))) 11 (.range (.var 1))))
  (.cons (.assign 7 (.listOf (.var 2)))
  (.cons (.assign 8 (.listOf (.var 3)))
  (.cons (.ite (.not (.call c__law_wholes (.cons (.call c_top_line (.cons (.var 1) (.cons (.var 7) (.cons (.var 8) .nil)))) (.cons (.var 6) .nil)))) (.cons (.ret (.bool false))
  .nil) .nil)
  (.cons (.assign 9 (.call c_steps (.cons (.var 1) (.cons (.var 7) (.cons (.var 8) .nil)))))
  (.cons (.ite (.not (.isinst (.var 9) .list)) (.cons (.ret (.bool false))
  .nil) .nil)
  (.cons (.for 10 (.seq (.var 9)) (law_99ac_s1 c__law_good_step))
  (.cons (.ite (.cmp .IsNot (.call c__law_first_stray (.cons (.var 5) (.cons (.var 4) (.cons (.var 6) .nil)))) .none) (.cons (.ret (.bool false))
  .nil) .nil)
  (.cons (.ret (.and (.call c__law_wholes (.cons (.call c_last_line (.cons (.var 1) (.cons (.var 7) (.cons (.var 8) .nil)))) (.cons (.var 6) .nil))) (.and (.cmp .Eq (.var 7) (.var 2)) (.cmp .Eq (.var 8) (.var 3)))))
  .nil))))))))))))))⟩
end B
end Mine

namespace Mine
open PySem

section
variable {ns : List Int} {G : List Int} {P : List Fn} {C : Nat → List V → Store → R V} {N : Nat} {σ : Store} {ρ : Loc}

theorem callF_eq {d k : Nat} {f : Fn} {args : List V} (h : P[k]? = some f) (hn : args.length = f.nparams) :
    callF ns G P N (d + 1) k args σ = (exSs ns G (callF ns G P N d) N f.body (args.map some ++ List.replicate (f.nslots - f.nparams) Option.none) σ).bind fun fr σ1 => match fr.1 with
          | .next => .ok .none σ1
          | .ret v => .ok v σ1 := by
  show (match P[k]? with | some f => (if args.length = f.nparams then (exSs ns G (callF ns G P N d) N f.body (args.map some ++ List.replicate (f.nslots - f.nparams) Option.none) σ).bind (fun fr σ1 => match fr.1 with | .next => .ok V.none σ1 | .ret v => .ok v σ1) else .stuck) | .none => .stuck) = _
  rw [h]
  exact if_pos hn

/-- what a call of a def gives: it runs its body -/
theorem ok_call {d k : Nat} {f : Fn} {args : List V} {Q : V → Store → Prop} (h : P[k]? = some f) (hn : args.length = f.nparams)
    (hb : Ok (exSs ns G (callF ns G P N d) N f.body (args.map some ++ List.replicate (f.nslots - f.nparams) Option.none) σ) (Back Q)) :
    Ok (callF ns G P N (d + 1) k args σ) Q := by
  rw [callF_eq h hn, Ok_bind]
  refine hb.mono fun fr σ1 h1 => ?_
  obtain ⟨f, ρ1⟩ := fr
  cases f <;> exact h1

theorem Ok_R {α : Type} {r : R α} {a : α} : Ok r (fun b τ => τ = σ ∧ b = a) ↔ r = .ok a σ := by
  cases r with
  | ok b τ => simp [Ok]; constructor <;> (rintro ⟨rfl, rfl⟩; exact ⟨rfl, rfl⟩)
  | _ => simp [Ok]

theorem sizeMax_eq : sizeMax = 1048576 := rfl

/- arithmetic -/
theorem bin_add {a b : Int} : binV .Add (.int a) (.int b) σ = .ok (.int (a + b)) σ := rfl
theorem bin_sub {a b : Int} : binV .Sub (.int a) (.int b) σ = .ok (.int (a - b)) σ := rfl
theorem bin_mod {a b : Int} (h : b ≠ 0) : binV .Mod (.int a) (.int b) σ = .ok (.int (a.fmod b)) σ := by
  show (if b ≠ 0 then R.ok (V.int (a.fmod b)) σ else R.stuck) = _
  rw [if_pos h]
theorem bin_fdiv {a b : Int} (h : 0 < b) (h' : b < 18446744073709551616) : binV .FloorDiv (.int a) (.int b) σ = .ok (.int (a.fdiv b)) σ := by
  show (if b ≠ 0 ∧ -big < b ∧ b < big then R.ok (V.int (a.fdiv b)) σ else R.stuck) = _
  rw [if_pos]
  have : big = 1809251394333065553493296640760748560207343510400633813116524750123642650624 := by decide +kernel
  omega
theorem bin_mulL {a b : Int} (h : -18446744073709551616 < a) (h' : a < 18446744073709551616) : binV .Mult (.int a) (.int b) σ = .ok (.int (a * b)) σ := by
  show (if (-(2 ^ 64) < a ∧ a < 2 ^ 64) ∨ (-(2 ^ 64) < b ∧ b < 2 ^ 64) ∨ (-big < a ∧ a < big ∧ -big < b ∧ b < big) then R.ok (V.int (a * b)) σ else R.stuck) = _
  rw [if_pos (.inl ⟨h, h'⟩)]
theorem bin_mulR {a b : Int} (h : -18446744073709551616 < b) (h' : b < 18446744073709551616) : binV .Mult (.int a) (.int b) σ = .ok (.int (a * b)) σ := by
  show (if (-(2 ^ 64) < a ∧ a < 2 ^ 64) ∨ (-(2 ^ 64) < b ∧ b < 2 ^ 64) ∨ (-big < a ∧ a < big ∧ -big < b ∧ b < big) then R.ok (V.int (a * b)) σ else R.stuck) = _
  rw [if_pos (.inr (.inl ⟨h, h'⟩))]
theorem fmod_lo {a b : Int} (h : 0 < b) : 0 ≤ a.fmod b := by rw [Int.fmod_eq_emod_of_nonneg a (by omega)]; exact Int.emod_nonneg a (by omega)
theorem fmod_hi {a b : Int} (h : 0 < b) : a.fmod b < b := by rw [Int.fmod_eq_emod_of_nonneg a (by omega)]; exact Int.emod_lt_of_pos a h

/- items -/
theorem idx_list {j : Nat} {vs : List V} {k : Nat} {v : V} (h : σ[j]? = some (.list vs)) (hv : vs[k]? = some v) : idxV ns (.ref j) (.int (k : Int)) σ = .ok v σ := by
  simp only [idxV, h, itemAt]
  rw [if_pos (by omega), Int.toNat_natCast, hv]
theorem len_list {j : Nat} {vs : List V} (h : σ[j]? = some (.list vs)) : lenV ns (.ref j) σ = .ok (.int (vs.length : Int)) σ := by
  simp only [lenV, h]

noncomputable def cellAt (ns : List Int) (k : Int) : Int := (ns[k.toNat]?).getD 0

theorem len_scr : lenV ns .scr σ = .ok (.int (ns.length : Int)) σ := rfl
theorem cell_at_ok {d k : Nat} {i : Int} (h : P[k]? = some B.L_cell_at) (hi : 0 ≤ i) : callF ns G P N (d + 1) k [.scr, .int i] σ = .ok (.int (cellAt ns i)) σ := by
  rw [← Ok_R]
  refine ok_call h rfl ?_
  by_cases hl : i < ns.length
  · have hn : i.toNat < ns.length := by omega
    have e : idxV ns .scr (.int i) σ = .ok (.int (cellAt ns i)) σ := by
      show (match (if 0 ≤ i then ns[i.toNat]? else .none) with | some x => R.ok (V.int x) σ | .none => R.stuck) = _
      rw [if_pos hi, cellAt, List.getElem?_eq_getElem hn]
      rfl
    simp only [B.L_cell_at, Ok_seq, Then_next, Then_ret, Turn_next, Turn_ret, Back_next, Back_ret, Ok_ite, Ok_and, Ok_or, Ok_cmp2, Ok_bind, Ok_ok, ev_none, ev_bool, ev_int, ev_str, ev_var, ev_glob, ev_fn, ev_bin, ev_neg, ev_not, ev_cmp, ev_list, ev_tup, ev_dictS, ev_dictI, ev_idx, ev_sl, ev_slFrom, ev_slTo, ev_call, ev_len, ev_listOf, ev_listRange, ev_listRev, ev_isinst, ev_toInt, ev_max, ev_min, ev_sum, ev_nil, ev_cons, ex_assign, ex_setItem, ex_append, ex_clear, ex_expr, ex_ret, ex_nil, bind_ok, ofB_some, cm_Eq, cm_NotEq, cm_Lt, cm_LtE, cm_Gt, cm_GtE, cm_Is, cm_IsNot, cm_In, cm_NotIn, eq_ii, eq_ss, eq_bb, eq_rr, eq_tt, eq_nx, eq_in, no_none, no_int, no_ref, no_tup, ist_ii, ist_ib, ist_bb, ist_tt, ist_ss, V.bool.injEq, F.ret.injEq, reduceCtorEq, and_true, true_and, false_and, and_false, or_false, false_or, exists_eq_left', decide_eq_true_eq, decide_eq_false_iff_not, exists_false, exists_const, Option.some.injEq, Bool.not_eq_true', Bool.not_eq_false', Bool.true_eq_false, Bool.false_eq_true, beq_iff_eq, beq_eq_false_iff_ne, ne_eq, not_true_eq_false, not_false_eq_true, Option.map_some, Bool.not_true, Bool.not_false, beq_self_eq_true, List.map_cons, List.map_nil, List.replicate_succ, List.replicate_zero, List.cons_append, List.nil_append, List.getElem?_cons_zero, List.getElem?_cons_succ, List.set_cons_zero, List.set_cons_succ, Nat.reduceSub, Nat.reduceAdd, List.length_cons, List.length_nil, Nat.zero_add, Nat.reduceLeDiff, if_true, if_false, len_scr, hl, e]
  · have hn : ns.length ≤ i.toNat := by omega
    have e : cellAt ns i = 0 := by rw [cellAt, List.getElem?_eq_none hn]; rfl
    simp only [B.L_cell_at, Ok_seq, Then_next, Then_ret, Turn_next, Turn_ret, Back_next, Back_ret, Ok_ite, Ok_and, Ok_or, Ok_cmp2, Ok_bind, Ok_ok, ev_none, ev_bool, ev_int, ev_str, ev_var, ev_glob, ev_fn, ev_bin, ev_neg, ev_not, ev_cmp, ev_list, ev_tup, ev_dictS, ev_dictI, ev_idx, ev_sl, ev_slFrom, ev_slTo, ev_call, ev_len, ev_listOf, ev_listRange, ev_listRev, ev_isinst, ev_toInt, ev_max, ev_min, ev_sum, ev_nil, ev_cons, ex_assign, ex_setItem, ex_append, ex_clear, ex_expr, ex_ret, ex_nil, bind_ok, ofB_some, cm_Eq, cm_NotEq, cm_Lt, cm_LtE, cm_Gt, cm_GtE, cm_Is, cm_IsNot, cm_In, cm_NotIn, eq_ii, eq_ss, eq_bb, eq_rr, eq_tt, eq_nx, eq_in, no_none, no_int, no_ref, no_tup, ist_ii, ist_ib, ist_bb, ist_tt, ist_ss, V.bool.injEq, F.ret.injEq, reduceCtorEq, and_true, true_and, false_and, and_false, or_false, false_or, exists_eq_left', decide_eq_true_eq, decide_eq_false_iff_not, exists_false, exists_const, Option.some.injEq, Bool.not_eq_true', Bool.not_eq_false', Bool.true_eq_false, Bool.false_eq_true, beq_iff_eq, beq_eq_false_iff_ne, ne_eq, not_true_eq_false, not_false_eq_true, Option.map_some, Bool.not_true, Bool.not_false, beq_self_eq_true, List.map_cons, List.map_nil, List.replicate_succ, List.replicate_zero, List.cons_append, List.nil_append, List.getElem?_cons_zero, List.getElem?_cons_succ, List.set_cons_zero, List.set_cons_succ, Nat.reduceSub, Nat.reduceAdd, List.length_cons, List.length_nil, Nat.zero_add, Nat.reduceLeDiff, if_true, if_false, len_scr, hl, e]

/- equality of what stands in the store -/
theorem mapM_some {α β : Type} {f : α → Option β} {g : α → β} : ∀ {l : List α}, (∀ x ∈ l, f x = some (g x)) → l.mapM f = some (l.map g)
  | [], _ => rfl
  | x :: l, h => by
    rw [List.mapM_cons, h x List.mem_cons_self, mapM_some fun y hy => h y (List.mem_cons_of_mem _ hy)]
    rfl
theorem eqvAll_of {α : Type} {f : α → PyData} {p : α → α → Bool} (h : ∀ a b, PyData.eqv (f a) (f b) = p a b) : ∀ (xs ys : List α), PyData.eqvAll (xs.map f) (ys.map f) = (xs.length == ys.length && (xs.zip ys).all fun q => p q.1 q.2)
  | [], [] => rfl
  | [], _ :: _ => rfl
  | _ :: _, [] => rfl
  | x :: xs, y :: ys => by
    simp only [List.map_cons, PyData.eqvAll, h, eqvAll_of h xs ys, List.length_cons, List.zip_cons_cons, List.all_cons]
    cases p x y <;> simp
theorem zip_all_eq {α : Type} [DecidableEq α] : ∀ (xs ys : List α), (xs.length == ys.length && (xs.zip ys).all fun q => decide (q.1 = q.2)) = decide (xs = ys)
  | [], [] => rfl
  | [], _ :: _ => by simp
  | _ :: _, [] => by simp
  | x :: xs, y :: ys => by
    have := zip_all_eq xs ys
    by_cases h : x = y
    · subst h; simpa using this
    · simp [h]
theorem eqvAll_dec {α : Type} [DecidableEq α] {f : α → PyData} (h : ∀ a b, PyData.eqv (f a) (f b) = decide (a = b)) (xs ys : List α) : PyData.eqvAll (xs.map f) (ys.map f) = decide (xs = ys) := by
  rw [eqvAll_of h]; exact zip_all_eq xs ys
theorem den_ref {n j : Nat} : den σ (n + 1) (.ref j) = match σ[j]? with | some (.list vs) => (vs.mapM (den σ n)).map .list | _ => none := rfl
theorem den_tup {n : Nat} {vs : List V} : den σ (n + 1) (.tup vs) = (vs.mapM (den σ n)).map .tuple := rfl
theorem den_int (n : Nat) (i : Int) : den σ n (.int i) = some (.int i) := by cases n <;> rfl
theorem den_str (n : Nat) (i : Str) : den σ n (.str i) = some (.str i) := by cases n <;> rfl
theorem den_list {n j : Nat} {α : Type} {f : α → V} {g : α → PyData} {xs : List α} (h : σ[j]? = some (.list (xs.map f))) (hd : ∀ x ∈ xs, den σ n (f x) = some (g x)) : den σ (n + 1) (.ref j) = some (.list (xs.map g)) := by
  rw [den_ref, h]
  simp only
  rw [List.mapM_map, mapM_some (g := g) (by simpa using hd)]
  rfl
theorem at_app {c : Cell} {i : Nat} {τ : Store} (h : σ[i]? = some c) : (σ ++ τ)[i]? = some c := by
  rw [List.getElem?_append_left (List.getElem?_eq_some_iff.mp h).1]; exact h
theorem at_end {c : Cell} : (σ ++ [c])[σ.length]? = some c := by simp
theorem at_pre {c : Cell} {i : Nat} {τ : Store} (h : σ[i]? = some c) (hp : σ <+: τ) : τ[i]? = some c := by
  obtain ⟨γ, rfl⟩ := hp; exact at_app h

/- comprehensions whose parts change nothing -/
theorem compL_pure {f : V → Store → R (Option V)} {g : V → Option V} : ∀ (xs : List V), (∀ v ∈ xs, f v σ = .ok (g v) σ) → compL f (xs.length + 1) (.vals xs) σ = .ok (xs.filterMap g) σ
  | [], _ => rfl
  | v :: xs, h => by
    rw [List.length_cons, compL]
    simp only [itNext]
    rw [h v List.mem_cons_self, bind_ok, compL_pure xs fun u hu => h u (List.mem_cons_of_mem _ hu), bind_ok, List.filterMap_cons]
    cases g v <;> rfl
theorem filterMap_some {α β : Type} {g : α → β} : ∀ (l : List α), l.filterMap (fun x => some (g x)) = l.map g
  | [] => rfl
  | x :: l => by simp [filterMap_some l]
theorem rangeV_mem {n : Nat} {v : V} (h : v ∈ rangeV n) : ∃ i : Nat, i < n ∧ v = .int (i : Int) := by
  simp only [rangeV, List.mem_map, List.mem_range] at h
  obtain ⟨i, hi, rfl⟩ := h
  exact ⟨i, hi, rfl⟩
theorem ev_comp_range {e elt : E} {x n : Nat} {g : Nat → V} (he : evE ns G C ρ e σ = .ok (.int (n : Int)) σ) (hn : n ≤ sizeMax) (hg : ∀ i : Nat, i < n → evE ns G C (ρ.set x (some (.int (i : Int)))) elt σ = .ok (g i) σ) :
    evE ns G C ρ (.comp elt x (.range e)) σ = .ok (.ref σ.length) (σ ++ [.list ((List.range n).map g)]) := by
  rw [ev_compR, evI_range, he, bind_ok]
  simp only
  rw [if_pos ⟨by omega, by omega⟩, bind_ok, Int.toNat_natCast]
  have key := compL_pure (σ := σ) (f := fun v τ => (evE ns G C (ρ.set x (some v)) elt τ).bind fun y τ1 => .ok (some y) τ1) (g := fun v => match v with | .int i => some (g i.toNat) | _ => none) (rangeV n) (fun v hv => by
    obtain ⟨i, hi, rfl⟩ := rangeV_mem hv
    simp only [hg i hi, bind_ok, Int.toNat_natCast])
  simp only [itFuel]
  rw [key, R.noErr, bind_ok]
  have e1 : (rangeV n).filterMap (fun v => match v with | .int i => some (g i.toNat) | _ => none) = (List.range n).map g := by
    rw [rangeV, List.filterMap_map]
    rw [show ((fun v => match v with | V.int i => some (g i.toNat) | _ => none) ∘ fun (i : Nat) => V.int (i : Int)) = fun i => some (g i) from by funext i; simp]
    exact filterMap_some _
  rw [e1, newL, if_pos (by simpa using hn)]
theorem ev_compIf_range {e elt c : E} {x n : Nat} {g : Nat → V} {b : Nat → Bool} (he : evE ns G C ρ e σ = .ok (.int (n : Int)) σ) (hn : n ≤ sizeMax) (hb : ∀ i : Nat, i < n → evE ns G C (ρ.set x (some (.int (i : Int)))) c σ = .ok (.bool (b i)) σ)
    (hg : ∀ i : Nat, i < n → b i = true → evE ns G C (ρ.set x (some (.int (i : Int)))) elt σ = .ok (g i) σ) :
    evE ns G C ρ (.compIf elt x (.range e) c) σ = .ok (.ref σ.length) (σ ++ [.list (((List.range n).filter b).map g)]) := by
  rw [ev_compIfR, evI_range, he, bind_ok]
  simp only
  rw [if_pos ⟨by omega, by omega⟩, bind_ok, Int.toNat_natCast]
  have key := compL_pure (σ := σ) (f := fun v τ => (evE ns G C (ρ.set x (some v)) c τ).bind fun b τ1 => match b with
          | .bool true => (evE ns G C (ρ.set x (some v)) elt τ1).bind fun y τ2 => .ok (some y) τ2
          | .bool false => .ok .none τ1
          | _ => .stuck) (g := fun v => match v with | .int i => (if b i.toNat = true then some (g i.toNat) else none) | _ => none) (rangeV n) (fun v hv => by
    obtain ⟨i, hi, rfl⟩ := rangeV_mem hv
    simp only [hb i hi, bind_ok, Int.toNat_natCast]
    cases hbi : b i with
    | true => simp only [hg i hi hbi, bind_ok, if_true]
    | false => simp)
  simp only [itFuel]
  refine Eq.trans (congrArg (fun r => (R.noErr r).bind newL) key) ?_
  simp only [R.noErr, bind_ok]
  have e1 : (rangeV n).filterMap (fun v => match v with | .int i => (if b i.toNat = true then some (g i.toNat) else none) | _ => none) = ((List.range n).filter b).map g := by
    rw [rangeV, List.filterMap_map]
    rw [show ((fun v => match v with | V.int i => (if b i.toNat = true then some (g i.toNat) else none) | _ => none) ∘ fun (i : Nat) => V.int (i : Int)) = fun i => if b i = true then some (g i) else none from by funext i; simp]
    generalize List.range n = l
    induction l with
    | nil => rfl
    | cons a l ih => cases h : b a <;> simp [h, ih]
  rw [e1, newL, if_pos (by
    have := List.length_filter_le b (List.range n)
    simp only [List.length_range] at this
    simp only [List.length_map]
    omega)]
theorem ev_compIf_seq {α : Type} {e elt c : E} {x j : Nat} {rv : α → V} {xs : List α} {g : α → V} {b : α → Bool} (he : evE ns G C ρ e σ = .ok (.ref j) σ) (hj : σ[j]? = some (.list (xs.map rv))) (hn : xs.length ≤ sizeMax)
    (hb : ∀ a ∈ xs, evE ns G C (ρ.set x (some (rv a))) c σ = .ok (.bool (b a)) σ) (hg : ∀ a ∈ xs, b a = true → evE ns G C (ρ.set x (some (rv a))) elt σ = .ok (g a) σ) :
    evE ns G C ρ (.compIf elt x (.seq e) c) σ = .ok (.ref σ.length) (σ ++ [.list ((xs.filter b).map g)]) := by
  rw [ev_compIfR, evI_seq, he, bind_ok]
  simp only [hj]
  rw [bind_ok]
  simp only [itFuel, hj]
  have key : Ok (compL (fun v τ => (evE ns G C (ρ.set x (some v)) c τ).bind fun b τ1 => match b with
          | .bool true => (evE ns G C (ρ.set x (some v)) elt τ1).bind fun y τ2 => .ok (some y) τ2
          | .bool false => .ok .none τ1
          | _ => .stuck) ((xs.map rv).length + 1) (.ref j 0) σ) (fun r σ1 => σ1 = σ ∧ r = ((xs.take (xs.map rv).length).filter b).map g) := by
    refine ok_comp_ref (σ := σ) (xs.map rv) (fun i acc τ => τ = σ ∧ acc = ((xs.take i).filter b).map g) (fun i acc τ h => by rw [h.1]; exact hj) (fun i v acc τ hv h => ?_) ⟨rfl, by simp⟩
    obtain ⟨rfl, rfl⟩ := h
    rw [List.getElem?_map] at hv
    cases ha : xs[i]? with
    | none => rw [ha] at hv; cases hv
    | some a =>
      rw [ha] at hv; cases hv
      have hm := List.mem_of_getElem? ha
      rw [Ok_bind]
      refine Ok.of (hb a hm) ?_
      rw [List.take_add_one, ha]
      cases hba : b a with
      | true =>
        simp only
        rw [Ok_bind]
        refine Ok.of (hg a hm hba) ?_
        rw [Ok_ok]
        simp [hba]
      | false =>
        rw [Ok_ok]
        simp [hba]
  obtain ⟨r, σ1, e1, rfl, rfl⟩ := key.ex
  refine Eq.trans (congrArg (fun r => (R.noErr r).bind newL) e1) ?_
  simp only [R.noErr, bind_ok, List.length_map, List.take_length]
  rw [newL, if_pos (by
    have := List.length_filter_le b xs
    simp only [List.length_map]
    omega)]
end
end Mine

namespace Mine
open PySem

/-- a row of a history -/
inductive Rw where
  | note (h : Nat)
  | send (a b : Nat)
  | got (h k : Nat)

structure Lt where
  fr : Nat
  to : Nat
  at0 : Nat
  got : Option Nat

noncomputable def Rw.hand : Rw → Nat
  | .note h => h
  | .send a _ => a
  | .got h _ => h

noncomputable def rv : Rw → V
  | .note h => .tup [.str (Str.ofString "note"), .int (h : Int)]
  | .send a b => .tup [.str (Str.ofString "send"), .int (a : Int), .int (b : Int)]
  | .got h k => .tup [.str (Str.ofString "got"), .int (h : Int), .int (k : Int)]
noncomputable def ov : Option Nat → V
  | none => .none
  | some g => .int (g : Int)
noncomputable def lv (l : Lt) : V := .tup [.int (l.fr : Int), .int (l.to : Int), .int (l.at0 : Int), ov l.got]

noncomputable def gotAt (p : Nat) (l : Lt) : Lt := { l with got := some p }
noncomputable def stepL (ls : List Lt) (p : Nat) : Rw → List Lt
  | .note _ => ls
  | .send a b => ls ++ [⟨a, b, p, none⟩]
  | .got _ k => ls.modify k (gotAt p)
noncomputable def lettersFrom (ls : List Lt) (p : Nat) : List Rw → List Lt
  | [] => ls
  | r :: rs => lettersFrom (stepL ls p r) (p + 1) rs
noncomputable def lettersOf (rows : List Rw) : List Lt := lettersFrom [] 0 rows

theorem lettersFrom_snoc : ∀ (rs : List Rw) (ls : List Lt) (p : Nat) (r : Rw), lettersFrom ls p (rs ++ [r]) = stepL (lettersFrom ls p rs) (p + rs.length) r
  | [], ls, p, r => rfl
  | x :: rs, ls, p, r => by
    rw [List.cons_append, lettersFrom, lettersFrom_snoc rs, lettersFrom]
    congr 1
    simp; omega
theorem letters_snoc (rs : List Rw) (r : Rw) : lettersOf (rs ++ [r]) = stepL (lettersOf rs) rs.length r := by
  have := lettersFrom_snoc rs [] 0 r
  simpa [lettersOf] using this
theorem letters_take {rows : List Rw} {i : Nat} {r : Rw} (h : rows[i]? = some r) : lettersOf (rows.take (i + 1)) = stepL (lettersOf (rows.take i)) i r := by
  rw [List.take_add_one, h, Option.toList_some, letters_snoc, List.length_take, Nat.min_eq_left (Nat.le_of_lt (List.getElem?_eq_some_iff.mp h).1)]

noncomputable def okRow (H : Nat) (ls : List Lt) : Rw → Prop
  | .note h => h < H
  | .send a b => a < H ∧ b < H
  | .got h k => h < H ∧ ∃ l, ls[k]? = some l ∧ l.to = h ∧ l.got = none

noncomputable def Hist (H : Nat) (rows : List Rw) : Prop := ∀ (i : Nat) r, rows[i]? = some r → okRow H (lettersOf (rows.take i)) r

theorem Hist.nil {H : Nat} : Hist H [] := fun i r h => by simp at h
theorem Hist.snoc {H : Nat} {rows : List Rw} {r : Rw} (h : Hist H rows) (hr : okRow H (lettersOf rows) r) : Hist H (rows ++ [r]) := by
  intro i x hx
  by_cases hi : i < rows.length
  · rw [List.getElem?_append_left hi] at hx
    rw [List.take_append_of_le_length (Nat.le_of_lt hi)]
    exact h i x hx
  · have hlt := (List.getElem?_eq_some_iff.mp hx).1
    simp at hlt
    have : i = rows.length := by omega
    subst this
    simp at hx
    subst hx
    simpa using hr
theorem okRow.hand {H : Nat} {ls : List Lt} {r : Rw} (h : okRow H ls r) : r.hand < H := by
  cases r with
  | note h' => exact h
  | send a b => exact h.1
  | got h' k => exact h.1

theorem bq_ns : (Str.ofString "note" == Str.ofString "send") = false := by decide
theorem bq_ng : (Str.ofString "note" == Str.ofString "got") = false := by decide
theorem bq_sn : (Str.ofString "send" == Str.ofString "note") = false := by decide
theorem bq_sg : (Str.ofString "send" == Str.ofString "got") = false := by decide
theorem bq_gn : (Str.ofString "got" == Str.ofString "note") = false := by decide
theorem bq_gs : (Str.ofString "got" == Str.ofString "send") = false := by decide
theorem ne_ns : (Str.ofString "note" = Str.ofString "send") = False := by decide
theorem ne_ng : (Str.ofString "note" = Str.ofString "got") = False := by decide
theorem ne_sn : (Str.ofString "send" = Str.ofString "note") = False := by decide
theorem ne_sg : (Str.ofString "send" = Str.ofString "got") = False := by decide
theorem ne_gn : (Str.ofString "got" = Str.ofString "note") = False := by decide
theorem ne_gs : (Str.ofString "got" = Str.ofString "send") = False := by decide

section
variable {ns : List Int} {G : List Int} {P : List Fn} {C : Nat → List V → Store → R V} {N : Nat} {σ τ : Store} {ρ : Loc}

theorem pre_set {j : Nat} {c : Cell} (h : σ <+: τ) (hj : σ.length ≤ j) : σ <+: τ.set j c := by
  obtain ⟨γ, rfl⟩ := h
  rw [List.set_append_right _ _ hj]
  exact List.prefix_append _ _
theorem pre_app {γ : Store} (h : σ <+: τ) : σ <+: τ ++ γ := h.trans (List.prefix_append _ _)
theorem pre_len (h : σ <+: τ) : σ.length ≤ τ.length := h.length_le
theorem at_set_ne {a b : Nat} {c d : Cell} (h : τ[b]? = some d) (hn : a ≠ b) : (τ.set a c)[b]? = some d := by rw [List.getElem?_set_ne hn]; exact h
theorem at_set {a : Nat} {c d : Cell} (h : τ[a]? = some d) : (τ.set a c)[a]? = some c := by rw [List.getElem?_set_self (List.getElem?_eq_some_iff.mp h).1]
theorem at_lt {a : Nat} {d : Cell} (h : τ[a]? = some d) : a < τ.length := (List.getElem?_eq_some_iff.mp h).1
theorem app_list {j : Nat} {vs : List V} {v : V} (h : τ[j]? = some (.list vs)) (hz : vs.length < sizeMax) : appV (.ref j) v τ = .ok () (τ.set j (.list (vs ++ [v]))) := by
  simp only [appV, h]; rw [if_pos hz]
theorem isL_list {j : Nat} {vs : List V} (h : τ[j]? = some (.list vs)) : isL (.ref j) τ = true := by simp only [isL, h]
theorem set_list {j k : Nat} {vs : List V} {v : V} (h : τ[j]? = some (.list vs)) (hk : k < vs.length) : setV (.ref j) (.int (k : Int)) v τ = .ok () (τ.set j (.list (vs.set k v))) := by
  simp only [setV, h]; rw [if_pos (by omega), Int.toNat_natCast]
theorem idx_map {α : Type} {j k : Nat} {f : α → V} {xs : List α} {a : α} (h : τ[j]? = some (.list (xs.map f))) (hk : xs[k]? = some a) : idxV ns (.ref j) (.int (k : Int)) τ = .ok (f a) τ :=
  idx_list h (by rw [List.getElem?_map, hk]; rfl)
theorem len_map {α : Type} {j : Nat} {f : α → V} {xs : List α} (h : τ[j]? = some (.list (xs.map f))) : lenV ns (.ref j) τ = .ok (.int (xs.length : Int)) τ := by rw [len_list h]; simp

/- items of a row -/
theorem idx_tup {vs : List V} {k : Nat} {v : V} (h : vs[k]? = some v) : idxV ns (.tup vs) (.int (k : Int)) τ = .ok v τ := by
  simp only [idxV, itemAt]; rw [if_pos (by omega), Int.toNat_natCast, h]
theorem idx_tup0 {a : V} {r : List V} : idxV ns (.tup (a :: r)) (.int 0) τ = .ok a τ := idx_tup (k := 0) rfl
theorem idx_tup1 {a b : V} {r : List V} : idxV ns (.tup (a :: b :: r)) (.int 1) τ = .ok b τ := idx_tup (k := 1) rfl
theorem idx_tup2 {a b c : V} {r : List V} : idxV ns (.tup (a :: b :: c :: r)) (.int 2) τ = .ok c τ := idx_tup (k := 2) rfl
theorem idx_tup3 {a b c e : V} {r : List V} : idxV ns (.tup (a :: b :: c :: e :: r)) (.int 3) τ = .ok e τ := idx_tup (k := 3) rfl

theorem need_hand_ok {d k H h : Nat} {x : S} (hp : P[k]? = some (B.need_hand x)) (hh : h < H) : callF ns G P N (d + 1) k [.int (H : Int), .int (h : Int)] σ = .ok .none σ := by
  rw [← Ok_R]
  refine ok_call hp rfl ?_
  have h1 : (0 : Int) ≤ (h : Int) := by omega
  have h2 : (h : Int) < (H : Int) := by omega
  simp only [B.need_hand, Ok_seq, Then_next, Then_ret, Turn_next, Turn_ret, Back_next, Back_ret, Ok_ite, Ok_and, Ok_or, Ok_cmp2, Ok_bind, Ok_ok, ev_none, ev_bool, ev_int, ev_str, ev_var, ev_glob, ev_fn, ev_bin, ev_neg, ev_not, ev_cmp, ev_list, ev_tup, ev_dictS, ev_dictI, ev_idx, ev_sl, ev_slFrom, ev_slTo, ev_call, ev_len, ev_listOf, ev_listRange, ev_listRev, ev_isinst, ev_toInt, ev_max, ev_min, ev_sum, ev_nil, ev_cons, ex_assign, ex_setItem, ex_append, ex_clear, ex_expr, ex_ret, ex_nil, bind_ok, ofB_some, cm_Eq, cm_NotEq, cm_Lt, cm_LtE, cm_Gt, cm_GtE, cm_Is, cm_IsNot, cm_In, cm_NotIn, eq_ii, eq_ss, eq_bb, eq_rr, eq_tt, eq_nx, eq_in, no_none, no_int, no_ref, no_tup, ist_ii, ist_ib, ist_bb, ist_tt, ist_ss, V.bool.injEq, F.ret.injEq, reduceCtorEq, and_true, true_and, false_and, and_false, or_false, false_or, exists_eq_left', decide_eq_true_eq, decide_eq_false_iff_not, exists_false, exists_const, Option.some.injEq, Bool.not_eq_true', Bool.not_eq_false', Bool.true_eq_false, Bool.false_eq_true, beq_iff_eq, beq_eq_false_iff_ne, ne_eq, not_true_eq_false, not_false_eq_true, Option.map_some, Bool.not_true, Bool.not_false, beq_self_eq_true, List.map_cons, List.map_nil, List.replicate_succ, List.replicate_zero, List.cons_append, List.nil_append, List.getElem?_cons_zero, List.getElem?_cons_succ, List.set_cons_zero, List.set_cons_succ, Nat.reduceSub, Nat.reduceAdd, List.length_cons, List.length_nil, Nat.zero_add, Nat.reduceLeDiff, if_true, if_false, h1, h2, decide_true, Bool.not_true, not_true_eq_false]

theorem len_tup2 {a b : V} : lenV ns (.tup [a, b]) τ = .ok (.int 2) τ := rfl
theorem len_tup3 {a b c : V} : lenV ns (.tup [a, b, c]) τ = .ok (.int 3) τ := rfl
theorem len_tup4 {a b c e : V} : lenV ns (.tup [a, b, c, e]) τ = .ok (.int 4) τ := rfl
theorem in_dictS {j : Nat} {x : Str} {kvs : List (Str × Int)} (h : τ[j]? = some (.dictS kvs)) : inV τ (.str x) (.ref j) = some (look x kvs).isSome := by simp only [inV, h]
theorem idx_dictS {j : Nat} {x : Str} {v : Int} {kvs : List (Str × Int)} (h : τ[j]? = some (.dictS kvs)) (hl : look x kvs = some v) : idxV ns (.ref j) (.str x) τ = .ok (.int v) τ := by simp only [idxV, h, hl]

theorem need_form_ok {d k : Nat} {x : S} {r : Rw} (hp : P[k]? = some (B.need_form x)) : Ok (callF ns G P N (d + 1) k [rv r] σ) (fun v σ' => v = .none ∧ σ <+: σ') := by
  refine ok_call hp rfl ?_
  have e0 : intsOf [V.int 3, V.int 3, V.int 2] = some [3, 3, 2] := rfl
  have e1 : ∀ c : Cell, (σ ++ [c])[σ.length]? = some c := fun c => at_end
  have e2 : ∀ c : Cell, σ <+: σ ++ [c] := fun c => List.prefix_append _ _
  have l1 : look (Str.ofString "note") [(Str.ofString "send", 3), (Str.ofString "got", 3), (Str.ofString "note", 2)] = some 2 := by decide
  have l2 : look (Str.ofString "send") [(Str.ofString "send", 3), (Str.ofString "got", 3), (Str.ofString "note", 2)] = some 3 := by decide
  have l3 : look (Str.ofString "got") [(Str.ofString "send", 3), (Str.ofString "got", 3), (Str.ofString "note", 2)] = some 3 := by decide
  cases r with
  | note h => simp only [B.need_form, Ok_seq, Then_next, Then_ret, Turn_next, Turn_ret, Back_next, Back_ret, Ok_ite, Ok_and, Ok_or, Ok_cmp2, Ok_bind, Ok_ok, ev_none, ev_bool, ev_int, ev_str, ev_var, ev_glob, ev_fn, ev_bin, ev_neg, ev_not, ev_cmp, ev_list, ev_tup, ev_dictS, ev_dictI, ev_idx, ev_sl, ev_slFrom, ev_slTo, ev_call, ev_len, ev_listOf, ev_listRange, ev_listRev, ev_isinst, ev_toInt, ev_max, ev_min, ev_sum, ev_nil, ev_cons, ex_assign, ex_setItem, ex_append, ex_clear, ex_expr, ex_ret, ex_nil, bind_ok, ofB_some, cm_Eq, cm_NotEq, cm_Lt, cm_LtE, cm_Gt, cm_GtE, cm_Is, cm_IsNot, cm_In, cm_NotIn, eq_ii, eq_ss, eq_bb, eq_rr, eq_tt, eq_nx, eq_in, no_none, no_int, no_ref, no_tup, ist_ii, ist_ib, ist_bb, ist_tt, ist_ss, V.bool.injEq, F.ret.injEq, reduceCtorEq, and_true, true_and, false_and, and_false, or_false, false_or, exists_eq_left', decide_eq_true_eq, decide_eq_false_iff_not, exists_false, exists_const, Option.some.injEq, Bool.not_eq_true', Bool.not_eq_false', Bool.true_eq_false, Bool.false_eq_true, beq_iff_eq, beq_eq_false_iff_ne, ne_eq, not_true_eq_false, not_false_eq_true, Option.map_some, Bool.not_true, Bool.not_false, beq_self_eq_true, List.map_cons, List.map_nil, List.replicate_succ, List.replicate_zero, List.cons_append, List.nil_append, List.getElem?_cons_zero, List.getElem?_cons_succ, List.set_cons_zero, List.set_cons_succ, Nat.reduceSub, Nat.reduceAdd, List.length_cons, List.length_nil, Nat.zero_add, Nat.reduceLeDiff, if_true, if_false, rv, ov, lv, idx_tup0, idx_tup1, idx_tup2, idx_tup3, ne_ns, ne_ng, ne_sn, ne_sg, ne_gn, ne_gs, len_tup2, len_tup3, len_tup4, e0, List.zip_cons_cons, List.zip_nil_right, in_dictS (e1 _), idx_dictS (e1 _) l1, l1, Option.isSome_some, e2]; exact .inr (by decide)
  | send a b => simp only [B.need_form, Ok_seq, Then_next, Then_ret, Turn_next, Turn_ret, Back_next, Back_ret, Ok_ite, Ok_and, Ok_or, Ok_cmp2, Ok_bind, Ok_ok, ev_none, ev_bool, ev_int, ev_str, ev_var, ev_glob, ev_fn, ev_bin, ev_neg, ev_not, ev_cmp, ev_list, ev_tup, ev_dictS, ev_dictI, ev_idx, ev_sl, ev_slFrom, ev_slTo, ev_call, ev_len, ev_listOf, ev_listRange, ev_listRev, ev_isinst, ev_toInt, ev_max, ev_min, ev_sum, ev_nil, ev_cons, ex_assign, ex_setItem, ex_append, ex_clear, ex_expr, ex_ret, ex_nil, bind_ok, ofB_some, cm_Eq, cm_NotEq, cm_Lt, cm_LtE, cm_Gt, cm_GtE, cm_Is, cm_IsNot, cm_In, cm_NotIn, eq_ii, eq_ss, eq_bb, eq_rr, eq_tt, eq_nx, eq_in, no_none, no_int, no_ref, no_tup, ist_ii, ist_ib, ist_bb, ist_tt, ist_ss, V.bool.injEq, F.ret.injEq, reduceCtorEq, and_true, true_and, false_and, and_false, or_false, false_or, exists_eq_left', decide_eq_true_eq, decide_eq_false_iff_not, exists_false, exists_const, Option.some.injEq, Bool.not_eq_true', Bool.not_eq_false', Bool.true_eq_false, Bool.false_eq_true, beq_iff_eq, beq_eq_false_iff_ne, ne_eq, not_true_eq_false, not_false_eq_true, Option.map_some, Bool.not_true, Bool.not_false, beq_self_eq_true, List.map_cons, List.map_nil, List.replicate_succ, List.replicate_zero, List.cons_append, List.nil_append, List.getElem?_cons_zero, List.getElem?_cons_succ, List.set_cons_zero, List.set_cons_succ, Nat.reduceSub, Nat.reduceAdd, List.length_cons, List.length_nil, Nat.zero_add, Nat.reduceLeDiff, if_true, if_false, rv, ov, lv, idx_tup0, idx_tup1, idx_tup2, idx_tup3, ne_ns, ne_ng, ne_sn, ne_sg, ne_gn, ne_gs, len_tup2, len_tup3, len_tup4, e0, List.zip_cons_cons, List.zip_nil_right, in_dictS (e1 _), idx_dictS (e1 _) l2, l2, Option.isSome_some, e2]; exact .inr (by decide)
  | got a b => simp only [B.need_form, Ok_seq, Then_next, Then_ret, Turn_next, Turn_ret, Back_next, Back_ret, Ok_ite, Ok_and, Ok_or, Ok_cmp2, Ok_bind, Ok_ok, ev_none, ev_bool, ev_int, ev_str, ev_var, ev_glob, ev_fn, ev_bin, ev_neg, ev_not, ev_cmp, ev_list, ev_tup, ev_dictS, ev_dictI, ev_idx, ev_sl, ev_slFrom, ev_slTo, ev_call, ev_len, ev_listOf, ev_listRange, ev_listRev, ev_isinst, ev_toInt, ev_max, ev_min, ev_sum, ev_nil, ev_cons, ex_assign, ex_setItem, ex_append, ex_clear, ex_expr, ex_ret, ex_nil, bind_ok, ofB_some, cm_Eq, cm_NotEq, cm_Lt, cm_LtE, cm_Gt, cm_GtE, cm_Is, cm_IsNot, cm_In, cm_NotIn, eq_ii, eq_ss, eq_bb, eq_rr, eq_tt, eq_nx, eq_in, no_none, no_int, no_ref, no_tup, ist_ii, ist_ib, ist_bb, ist_tt, ist_ss, V.bool.injEq, F.ret.injEq, reduceCtorEq, and_true, true_and, false_and, and_false, or_false, false_or, exists_eq_left', decide_eq_true_eq, decide_eq_false_iff_not, exists_false, exists_const, Option.some.injEq, Bool.not_eq_true', Bool.not_eq_false', Bool.true_eq_false, Bool.false_eq_true, beq_iff_eq, beq_eq_false_iff_ne, ne_eq, not_true_eq_false, not_false_eq_true, Option.map_some, Bool.not_true, Bool.not_false, beq_self_eq_true, List.map_cons, List.map_nil, List.replicate_succ, List.replicate_zero, List.cons_append, List.nil_append, List.getElem?_cons_zero, List.getElem?_cons_succ, List.set_cons_zero, List.set_cons_succ, Nat.reduceSub, Nat.reduceAdd, List.length_cons, List.length_nil, Nat.zero_add, Nat.reduceLeDiff, if_true, if_false, rv, ov, lv, idx_tup0, idx_tup1, idx_tup2, idx_tup3, ne_ns, ne_ng, ne_sn, ne_sg, ne_gn, ne_gs, len_tup2, len_tup3, len_tup4, e0, List.zip_cons_cons, List.zip_nil_right, in_dictS (e1 _), idx_dictS (e1 _) l3, l3, Option.isSome_some, e2]; exact .inr (by decide)

theorem letters_map_modify {ls : List Lt} {k p : Nat} {l : Lt} (h : ls[k]? = some l) : (ls.modify k (gotAt p)).map lv = (ls.map lv).set k (.tup [.int (l.fr : Int), .int (l.to : Int), .int (l.at0 : Int), .int (p : Int)]) := by
  apply List.ext_getElem?
  intro m
  rw [List.getElem?_map, List.getElem?_modify, List.getElem?_set, List.getElem?_map]
  obtain ⟨hk, rfl⟩ := List.getElem?_eq_some_iff.mp h
  by_cases hm : k = m
  · subst hm
    simp [hk, lv, gotAt, ov]
  · simp [hm]
theorem stepL_len {ls : List Lt} {p : Nat} {r : Rw} : (stepL ls p r).length ≤ ls.length + 1 := by
  cases r <;> simp [stepL]
theorem letters_len (rows : List Rw) : (lettersOf rows).length ≤ rows.length := by
  have : ∀ (rs : List Rw) ls p, (lettersFrom ls p rs).length ≤ ls.length + rs.length := by
    intro rs
    induction rs with
    | nil => intro ls p; simp [lettersFrom]
    | cons r rs ih =>
      intro ls p
      have h1 := ih (stepL ls p r) (p + 1)
      have h2 := stepL_len (ls := ls) (p := p) (r := r)
      simp only [lettersFrom, List.length_cons]
      omega
  simpa [lettersOf] using this rows [] 0

theorem letters_ok {d k kf kh g1 g2 j H : Nat} {x1 x2 x3 x4 x5 x6 : S} {rows : List Rw} (hp : P[k]? = some (B.letters g1 x1 g2 x2 kf kh x3 x4)) (hf : P[kf]? = some (B.need_form x5)) (hh : P[kh]? = some (B.need_hand x6)) (hg1 : G[g1]? = some 40) (hg2 : G[g2]? = some 1000)
    (hj : σ[j]? = some (.list (rows.map rv))) (hG : Hist H rows) (h1 : 1 ≤ H) (h40 : H ≤ 40) (hr : rows.length ≤ 1000) :
    Ok (callF ns G P N (d + 2) k [.int (H : Int), .ref j] σ) (fun v σ' => ∃ jr, v = .ref jr ∧ σ <+: σ' ∧ σ.length ≤ jr ∧ σ'[jr]? = some (.list ((lettersOf rows).map lv))) := by
  refine ok_call hp rfl ?_
  have c1 : (1 : Int) ≤ H := by omega
  have c2 : (H : Int) ≤ 40 := by omega
  have c3 : ¬ (1000 : Int) < (rows.length : Int) := by omega
  simp only [B.letters, Ok_seq, Then_next, Then_ret, Turn_next, Turn_ret, Back_next, Back_ret, Ok_ite, Ok_and, Ok_or, Ok_cmp2, Ok_bind, Ok_ok, ev_none, ev_bool, ev_int, ev_str, ev_var, ev_glob, ev_fn, ev_bin, ev_neg, ev_not, ev_cmp, ev_list, ev_tup, ev_dictS, ev_dictI, ev_idx, ev_sl, ev_slFrom, ev_slTo, ev_call, ev_len, ev_listOf, ev_listRange, ev_listRev, ev_isinst, ev_toInt, ev_max, ev_min, ev_sum, ev_nil, ev_cons, ex_assign, ex_setItem, ex_append, ex_clear, ex_expr, ex_ret, ex_nil, bind_ok, ofB_some, cm_Eq, cm_NotEq, cm_Lt, cm_LtE, cm_Gt, cm_GtE, cm_Is, cm_IsNot, cm_In, cm_NotIn, eq_ii, eq_ss, eq_bb, eq_rr, eq_tt, eq_nx, eq_in, no_none, no_int, no_ref, no_tup, ist_ii, ist_ib, ist_bb, ist_tt, ist_ss, V.bool.injEq, F.ret.injEq, reduceCtorEq, and_true, true_and, false_and, and_false, or_false, false_or, exists_eq_left', decide_eq_true_eq, decide_eq_false_iff_not, exists_false, exists_const, Option.some.injEq, Bool.not_eq_true', Bool.not_eq_false', Bool.true_eq_false, Bool.false_eq_true, beq_iff_eq, beq_eq_false_iff_ne, ne_eq, not_true_eq_false, not_false_eq_true, Option.map_some, Bool.not_true, Bool.not_false, beq_self_eq_true, List.map_cons, List.map_nil, List.replicate_succ, List.replicate_zero, List.cons_append, List.nil_append, List.getElem?_cons_zero, List.getElem?_cons_succ, List.set_cons_zero, List.set_cons_succ, Nat.reduceSub, Nat.reduceAdd, List.length_cons, List.length_nil, Nat.zero_add, Nat.reduceLeDiff, if_true, if_false, hg1, hg2, c1, c2, c3, len_map hj, decide_true, Ok_newL, List.length_nil, Nat.zero_le]
  have hlen : evE ns G (callF ns G P N (d + 1)) [some (V.int (H : Int)), some (V.ref j), some (V.ref σ.length), none, none, none] (.len (.var 1)) (σ ++ [Cell.list []]) = .ok (.int (rows.length : Int)) (σ ++ [Cell.list []]) := by
    simp only [Ok_seq, Then_next, Then_ret, Turn_next, Turn_ret, Back_next, Back_ret, Ok_ite, Ok_and, Ok_or, Ok_cmp2, Ok_bind, Ok_ok, ev_none, ev_bool, ev_int, ev_str, ev_var, ev_glob, ev_fn, ev_bin, ev_neg, ev_not, ev_cmp, ev_list, ev_tup, ev_dictS, ev_dictI, ev_idx, ev_sl, ev_slFrom, ev_slTo, ev_call, ev_len, ev_listOf, ev_listRange, ev_listRev, ev_isinst, ev_toInt, ev_max, ev_min, ev_sum, ev_nil, ev_cons, ex_assign, ex_setItem, ex_append, ex_clear, ex_expr, ex_ret, ex_nil, bind_ok, ofB_some, cm_Eq, cm_NotEq, cm_Lt, cm_LtE, cm_Gt, cm_GtE, cm_Is, cm_IsNot, cm_In, cm_NotIn, eq_ii, eq_ss, eq_bb, eq_rr, eq_tt, eq_nx, eq_in, no_none, no_int, no_ref, no_tup, ist_ii, ist_ib, ist_bb, ist_tt, ist_ss, V.bool.injEq, F.ret.injEq, reduceCtorEq, and_true, true_and, false_and, and_false, or_false, false_or, exists_eq_left', decide_eq_true_eq, decide_eq_false_iff_not, exists_false, exists_const, Option.some.injEq, Bool.not_eq_true', Bool.not_eq_false', Bool.true_eq_false, Bool.false_eq_true, beq_iff_eq, beq_eq_false_iff_ne, ne_eq, not_true_eq_false, not_false_eq_true, Option.map_some, Bool.not_true, Bool.not_false, beq_self_eq_true, List.map_cons, List.map_nil, List.replicate_succ, List.replicate_zero, List.cons_append, List.nil_append, List.getElem?_cons_zero, List.getElem?_cons_succ, List.set_cons_zero, List.set_cons_succ, Nat.reduceSub, Nat.reduceAdd, List.length_cons, List.length_nil, Nat.zero_add, Nat.reduceLeDiff, if_true, if_false]; rw [len_map (at_app hj)]
  refine ok_for_range (n := rows.length) hlen (by rw [sizeMax_eq]; omega) (fun i ρ' τ => σ <+: τ ∧ τ[σ.length]? = some (.list ((lettersOf (rows.take i)).map lv)) ∧ ∃ o3 o4 o5, ρ' = [some (V.int (H : Int)), some (V.ref j), some (V.ref σ.length), o3, o4, o5])
    ⟨List.prefix_append _ _, at_end, _, _, _, rfl⟩ ?_ ?_
  · rintro i ρ' τ hi ⟨hpre, hjf, o3, o4, o5, rfl⟩
    have hri : rows[i]? = some rows[i] := List.getElem?_eq_getElem hi
    have hrow := hG i _ hri
    have hand := hrow.hand
    have hst := letters_take hri
    have hll := letters_len (rows.take i)
    have hll2 : (rows.take i).length ≤ i := by simp; omega
    generalize rows[i] = r at *
    generalize hK : Turn _ _ = K
    have hjt := at_pre hj hpre
    unfold B.letters_s3
    refine st_assign (v := rv r) (idx_map (ns := ns) hjt hri) ?_
    refine st_expr ((need_form_ok (σ := τ) (d := d) (r := r) hf).mono fun v τ1 hv => ?_)
    obtain ⟨rfl, hp1⟩ := hv
    have hpre1 := hpre.trans hp1
    have hjf1 := at_pre hjf hp1
    have hn := need_hand_ok (ns := ns) (G := G) (N := N) (σ := τ1) (d := d) hh hand
    refine st_expr (Ok.of (a := V.none) (σ := τ1) ?_ ?_)
    · cases r <;> exact hn
    cases r with
    | note h =>
      refine st_skip (σ' := τ1) (by simp only [Ok_seq, Then_next, Then_ret, Turn_next, Turn_ret, Back_next, Back_ret, Ok_ite, Ok_and, Ok_or, Ok_cmp2, Ok_bind, Ok_ok, ev_none, ev_bool, ev_int, ev_str, ev_var, ev_glob, ev_fn, ev_bin, ev_neg, ev_not, ev_cmp, ev_list, ev_tup, ev_dictS, ev_dictI, ev_idx, ev_sl, ev_slFrom, ev_slTo, ev_call, ev_len, ev_listOf, ev_listRange, ev_listRev, ev_isinst, ev_toInt, ev_max, ev_min, ev_sum, ev_nil, ev_cons, ex_assign, ex_setItem, ex_append, ex_clear, ex_expr, ex_ret, ex_nil, bind_ok, ofB_some, cm_Eq, cm_NotEq, cm_Lt, cm_LtE, cm_Gt, cm_GtE, cm_Is, cm_IsNot, cm_In, cm_NotIn, eq_ii, eq_ss, eq_bb, eq_rr, eq_tt, eq_nx, eq_in, no_none, no_int, no_ref, no_tup, ist_ii, ist_ib, ist_bb, ist_tt, ist_ss, V.bool.injEq, F.ret.injEq, reduceCtorEq, and_true, true_and, false_and, and_false, or_false, false_or, exists_eq_left', decide_eq_true_eq, decide_eq_false_iff_not, exists_false, exists_const, Option.some.injEq, Bool.not_eq_true', Bool.not_eq_false', Bool.true_eq_false, Bool.false_eq_true, beq_iff_eq, beq_eq_false_iff_ne, ne_eq, not_true_eq_false, not_false_eq_true, Option.map_some, Bool.not_true, Bool.not_false, beq_self_eq_true, List.map_cons, List.map_nil, List.replicate_succ, List.replicate_zero, List.cons_append, List.nil_append, List.getElem?_cons_zero, List.getElem?_cons_succ, List.set_cons_zero, List.set_cons_succ, Nat.reduceSub, Nat.reduceAdd, List.length_cons, List.length_nil, Nat.zero_add, Nat.reduceLeDiff, if_true, if_false, rv, ov, lv, idx_tup0, idx_tup1, idx_tup2, idx_tup3, ne_ns, ne_ng, ne_sn, ne_sg, ne_gn, ne_gs, len_tup2, len_tup3, len_tup4, bq_ns, bq_ng, bq_sn, bq_sg, bq_gn, bq_gs]) (st_skip (σ' := τ1) (by simp only [Ok_seq, Then_next, Then_ret, Turn_next, Turn_ret, Back_next, Back_ret, Ok_ite, Ok_and, Ok_or, Ok_cmp2, Ok_bind, Ok_ok, ev_none, ev_bool, ev_int, ev_str, ev_var, ev_glob, ev_fn, ev_bin, ev_neg, ev_not, ev_cmp, ev_list, ev_tup, ev_dictS, ev_dictI, ev_idx, ev_sl, ev_slFrom, ev_slTo, ev_call, ev_len, ev_listOf, ev_listRange, ev_listRev, ev_isinst, ev_toInt, ev_max, ev_min, ev_sum, ev_nil, ev_cons, ex_assign, ex_setItem, ex_append, ex_clear, ex_expr, ex_ret, ex_nil, bind_ok, ofB_some, cm_Eq, cm_NotEq, cm_Lt, cm_LtE, cm_Gt, cm_GtE, cm_Is, cm_IsNot, cm_In, cm_NotIn, eq_ii, eq_ss, eq_bb, eq_rr, eq_tt, eq_nx, eq_in, no_none, no_int, no_ref, no_tup, ist_ii, ist_ib, ist_bb, ist_tt, ist_ss, V.bool.injEq, F.ret.injEq, reduceCtorEq, and_true, true_and, false_and, and_false, or_false, false_or, exists_eq_left', decide_eq_true_eq, decide_eq_false_iff_not, exists_false, exists_const, Option.some.injEq, Bool.not_eq_true', Bool.not_eq_false', Bool.true_eq_false, Bool.false_eq_true, beq_iff_eq, beq_eq_false_iff_ne, ne_eq, not_true_eq_false, not_false_eq_true, Option.map_some, Bool.not_true, Bool.not_false, beq_self_eq_true, List.map_cons, List.map_nil, List.replicate_succ, List.replicate_zero, List.cons_append, List.nil_append, List.getElem?_cons_zero, List.getElem?_cons_succ, List.set_cons_zero, List.set_cons_succ, Nat.reduceSub, Nat.reduceAdd, List.length_cons, List.length_nil, Nat.zero_add, Nat.reduceLeDiff, if_true, if_false, rv, ov, lv, idx_tup0, idx_tup1, idx_tup2, idx_tup3, ne_ns, ne_ng, ne_sn, ne_sg, ne_gn, ne_gs, len_tup2, len_tup3, len_tup4, bq_ns, bq_ng, bq_sn, bq_sg, bq_gn, bq_gs]) ?_)
      rw [← hK]
      exact ⟨hpre1, by rw [hst]; exact hjf1, _, _, _, rfl⟩
    | send a b =>
      have hb : b < H := hrow.2
      refine st_then (σ' := τ1) (by simp only [Ok_seq, Then_next, Then_ret, Turn_next, Turn_ret, Back_next, Back_ret, Ok_ite, Ok_and, Ok_or, Ok_cmp2, Ok_bind, Ok_ok, ev_none, ev_bool, ev_int, ev_str, ev_var, ev_glob, ev_fn, ev_bin, ev_neg, ev_not, ev_cmp, ev_list, ev_tup, ev_dictS, ev_dictI, ev_idx, ev_sl, ev_slFrom, ev_slTo, ev_call, ev_len, ev_listOf, ev_listRange, ev_listRev, ev_isinst, ev_toInt, ev_max, ev_min, ev_sum, ev_nil, ev_cons, ex_assign, ex_setItem, ex_append, ex_clear, ex_expr, ex_ret, ex_nil, bind_ok, ofB_some, cm_Eq, cm_NotEq, cm_Lt, cm_LtE, cm_Gt, cm_GtE, cm_Is, cm_IsNot, cm_In, cm_NotIn, eq_ii, eq_ss, eq_bb, eq_rr, eq_tt, eq_nx, eq_in, no_none, no_int, no_ref, no_tup, ist_ii, ist_ib, ist_bb, ist_tt, ist_ss, V.bool.injEq, F.ret.injEq, reduceCtorEq, and_true, true_and, false_and, and_false, or_false, false_or, exists_eq_left', decide_eq_true_eq, decide_eq_false_iff_not, exists_false, exists_const, Option.some.injEq, Bool.not_eq_true', Bool.not_eq_false', Bool.true_eq_false, Bool.false_eq_true, beq_iff_eq, beq_eq_false_iff_ne, ne_eq, not_true_eq_false, not_false_eq_true, Option.map_some, Bool.not_true, Bool.not_false, beq_self_eq_true, List.map_cons, List.map_nil, List.replicate_succ, List.replicate_zero, List.cons_append, List.nil_append, List.getElem?_cons_zero, List.getElem?_cons_succ, List.set_cons_zero, List.set_cons_succ, Nat.reduceSub, Nat.reduceAdd, List.length_cons, List.length_nil, Nat.zero_add, Nat.reduceLeDiff, if_true, if_false, rv, ov, lv, idx_tup0, idx_tup1, idx_tup2, idx_tup3, ne_ns, ne_ng, ne_sn, ne_sg, ne_gn, ne_gs, len_tup2, len_tup3, len_tup4, bq_ns, bq_ng, bq_sn, bq_sg, bq_gn, bq_gs]) ?_
      refine st_expr (Ok.of (a := V.none) (σ := τ1) (need_hand_ok (ns := ns) (G := G) (N := N) (σ := τ1) (d := d) hh hb) ?_)
      refine st_append (j := σ.length) (v := lv ⟨a, b, i, none⟩) (σ' := τ1) rfl (isL_list hjf1) (by simp only [Ok_seq, Then_next, Then_ret, Turn_next, Turn_ret, Back_next, Back_ret, Ok_ite, Ok_and, Ok_or, Ok_cmp2, Ok_bind, Ok_ok, ev_none, ev_bool, ev_int, ev_str, ev_var, ev_glob, ev_fn, ev_bin, ev_neg, ev_not, ev_cmp, ev_list, ev_tup, ev_dictS, ev_dictI, ev_idx, ev_sl, ev_slFrom, ev_slTo, ev_call, ev_len, ev_listOf, ev_listRange, ev_listRev, ev_isinst, ev_toInt, ev_max, ev_min, ev_sum, ev_nil, ev_cons, ex_assign, ex_setItem, ex_append, ex_clear, ex_expr, ex_ret, ex_nil, bind_ok, ofB_some, cm_Eq, cm_NotEq, cm_Lt, cm_LtE, cm_Gt, cm_GtE, cm_Is, cm_IsNot, cm_In, cm_NotIn, eq_ii, eq_ss, eq_bb, eq_rr, eq_tt, eq_nx, eq_in, no_none, no_int, no_ref, no_tup, ist_ii, ist_ib, ist_bb, ist_tt, ist_ss, V.bool.injEq, F.ret.injEq, reduceCtorEq, and_true, true_and, false_and, and_false, or_false, false_or, exists_eq_left', decide_eq_true_eq, decide_eq_false_iff_not, exists_false, exists_const, Option.some.injEq, Bool.not_eq_true', Bool.not_eq_false', Bool.true_eq_false, Bool.false_eq_true, beq_iff_eq, beq_eq_false_iff_ne, ne_eq, not_true_eq_false, not_false_eq_true, Option.map_some, Bool.not_true, Bool.not_false, beq_self_eq_true, List.map_cons, List.map_nil, List.replicate_succ, List.replicate_zero, List.cons_append, List.nil_append, List.getElem?_cons_zero, List.getElem?_cons_succ, List.set_cons_zero, List.set_cons_succ, Nat.reduceSub, Nat.reduceAdd, List.length_cons, List.length_nil, Nat.zero_add, Nat.reduceLeDiff, if_true, if_false, rv, ov, lv, idx_tup0, idx_tup1, idx_tup2, idx_tup3, ne_ns, ne_ng, ne_sn, ne_sg, ne_gn, ne_gs, len_tup2, len_tup3, len_tup4, bq_ns, bq_ng, bq_sn, bq_sg, bq_gn, bq_gs]) (app_list hjf1 (by rw [List.length_map, sizeMax_eq]; omega)) ?_
      refine st_nil (st_skip (σ' := τ1.set σ.length (.list ((lettersOf (rows.take i)).map lv ++ [lv ⟨a, b, i, none⟩]))) (by simp only [Ok_seq, Then_next, Then_ret, Turn_next, Turn_ret, Back_next, Back_ret, Ok_ite, Ok_and, Ok_or, Ok_cmp2, Ok_bind, Ok_ok, ev_none, ev_bool, ev_int, ev_str, ev_var, ev_glob, ev_fn, ev_bin, ev_neg, ev_not, ev_cmp, ev_list, ev_tup, ev_dictS, ev_dictI, ev_idx, ev_sl, ev_slFrom, ev_slTo, ev_call, ev_len, ev_listOf, ev_listRange, ev_listRev, ev_isinst, ev_toInt, ev_max, ev_min, ev_sum, ev_nil, ev_cons, ex_assign, ex_setItem, ex_append, ex_clear, ex_expr, ex_ret, ex_nil, bind_ok, ofB_some, cm_Eq, cm_NotEq, cm_Lt, cm_LtE, cm_Gt, cm_GtE, cm_Is, cm_IsNot, cm_In, cm_NotIn, eq_ii, eq_ss, eq_bb, eq_rr, eq_tt, eq_nx, eq_in, no_none, no_int, no_ref, no_tup, ist_ii, ist_ib, ist_bb, ist_tt, ist_ss, V.bool.injEq, F.ret.injEq, reduceCtorEq, and_true, true_and, false_and, and_false, or_false, false_or, exists_eq_left', decide_eq_true_eq, decide_eq_false_iff_not, exists_false, exists_const, Option.some.injEq, Bool.not_eq_true', Bool.not_eq_false', Bool.true_eq_false, Bool.false_eq_true, beq_iff_eq, beq_eq_false_iff_ne, ne_eq, not_true_eq_false, not_false_eq_true, Option.map_some, Bool.not_true, Bool.not_false, beq_self_eq_true, List.map_cons, List.map_nil, List.replicate_succ, List.replicate_zero, List.cons_append, List.nil_append, List.getElem?_cons_zero, List.getElem?_cons_succ, List.set_cons_zero, List.set_cons_succ, Nat.reduceSub, Nat.reduceAdd, List.length_cons, List.length_nil, Nat.zero_add, Nat.reduceLeDiff, if_true, if_false, rv, ov, lv, idx_tup0, idx_tup1, idx_tup2, idx_tup3, ne_ns, ne_ng, ne_sn, ne_sg, ne_gn, ne_gs, len_tup2, len_tup3, len_tup4, bq_ns, bq_ng, bq_sn, bq_sg, bq_gn, bq_gs]) ?_)
      rw [← hK]
      refine ⟨pre_set hpre1 (Nat.le_refl _), ?_, _, _, _, rfl⟩
      rw [at_set hjf1, hst]
      simp only [stepL, List.map_append, List.map_cons, List.map_nil]
    | got h m =>
      obtain ⟨hh', l, hl, hto, hg⟩ := hrow
      have hm := (List.getElem?_eq_some_iff.mp hl).1
      have m1 : (0 : Int) ≤ (m : Int) := by omega
      have m2 : (m : Int) < ((lettersOf (rows.take i)).length : Int) := by omega
      have x1 := idx_map (ns := ns) (f := lv) hjf1 hl
      refine st_skip (σ' := τ1) (by simp only [Ok_seq, Then_next, Then_ret, Turn_next, Turn_ret, Back_next, Back_ret, Ok_ite, Ok_and, Ok_or, Ok_cmp2, Ok_bind, Ok_ok, ev_none, ev_bool, ev_int, ev_str, ev_var, ev_glob, ev_fn, ev_bin, ev_neg, ev_not, ev_cmp, ev_list, ev_tup, ev_dictS, ev_dictI, ev_idx, ev_sl, ev_slFrom, ev_slTo, ev_call, ev_len, ev_listOf, ev_listRange, ev_listRev, ev_isinst, ev_toInt, ev_max, ev_min, ev_sum, ev_nil, ev_cons, ex_assign, ex_setItem, ex_append, ex_clear, ex_expr, ex_ret, ex_nil, bind_ok, ofB_some, cm_Eq, cm_NotEq, cm_Lt, cm_LtE, cm_Gt, cm_GtE, cm_Is, cm_IsNot, cm_In, cm_NotIn, eq_ii, eq_ss, eq_bb, eq_rr, eq_tt, eq_nx, eq_in, no_none, no_int, no_ref, no_tup, ist_ii, ist_ib, ist_bb, ist_tt, ist_ss, V.bool.injEq, F.ret.injEq, reduceCtorEq, and_true, true_and, false_and, and_false, or_false, false_or, exists_eq_left', decide_eq_true_eq, decide_eq_false_iff_not, exists_false, exists_const, Option.some.injEq, Bool.not_eq_true', Bool.not_eq_false', Bool.true_eq_false, Bool.false_eq_true, beq_iff_eq, beq_eq_false_iff_ne, ne_eq, not_true_eq_false, not_false_eq_true, Option.map_some, Bool.not_true, Bool.not_false, beq_self_eq_true, List.map_cons, List.map_nil, List.replicate_succ, List.replicate_zero, List.cons_append, List.nil_append, List.getElem?_cons_zero, List.getElem?_cons_succ, List.set_cons_zero, List.set_cons_succ, Nat.reduceSub, Nat.reduceAdd, List.length_cons, List.length_nil, Nat.zero_add, Nat.reduceLeDiff, if_true, if_false, rv, ov, lv, idx_tup0, idx_tup1, idx_tup2, idx_tup3, ne_ns, ne_ng, ne_sn, ne_sg, ne_gn, ne_gs, len_tup2, len_tup3, len_tup4, bq_ns, bq_ng, bq_sn, bq_sg, bq_gn, bq_gs]) (st_then (σ' := τ1) (by simp only [Ok_seq, Then_next, Then_ret, Turn_next, Turn_ret, Back_next, Back_ret, Ok_ite, Ok_and, Ok_or, Ok_cmp2, Ok_bind, Ok_ok, ev_none, ev_bool, ev_int, ev_str, ev_var, ev_glob, ev_fn, ev_bin, ev_neg, ev_not, ev_cmp, ev_list, ev_tup, ev_dictS, ev_dictI, ev_idx, ev_sl, ev_slFrom, ev_slTo, ev_call, ev_len, ev_listOf, ev_listRange, ev_listRev, ev_isinst, ev_toInt, ev_max, ev_min, ev_sum, ev_nil, ev_cons, ex_assign, ex_setItem, ex_append, ex_clear, ex_expr, ex_ret, ex_nil, bind_ok, ofB_some, cm_Eq, cm_NotEq, cm_Lt, cm_LtE, cm_Gt, cm_GtE, cm_Is, cm_IsNot, cm_In, cm_NotIn, eq_ii, eq_ss, eq_bb, eq_rr, eq_tt, eq_nx, eq_in, no_none, no_int, no_ref, no_tup, ist_ii, ist_ib, ist_bb, ist_tt, ist_ss, V.bool.injEq, F.ret.injEq, reduceCtorEq, and_true, true_and, false_and, and_false, or_false, false_or, exists_eq_left', decide_eq_true_eq, decide_eq_false_iff_not, exists_false, exists_const, Option.some.injEq, Bool.not_eq_true', Bool.not_eq_false', Bool.true_eq_false, Bool.false_eq_true, beq_iff_eq, beq_eq_false_iff_ne, ne_eq, not_true_eq_false, not_false_eq_true, Option.map_some, Bool.not_true, Bool.not_false, beq_self_eq_true, List.map_cons, List.map_nil, List.replicate_succ, List.replicate_zero, List.cons_append, List.nil_append, List.getElem?_cons_zero, List.getElem?_cons_succ, List.set_cons_zero, List.set_cons_succ, Nat.reduceSub, Nat.reduceAdd, List.length_cons, List.length_nil, Nat.zero_add, Nat.reduceLeDiff, if_true, if_false, rv, ov, lv, idx_tup0, idx_tup1, idx_tup2, idx_tup3, ne_ns, ne_ng, ne_sn, ne_sg, ne_gn, ne_gs, len_tup2, len_tup3, len_tup4, bq_ns, bq_ng, bq_sn, bq_sg, bq_gn, bq_gs]) ?_)
      unfold B.letters_s2
      refine st_skip (σ' := τ1) ?_ (st_assign (v := lv l) x1 (st_skip (σ' := τ1) (by simp only [Ok_seq, Then_next, Then_ret, Turn_next, Turn_ret, Back_next, Back_ret, Ok_ite, Ok_and, Ok_or, Ok_cmp2, Ok_bind, Ok_ok, ev_none, ev_bool, ev_int, ev_str, ev_var, ev_glob, ev_fn, ev_bin, ev_neg, ev_not, ev_cmp, ev_list, ev_tup, ev_dictS, ev_dictI, ev_idx, ev_sl, ev_slFrom, ev_slTo, ev_call, ev_len, ev_listOf, ev_listRange, ev_listRev, ev_isinst, ev_toInt, ev_max, ev_min, ev_sum, ev_nil, ev_cons, ex_assign, ex_setItem, ex_append, ex_clear, ex_expr, ex_ret, ex_nil, bind_ok, ofB_some, cm_Eq, cm_NotEq, cm_Lt, cm_LtE, cm_Gt, cm_GtE, cm_Is, cm_IsNot, cm_In, cm_NotIn, eq_ii, eq_ss, eq_bb, eq_rr, eq_tt, eq_nx, eq_in, no_none, no_int, no_ref, no_tup, ist_ii, ist_ib, ist_bb, ist_tt, ist_ss, V.bool.injEq, F.ret.injEq, reduceCtorEq, and_true, true_and, false_and, and_false, or_false, false_or, exists_eq_left', decide_eq_true_eq, decide_eq_false_iff_not, exists_false, exists_const, Option.some.injEq, Bool.not_eq_true', Bool.not_eq_false', Bool.true_eq_false, Bool.false_eq_true, beq_iff_eq, beq_eq_false_iff_ne, ne_eq, not_true_eq_false, not_false_eq_true, Option.map_some, Bool.not_true, Bool.not_false, beq_self_eq_true, List.map_cons, List.map_nil, List.replicate_succ, List.replicate_zero, List.cons_append, List.nil_append, List.getElem?_cons_zero, List.getElem?_cons_succ, List.set_cons_zero, List.set_cons_succ, Nat.reduceSub, Nat.reduceAdd, List.length_cons, List.length_nil, Nat.zero_add, Nat.reduceLeDiff, if_true, if_false, rv, ov, lv, idx_tup0, idx_tup1, idx_tup2, idx_tup3, ne_ns, ne_ng, ne_sn, ne_sg, ne_gn, ne_gs, len_tup2, len_tup3, len_tup4, hg]) (st_set (v := .tup [.int (l.fr : Int), .int (l.to : Int), .int (l.at0 : Int), .int (i : Int)]) (σ1 := τ1) (σ2 := τ1) (σ3 := τ1) (xv := .ref σ.length) (iv := .int (m : Int)) (by simp only [Ok_seq, Then_next, Then_ret, Turn_next, Turn_ret, Back_next, Back_ret, Ok_ite, Ok_and, Ok_or, Ok_cmp2, Ok_bind, Ok_ok, ev_none, ev_bool, ev_int, ev_str, ev_var, ev_glob, ev_fn, ev_bin, ev_neg, ev_not, ev_cmp, ev_list, ev_tup, ev_dictS, ev_dictI, ev_idx, ev_sl, ev_slFrom, ev_slTo, ev_call, ev_len, ev_listOf, ev_listRange, ev_listRev, ev_isinst, ev_toInt, ev_max, ev_min, ev_sum, ev_nil, ev_cons, ex_assign, ex_setItem, ex_append, ex_clear, ex_expr, ex_ret, ex_nil, bind_ok, ofB_some, cm_Eq, cm_NotEq, cm_Lt, cm_LtE, cm_Gt, cm_GtE, cm_Is, cm_IsNot, cm_In, cm_NotIn, eq_ii, eq_ss, eq_bb, eq_rr, eq_tt, eq_nx, eq_in, no_none, no_int, no_ref, no_tup, ist_ii, ist_ib, ist_bb, ist_tt, ist_ss, V.bool.injEq, F.ret.injEq, reduceCtorEq, and_true, true_and, false_and, and_false, or_false, false_or, exists_eq_left', decide_eq_true_eq, decide_eq_false_iff_not, exists_false, exists_const, Option.some.injEq, Bool.not_eq_true', Bool.not_eq_false', Bool.true_eq_false, Bool.false_eq_true, beq_iff_eq, beq_eq_false_iff_ne, ne_eq, not_true_eq_false, not_false_eq_true, Option.map_some, Bool.not_true, Bool.not_false, beq_self_eq_true, List.map_cons, List.map_nil, List.replicate_succ, List.replicate_zero, List.cons_append, List.nil_append, List.getElem?_cons_zero, List.getElem?_cons_succ, List.set_cons_zero, List.set_cons_succ, Nat.reduceSub, Nat.reduceAdd, List.length_cons, List.length_nil, Nat.zero_add, Nat.reduceLeDiff, if_true, if_false, rv, ov, lv, idx_tup0, idx_tup1, idx_tup2, idx_tup3, ne_ns, ne_ng, ne_sn, ne_sg, ne_gn, ne_gs, len_tup2, len_tup3, len_tup4, bq_ns, bq_ng, bq_sn, bq_sg, bq_gn, bq_gs]) rfl rfl (set_list hjf1 (by rw [List.length_map]; exact hm)) ?_)))
      · rw [← Ok_R]
        simp only [Ok_seq, Then_next, Then_ret, Turn_next, Turn_ret, Back_next, Back_ret, Ok_ite, Ok_and, Ok_or, Ok_cmp2, Ok_bind, Ok_ok, ev_none, ev_bool, ev_int, ev_str, ev_var, ev_glob, ev_fn, ev_bin, ev_neg, ev_not, ev_cmp, ev_list, ev_tup, ev_dictS, ev_dictI, ev_idx, ev_sl, ev_slFrom, ev_slTo, ev_call, ev_len, ev_listOf, ev_listRange, ev_listRev, ev_isinst, ev_toInt, ev_max, ev_min, ev_sum, ev_nil, ev_cons, ex_assign, ex_setItem, ex_append, ex_clear, ex_expr, ex_ret, ex_nil, bind_ok, ofB_some, cm_Eq, cm_NotEq, cm_Lt, cm_LtE, cm_Gt, cm_GtE, cm_Is, cm_IsNot, cm_In, cm_NotIn, eq_ii, eq_ss, eq_bb, eq_rr, eq_tt, eq_nx, eq_in, no_none, no_int, no_ref, no_tup, ist_ii, ist_ib, ist_bb, ist_tt, ist_ss, V.bool.injEq, F.ret.injEq, reduceCtorEq, and_true, true_and, false_and, and_false, or_false, false_or, exists_eq_left', decide_eq_true_eq, decide_eq_false_iff_not, exists_false, exists_const, Option.some.injEq, Bool.not_eq_true', Bool.not_eq_false', Bool.true_eq_false, Bool.false_eq_true, beq_iff_eq, beq_eq_false_iff_ne, ne_eq, not_true_eq_false, not_false_eq_true, Option.map_some, Bool.not_true, Bool.not_false, beq_self_eq_true, List.map_cons, List.map_nil, List.replicate_succ, List.replicate_zero, List.cons_append, List.nil_append, List.getElem?_cons_zero, List.getElem?_cons_succ, List.set_cons_zero, List.set_cons_succ, Nat.reduceSub, Nat.reduceAdd, List.length_cons, List.length_nil, Nat.zero_add, Nat.reduceLeDiff, if_true, if_false, rv, ov, lv, idx_tup0, idx_tup1, idx_tup2, idx_tup3, ne_ns, ne_ng, ne_sn, ne_sg, ne_gn, ne_gs, len_tup2, len_tup3, len_tup4, len_map hjf1, m1, m2, decide_true, x1, hto]
      refine st_nil ?_
      rw [← hK]
      refine ⟨pre_set hpre1 (Nat.le_refl _), ?_, _, _, _, rfl⟩
      rw [at_set hjf1, hst]
      simp only [stepL]
      rw [letters_map_modify hl]
  · rintro ρ' τ ⟨hpre, hjf, o3, o4, o5, rfl⟩
    rw [List.take_length] at hjf
    simp only [Ok_seq, Then_next, Then_ret, Turn_next, Turn_ret, Back_next, Back_ret, Ok_ite, Ok_and, Ok_or, Ok_cmp2, Ok_bind, Ok_ok, ev_none, ev_bool, ev_int, ev_str, ev_var, ev_glob, ev_fn, ev_bin, ev_neg, ev_not, ev_cmp, ev_list, ev_tup, ev_dictS, ev_dictI, ev_idx, ev_sl, ev_slFrom, ev_slTo, ev_call, ev_len, ev_listOf, ev_listRange, ev_listRev, ev_isinst, ev_toInt, ev_max, ev_min, ev_sum, ev_nil, ev_cons, ex_assign, ex_setItem, ex_append, ex_clear, ex_expr, ex_ret, ex_nil, bind_ok, ofB_some, cm_Eq, cm_NotEq, cm_Lt, cm_LtE, cm_Gt, cm_GtE, cm_Is, cm_IsNot, cm_In, cm_NotIn, eq_ii, eq_ss, eq_bb, eq_rr, eq_tt, eq_nx, eq_in, no_none, no_int, no_ref, no_tup, ist_ii, ist_ib, ist_bb, ist_tt, ist_ss, V.bool.injEq, F.ret.injEq, reduceCtorEq, and_true, true_and, false_and, and_false, or_false, false_or, exists_eq_left', decide_eq_true_eq, decide_eq_false_iff_not, exists_false, exists_const, Option.some.injEq, Bool.not_eq_true', Bool.not_eq_false', Bool.true_eq_false, Bool.false_eq_true, beq_iff_eq, beq_eq_false_iff_ne, ne_eq, not_true_eq_false, not_false_eq_true, Option.map_some, Bool.not_true, Bool.not_false, beq_self_eq_true, List.map_cons, List.map_nil, List.replicate_succ, List.replicate_zero, List.cons_append, List.nil_append, List.getElem?_cons_zero, List.getElem?_cons_succ, List.set_cons_zero, List.set_cons_succ, Nat.reduceSub, Nat.reduceAdd, List.length_cons, List.length_nil, Nat.zero_add, Nat.reduceLeDiff, if_true, if_false]
    exact ⟨_, rfl, hpre, Nat.le_refl _, hjf⟩

theorem hands_ok {d k : Nat} {c : Int} (hp : P[k]? = some B.L_hands_by) : ∃ H : Nat, 1 ≤ H ∧ H ≤ 40 ∧ callF ns G P N (d + 1) k [.int c] σ = .ok (.int (H : Int)) σ := by
  have a1 := fmod_lo (a := c.fdiv 40) (b := 40) (by omega)
  have a2 := fmod_hi (a := c.fdiv 40) (b := 40) (by omega)
  have b1 := fmod_lo (a := c) (b := 5) (by omega)
  have b2 := fmod_hi (a := c) (b := 5) (by omega)
  by_cases hc : (c.fdiv 5).fmod 8 = 1
  · refine ⟨(1 + (c.fdiv 40).fmod 40).toNat, by omega, by omega, ?_⟩
    rw [← Ok_R]
    refine ok_call hp rfl ?_
    rw [Int.toNat_of_nonneg (by omega)]
    simp (disch := omega) only [B.L_hands_by, Ok_seq, Then_next, Then_ret, Turn_next, Turn_ret, Back_next, Back_ret, Ok_ite, Ok_and, Ok_or, Ok_cmp2, Ok_bind, Ok_ok, ev_none, ev_bool, ev_int, ev_str, ev_var, ev_glob, ev_fn, ev_bin, ev_neg, ev_not, ev_cmp, ev_list, ev_tup, ev_dictS, ev_dictI, ev_idx, ev_sl, ev_slFrom, ev_slTo, ev_call, ev_len, ev_listOf, ev_listRange, ev_listRev, ev_isinst, ev_toInt, ev_max, ev_min, ev_sum, ev_nil, ev_cons, ex_assign, ex_setItem, ex_append, ex_clear, ex_expr, ex_ret, ex_nil, bind_ok, ofB_some, cm_Eq, cm_NotEq, cm_Lt, cm_LtE, cm_Gt, cm_GtE, cm_Is, cm_IsNot, cm_In, cm_NotIn, eq_ii, eq_ss, eq_bb, eq_rr, eq_tt, eq_nx, eq_in, no_none, no_int, no_ref, no_tup, ist_ii, ist_ib, ist_bb, ist_tt, ist_ss, V.bool.injEq, F.ret.injEq, reduceCtorEq, and_true, true_and, false_and, and_false, or_false, false_or, exists_eq_left', decide_eq_true_eq, decide_eq_false_iff_not, exists_false, exists_const, Option.some.injEq, Bool.not_eq_true', Bool.not_eq_false', Bool.true_eq_false, Bool.false_eq_true, beq_iff_eq, beq_eq_false_iff_ne, ne_eq, not_true_eq_false, not_false_eq_true, Option.map_some, Bool.not_true, Bool.not_false, beq_self_eq_true, List.map_cons, List.map_nil, List.replicate_succ, List.replicate_zero, List.cons_append, List.nil_append, List.getElem?_cons_zero, List.getElem?_cons_succ, List.set_cons_zero, List.set_cons_succ, Nat.reduceSub, Nat.reduceAdd, List.length_cons, List.length_nil, Nat.zero_add, Nat.reduceLeDiff, if_true, if_false, bin_mod, bin_fdiv, bin_add, hc]
  · refine ⟨(1 + c.fmod 5).toNat, by omega, by omega, ?_⟩
    rw [← Ok_R]
    refine ok_call hp rfl ?_
    rw [Int.toNat_of_nonneg (by omega)]
    simp (disch := omega) only [B.L_hands_by, Ok_seq, Then_next, Then_ret, Turn_next, Turn_ret, Back_next, Back_ret, Ok_ite, Ok_and, Ok_or, Ok_cmp2, Ok_bind, Ok_ok, ev_none, ev_bool, ev_int, ev_str, ev_var, ev_glob, ev_fn, ev_bin, ev_neg, ev_not, ev_cmp, ev_list, ev_tup, ev_dictS, ev_dictI, ev_idx, ev_sl, ev_slFrom, ev_slTo, ev_call, ev_len, ev_listOf, ev_listRange, ev_listRev, ev_isinst, ev_toInt, ev_max, ev_min, ev_sum, ev_nil, ev_cons, ex_assign, ex_setItem, ex_append, ex_clear, ex_expr, ex_ret, ex_nil, bind_ok, ofB_some, cm_Eq, cm_NotEq, cm_Lt, cm_LtE, cm_Gt, cm_GtE, cm_Is, cm_IsNot, cm_In, cm_NotIn, eq_ii, eq_ss, eq_bb, eq_rr, eq_tt, eq_nx, eq_in, no_none, no_int, no_ref, no_tup, ist_ii, ist_ib, ist_bb, ist_tt, ist_ss, V.bool.injEq, F.ret.injEq, reduceCtorEq, and_true, true_and, false_and, and_false, or_false, false_or, exists_eq_left', decide_eq_true_eq, decide_eq_false_iff_not, exists_false, exists_const, Option.some.injEq, Bool.not_eq_true', Bool.not_eq_false', Bool.true_eq_false, Bool.false_eq_true, beq_iff_eq, beq_eq_false_iff_ne, ne_eq, not_true_eq_false, not_false_eq_true, Option.map_some, Bool.not_true, Bool.not_false, beq_self_eq_true, List.map_cons, List.map_nil, List.replicate_succ, List.replicate_zero, List.cons_append, List.nil_append, List.getElem?_cons_zero, List.getElem?_cons_succ, List.set_cons_zero, List.set_cons_succ, Nat.reduceSub, Nat.reduceAdd, List.length_cons, List.length_nil, Nat.zero_add, Nat.reduceLeDiff, if_true, if_false, bin_mod, bin_fdiv, bin_add, hc]

theorem cells_ok {d k kc : Nat} {f : Nat} (hp : P[k]? = some (B.L_cells_by_1236 kc)) (hc : P[kc]? = some B.L_cell_at) (hns : ns.length ≤ 63) :
    Ok (callF ns G P N (d + 2) k [.scr, .int (f : Int)] σ) (fun v σ' => ∃ jc cells, v = .ref jc ∧ σ <+: σ' ∧ σ'[jc]? = some (.list (List.map V.int cells)) ∧ cells.length ≤ 1000) := by
  refine ok_call hp rfl ?_
  have cell : callF ns G P N (d + 1) kc [.scr, .int 1] σ = .ok (.int (cellAt ns 1)) σ := cell_at_ok hc (by omega)
  generalize cellAt ns 1 = c at *
  have a1 := fmod_lo (a := c.fdiv 4) (b := 61) (by omega)
  have a2 := fmod_hi (a := c.fdiv 4) (b := 61) (by omega)
  have b1 := fmod_lo (a := c.fdiv 244) (b := 8) (by omega)
  have b2 := fmod_hi (a := c.fdiv 244) (b := 8) (by omega)
  have d1 : ((c.fdiv 244).fmod 8).fdiv 7 = ((c.fdiv 244).fmod 8) / 7 := Int.fdiv_eq_ediv_of_nonneg _ (by omega)
  have d2 : 0 ≤ ((c.fdiv 244).fmod 8).fdiv 7 ∧ ((c.fdiv 244).fmod 8).fdiv 7 ≤ 1 := by omega
  obtain ⟨z, hz⟩ : ∃ z : Nat, (c.fdiv 4).fmod 61 + 100 * ((c.fdiv 244).fmod 8).fdiv 7 = (z : Int) := ⟨_, (Int.toNat_of_nonneg (by omega)).symm⟩
  have hz2 : z ≤ 160 := by omega
  simp (disch := omega) only [B.L_cells_by_1236, B.L_cells_by_1236_s1, Ok_seq, Then_next, Then_ret, Turn_next, Turn_ret, Back_next, Back_ret, Ok_ite, Ok_and, Ok_or, Ok_cmp2, Ok_bind, Ok_ok, ev_none, ev_bool, ev_int, ev_str, ev_var, ev_glob, ev_fn, ev_bin, ev_neg, ev_not, ev_cmp, ev_list, ev_tup, ev_dictS, ev_dictI, ev_idx, ev_sl, ev_slFrom, ev_slTo, ev_call, ev_len, ev_listOf, ev_listRange, ev_listRev, ev_isinst, ev_toInt, ev_max, ev_min, ev_sum, ev_nil, ev_cons, ex_assign, ex_setItem, ex_append, ex_clear, ex_expr, ex_ret, ex_nil, bind_ok, ofB_some, cm_Eq, cm_NotEq, cm_Lt, cm_LtE, cm_Gt, cm_GtE, cm_Is, cm_IsNot, cm_In, cm_NotIn, eq_ii, eq_ss, eq_bb, eq_rr, eq_tt, eq_nx, eq_in, no_none, no_int, no_ref, no_tup, ist_ii, ist_ib, ist_bb, ist_tt, ist_ss, V.bool.injEq, F.ret.injEq, reduceCtorEq, and_true, true_and, false_and, and_false, or_false, false_or, exists_eq_left', decide_eq_true_eq, decide_eq_false_iff_not, exists_false, exists_const, Option.some.injEq, Bool.not_eq_true', Bool.not_eq_false', Bool.true_eq_false, Bool.false_eq_true, beq_iff_eq, beq_eq_false_iff_ne, ne_eq, not_true_eq_false, not_false_eq_true, Option.map_some, Bool.not_true, Bool.not_false, beq_self_eq_true, List.map_cons, List.map_nil, List.replicate_succ, List.replicate_zero, List.cons_append, List.nil_append, List.getElem?_cons_zero, List.getElem?_cons_succ, List.set_cons_zero, List.set_cons_succ, Nat.reduceSub, Nat.reduceAdd, List.length_cons, List.length_nil, Nat.zero_add, Nat.reduceLeDiff, if_true, if_false, cell, bin_mod, bin_fdiv, bin_mulL, bin_mulR, bin_add, hz]
  by_cases h : c.fmod 4 = 1
  · refine .inl ⟨h, ?_⟩
    rw [ev_comp_range (n := z) (g := fun i => .int (((c.fdiv 4 + 104729 * (i : Int)) * 48271).fmod 2147483647)) (by simp only [Ok_seq, Then_next, Then_ret, Turn_next, Turn_ret, Back_next, Back_ret, Ok_ite, Ok_and, Ok_or, Ok_cmp2, Ok_bind, Ok_ok, ev_none, ev_bool, ev_int, ev_str, ev_var, ev_glob, ev_fn, ev_bin, ev_neg, ev_not, ev_cmp, ev_list, ev_tup, ev_dictS, ev_dictI, ev_idx, ev_sl, ev_slFrom, ev_slTo, ev_call, ev_len, ev_listOf, ev_listRange, ev_listRev, ev_isinst, ev_toInt, ev_max, ev_min, ev_sum, ev_nil, ev_cons, ex_assign, ex_setItem, ex_append, ex_clear, ex_expr, ex_ret, ex_nil, bind_ok, ofB_some, cm_Eq, cm_NotEq, cm_Lt, cm_LtE, cm_Gt, cm_GtE, cm_Is, cm_IsNot, cm_In, cm_NotIn, eq_ii, eq_ss, eq_bb, eq_rr, eq_tt, eq_nx, eq_in, no_none, no_int, no_ref, no_tup, ist_ii, ist_ib, ist_bb, ist_tt, ist_ss, V.bool.injEq, F.ret.injEq, reduceCtorEq, and_true, true_and, false_and, and_false, or_false, false_or, exists_eq_left', decide_eq_true_eq, decide_eq_false_iff_not, exists_false, exists_const, Option.some.injEq, Bool.not_eq_true', Bool.not_eq_false', Bool.true_eq_false, Bool.false_eq_true, beq_iff_eq, beq_eq_false_iff_ne, ne_eq, not_true_eq_false, not_false_eq_true, Option.map_some, Bool.not_true, Bool.not_false, beq_self_eq_true, List.map_cons, List.map_nil, List.replicate_succ, List.replicate_zero, List.cons_append, List.nil_append, List.getElem?_cons_zero, List.getElem?_cons_succ, List.set_cons_zero, List.set_cons_succ, Nat.reduceSub, Nat.reduceAdd, List.length_cons, List.length_nil, Nat.zero_add, Nat.reduceLeDiff, if_true, if_false]) (by rw [sizeMax_eq]; omega) (fun i hi => by
      simp (disch := omega) only [Ok_seq, Then_next, Then_ret, Turn_next, Turn_ret, Back_next, Back_ret, Ok_ite, Ok_and, Ok_or, Ok_cmp2, Ok_bind, Ok_ok, ev_none, ev_bool, ev_int, ev_str, ev_var, ev_glob, ev_fn, ev_bin, ev_neg, ev_not, ev_cmp, ev_list, ev_tup, ev_dictS, ev_dictI, ev_idx, ev_sl, ev_slFrom, ev_slTo, ev_call, ev_len, ev_listOf, ev_listRange, ev_listRev, ev_isinst, ev_toInt, ev_max, ev_min, ev_sum, ev_nil, ev_cons, ex_assign, ex_setItem, ex_append, ex_clear, ex_expr, ex_ret, ex_nil, bind_ok, ofB_some, cm_Eq, cm_NotEq, cm_Lt, cm_LtE, cm_Gt, cm_GtE, cm_Is, cm_IsNot, cm_In, cm_NotIn, eq_ii, eq_ss, eq_bb, eq_rr, eq_tt, eq_nx, eq_in, no_none, no_int, no_ref, no_tup, ist_ii, ist_ib, ist_bb, ist_tt, ist_ss, V.bool.injEq, F.ret.injEq, reduceCtorEq, and_true, true_and, false_and, and_false, or_false, false_or, exists_eq_left', decide_eq_true_eq, decide_eq_false_iff_not, exists_false, exists_const, Option.some.injEq, Bool.not_eq_true', Bool.not_eq_false', Bool.true_eq_false, Bool.false_eq_true, beq_iff_eq, beq_eq_false_iff_ne, ne_eq, not_true_eq_false, not_false_eq_true, Option.map_some, Bool.not_true, Bool.not_false, beq_self_eq_true, List.map_cons, List.map_nil, List.replicate_succ, List.replicate_zero, List.cons_append, List.nil_append, List.getElem?_cons_zero, List.getElem?_cons_succ, List.set_cons_zero, List.set_cons_succ, Nat.reduceSub, Nat.reduceAdd, List.length_cons, List.length_nil, Nat.zero_add, Nat.reduceLeDiff, if_true, if_false, bin_mod, bin_fdiv, bin_mulL, bin_mulR, bin_add])]
    simp only [Ok_seq, Then_next, Then_ret, Turn_next, Turn_ret, Back_next, Back_ret, Ok_ite, Ok_and, Ok_or, Ok_cmp2, Ok_bind, Ok_ok, ev_none, ev_bool, ev_int, ev_str, ev_var, ev_glob, ev_fn, ev_bin, ev_neg, ev_not, ev_cmp, ev_list, ev_tup, ev_dictS, ev_dictI, ev_idx, ev_sl, ev_slFrom, ev_slTo, ev_call, ev_len, ev_listOf, ev_listRange, ev_listRev, ev_isinst, ev_toInt, ev_max, ev_min, ev_sum, ev_nil, ev_cons, ex_assign, ex_setItem, ex_append, ex_clear, ex_expr, ex_ret, ex_nil, bind_ok, ofB_some, cm_Eq, cm_NotEq, cm_Lt, cm_LtE, cm_Gt, cm_GtE, cm_Is, cm_IsNot, cm_In, cm_NotIn, eq_ii, eq_ss, eq_bb, eq_rr, eq_tt, eq_nx, eq_in, no_none, no_int, no_ref, no_tup, ist_ii, ist_ib, ist_bb, ist_tt, ist_ss, V.bool.injEq, F.ret.injEq, reduceCtorEq, and_true, true_and, false_and, and_false, or_false, false_or, exists_eq_left', decide_eq_true_eq, decide_eq_false_iff_not, exists_false, exists_const, Option.some.injEq, Bool.not_eq_true', Bool.not_eq_false', Bool.true_eq_false, Bool.false_eq_true, beq_iff_eq, beq_eq_false_iff_ne, ne_eq, not_true_eq_false, not_false_eq_true, Option.map_some, Bool.not_true, Bool.not_false, beq_self_eq_true, List.map_cons, List.map_nil, List.replicate_succ, List.replicate_zero, List.cons_append, List.nil_append, List.getElem?_cons_zero, List.getElem?_cons_succ, List.set_cons_zero, List.set_cons_succ, Nat.reduceSub, Nat.reduceAdd, List.length_cons, List.length_nil, Nat.zero_add, Nat.reduceLeDiff, if_true, if_false]
    refine ⟨_, (List.range z).map (fun (i : Nat) => ((c.fdiv 4 + 104729 * (i : Int)) * 48271).fmod 2147483647), rfl, List.prefix_append _ _, ?_, by simp; omega⟩
    rw [List.map_map]
    exact at_end
  · refine .inr ⟨h, ?_⟩
    simp (disch := omega) only [Ok_seq, Then_next, Then_ret, Turn_next, Turn_ret, Back_next, Back_ret, Ok_ite, Ok_and, Ok_or, Ok_cmp2, Ok_bind, Ok_ok, ev_none, ev_bool, ev_int, ev_str, ev_var, ev_glob, ev_fn, ev_bin, ev_neg, ev_not, ev_cmp, ev_list, ev_tup, ev_dictS, ev_dictI, ev_idx, ev_sl, ev_slFrom, ev_slTo, ev_call, ev_len, ev_listOf, ev_listRange, ev_listRev, ev_isinst, ev_toInt, ev_max, ev_min, ev_sum, ev_nil, ev_cons, ex_assign, ex_setItem, ex_append, ex_clear, ex_expr, ex_ret, ex_nil, bind_ok, ofB_some, cm_Eq, cm_NotEq, cm_Lt, cm_LtE, cm_Gt, cm_GtE, cm_Is, cm_IsNot, cm_In, cm_NotIn, eq_ii, eq_ss, eq_bb, eq_rr, eq_tt, eq_nx, eq_in, no_none, no_int, no_ref, no_tup, ist_ii, ist_ib, ist_bb, ist_tt, ist_ss, V.bool.injEq, F.ret.injEq, reduceCtorEq, and_true, true_and, false_and, and_false, or_false, false_or, exists_eq_left', decide_eq_true_eq, decide_eq_false_iff_not, exists_false, exists_const, Option.some.injEq, Bool.not_eq_true', Bool.not_eq_false', Bool.true_eq_false, Bool.false_eq_true, beq_iff_eq, beq_eq_false_iff_ne, ne_eq, not_true_eq_false, not_false_eq_true, Option.map_some, Bool.not_true, Bool.not_false, beq_self_eq_true, List.map_cons, List.map_nil, List.replicate_succ, List.replicate_zero, List.cons_append, List.nil_append, List.getElem?_cons_zero, List.getElem?_cons_succ, List.set_cons_zero, List.set_cons_succ, Nat.reduceSub, Nat.reduceAdd, List.length_cons, List.length_nil, Nat.zero_add, Nat.reduceLeDiff, if_true, if_false, bin_add, slV, Option.getD_some]
    rw [if_pos (by omega)]
    have hl : (cut ns (some (f : Int)) (some ((f : Int) + 960))).length ≤ 63 := by
      simp only [cut, List.length_drop, List.length_take]; omega
    simp only [Ok_newL, Ok_seq, Then_next, Then_ret, Turn_next, Turn_ret, Back_next, Back_ret, Ok_ite, Ok_and, Ok_or, Ok_cmp2, Ok_bind, Ok_ok, ev_none, ev_bool, ev_int, ev_str, ev_var, ev_glob, ev_fn, ev_bin, ev_neg, ev_not, ev_cmp, ev_list, ev_tup, ev_dictS, ev_dictI, ev_idx, ev_sl, ev_slFrom, ev_slTo, ev_call, ev_len, ev_listOf, ev_listRange, ev_listRev, ev_isinst, ev_toInt, ev_max, ev_min, ev_sum, ev_nil, ev_cons, ex_assign, ex_setItem, ex_append, ex_clear, ex_expr, ex_ret, ex_nil, bind_ok, ofB_some, cm_Eq, cm_NotEq, cm_Lt, cm_LtE, cm_Gt, cm_GtE, cm_Is, cm_IsNot, cm_In, cm_NotIn, eq_ii, eq_ss, eq_bb, eq_rr, eq_tt, eq_nx, eq_in, no_none, no_int, no_ref, no_tup, ist_ii, ist_ib, ist_bb, ist_tt, ist_ss, V.bool.injEq, F.ret.injEq, reduceCtorEq, and_true, true_and, false_and, and_false, or_false, false_or, exists_eq_left', decide_eq_true_eq, decide_eq_false_iff_not, exists_false, exists_const, Option.some.injEq, Bool.not_eq_true', Bool.not_eq_false', Bool.true_eq_false, Bool.false_eq_true, beq_iff_eq, beq_eq_false_iff_ne, ne_eq, not_true_eq_false, not_false_eq_true, Option.map_some, Bool.not_true, Bool.not_false, beq_self_eq_true, List.map_cons, List.map_nil, List.replicate_succ, List.replicate_zero, List.cons_append, List.nil_append, List.getElem?_cons_zero, List.getElem?_cons_succ, List.set_cons_zero, List.set_cons_succ, Nat.reduceSub, Nat.reduceAdd, List.length_cons, List.length_nil, Nat.zero_add, Nat.reduceLeDiff, if_true, if_false]
    refine ⟨by rw [List.length_map, sizeMax_eq]; omega, _, cut ns (some (f : Int)) (some ((f : Int) + 960)), rfl, List.prefix_append _ _, at_end, by omega⟩
end
end Mine

namespace Mine
open PySem

section
variable {ns : List Int} {G : List Int} {P : List Fn} {C : Nat → List V → Store → R V} {N : Nat} {σ τ : Store} {ρ : Loc}

noncomputable def natV (k : Nat) : V := .int (k : Int)
noncomputable def toV (l : Lt) : V := .int (l.to : Int)

theorem modify_to {ls : List Lt} {k p : Nat} : (ls.modify k (gotAt p)).map toV = ls.map toV := by
  apply List.ext_getElem?
  intro m
  rw [List.getElem?_map, List.getElem?_modify, List.getElem?_map]
  by_cases hm : k = m
  · subst hm
    cases ls[k]? <;> simp [toV, gotAt]
  · cases ls[m]? <;> simp [hm]

/-- the lists of the history's maker -/
structure RowsInv (σ : Store) (H j : Nat) (cells : List Int) (i : Nat) (ρ : Loc) (τ : Store) : Prop where
  pre : σ <+: τ
  ex : ∃ rs ws jw o5 o6 o7 o8, rs.length = i ∧ Hist H rs ∧ τ[σ.length]? = some (.list (List.map rv rs)) ∧ τ[σ.length + 1]? = some (.list ((lettersOf rs).map toV)) ∧ τ[jw]? = some (.list (List.map natV ws)) ∧ σ.length + 2 ≤ jw ∧
    ws.length ≤ i ∧ (∀ k ∈ ws, ∃ l, (lettersOf rs)[k]? = some l ∧ l.got = none) ∧ ρ = [some (V.ref j), some (V.int (H : Int)), some (V.ref σ.length), some (V.ref (σ.length + 1)), some (V.ref jw), o5, o6, o7, o8, none]

theorem ne_nil_eq {jw : Nat} {ws : List Nat} {c : Nat} (h : τ[jw]? = some (.list (List.map natV ws))) (hc : τ[c]? = some (.list [])) : eqD τ (.ref jw) (.ref c) = some (decide (ws = [])) := by
  have h1 : den τ 8 (.ref jw) = some (.list (ws.map fun (k : Nat) => PyData.int (k : Int))) := den_list (n := 7) h fun x _ => den_int 7 _
  have h2 : den τ 8 (.ref c) = some (.list []) := by rw [den_ref, hc]; rfl
  simp only [eqD, h1, h2, PyData.eqv]
  cases ws <;> simp [PyData.eqvAll]


theorem good_to {H : Nat} : ∀ (n : Nat) (rs : List Rw), rs.length = n → Hist H rs → ∀ l ∈ lettersOf rs, l.fr < H ∧ l.to < H ∧ l.at0 < rs.length ∧ ∀ g, l.got = some g → l.at0 < g ∧ g < rs.length
  | 0, rs, hn, _, l, hl => by
    have : rs = [] := List.length_eq_zero_iff.mp hn
    subst this
    simp [lettersOf, lettersFrom] at hl
  | n + 1, rs, hn, hG, l, hl => by
    have hi : n < rs.length := by omega
    have hr := hG n _ (List.getElem?_eq_getElem hi)
    have e : rs = rs.take n ++ [rs[n]] := by
      conv => lhs; rw [← List.take_length (l := rs), hn, List.take_add_one, List.getElem?_eq_getElem hi]
      rfl
    have hG0 : Hist H (rs.take n) := fun i x hx => by
      have hi' := (List.getElem?_eq_some_iff.mp hx).1
      simp at hi'
      rw [List.getElem?_take_of_lt (by omega)] at hx
      have := hG i x hx
      rwa [List.take_take, Nat.min_eq_left (by omega)]
    have hlen : (rs.take n).length = n := by simp; omega
    have ih := good_to n (rs.take n) hlen hG0
    generalize rs.take n = r0 at *
    generalize rs[n] = r at *
    subst e
    rw [letters_snoc] at hl
    have up : ∀ l ∈ lettersOf r0, l.fr < H ∧ l.to < H ∧ l.at0 < (r0 ++ [r]).length ∧ ∀ g, l.got = some g → l.at0 < g ∧ g < (r0 ++ [r]).length := fun l hl => by
      have := ih l hl
      refine ⟨this.1, this.2.1, by simp; omega, fun g hg => ?_⟩
      have := this.2.2.2 g hg
      simp; omega
    cases r with
    | note h => exact up l hl
    | send a b =>
      simp only [stepL] at hl
      rcases List.mem_append.mp hl with h | h
      · exact up l h
      · simp at h; subst h
        exact ⟨hr.1, hr.2, by simp, fun g hg => by simp at hg⟩
    | got h k =>
      simp only [stepL] at hl
      obtain ⟨x, hx, he⟩ := List.getElem_of_mem hl
      rw [List.getElem_modify] at he
      have hx' : x < (lettersOf r0).length := by simpa using hx
      have hu := up (lettersOf r0)[x] (List.getElem_mem hx')
      have hi2 := ih (lettersOf r0)[x] (List.getElem_mem hx')
      split at he
      · subst he
        refine ⟨hu.1, hu.2.1, hu.2.2.1, fun g hg => ?_⟩
        simp only [gotAt, Option.some.injEq] at hg
        subst hg
        simp only [gotAt]
        simp; omega
      · subst he; exact hu
theorem Hist.letter {H : Nat} {rs : List Rw} (h : Hist H rs) {l : Lt} (hl : l ∈ lettersOf rs) : l.fr < H ∧ l.to < H ∧ l.at0 < rs.length ∧ ∀ g, l.got = some g → l.at0 < g ∧ g < rs.length := good_to _ rs rfl h l hl

section
variable {d j H jw i : Nat} {cells : List Int} {rs : List Rw} {ws : List Nat} {c : Int} {o5 o6 o7 o8 : Option V}

/-- a sending -/
theorem rows_send {K : F × Loc → Store → Prop} (hpre : σ <+: τ) (hlen : rs.length = i) (hG : Hist H rs) (hjr : τ[σ.length]? = some (.list (List.map rv rs))) (hjs : τ[σ.length + 1]? = some (.list ((lettersOf rs).map toV))) (hjw : τ[jw]? = some (.list (List.map natV ws)))
    (hw2 : σ.length + 2 ≤ jw) (hwl : ws.length ≤ i) (hws : ∀ k ∈ ws, ∃ l, (lettersOf rs)[k]? = some l ∧ l.got = none) (h1 : 1 ≤ H) (h40 : H ≤ 40) (hi : i < 1000)
    (hK : ∀ ρ' τ', RowsInv σ H j cells (i + 1) ρ' τ' → K (.next, ρ') τ') :
    Ok (exSs ns G C N B.L_rows_by_s2 [some (V.ref j), some (V.int (H : Int)), some (V.ref σ.length), some (V.ref (σ.length + 1)), some (V.ref jw), o5, o6, some (V.int c), o8, none] τ) K := by
  have hH : (0 : Int) < (H : Int) := by omega
  have q1 := fmod_lo (a := c) (b := (H : Int)) hH
  have q2 := fmod_hi (a := c) (b := (H : Int)) hH
  have q3 := fmod_lo (a := c.fdiv H) (b := (H : Int)) hH
  have q4 := fmod_hi (a := c.fdiv H) (b := (H : Int)) hH
  obtain ⟨a, ha⟩ : ∃ a : Nat, c.fmod H = (a : Int) := ⟨_, (Int.toNat_of_nonneg q1).symm⟩
  obtain ⟨b, hb⟩ : ∃ b : Nat, (c.fdiv H).fmod H = (b : Int) := ⟨_, (Int.toNat_of_nonneg q3).symm⟩
  have haH : a < H := by omega
  have hbH : b < H := by omega
  have hrz : (rs.map rv).length < sizeMax := by rw [List.length_map, sizeMax_eq]; omega
  have hll := letters_len rs
  have hsz : ((lettersOf rs).map toV).length < sizeMax := by rw [List.length_map, sizeMax_eq]; omega
  have hwz : (ws.map natV).length < sizeMax := by rw [List.length_map, sizeMax_eq]; omega
  have s2 := at_set_ne (c := Cell.list (List.map rv rs ++ [rv (.send a b)])) hjs (show σ.length ≠ σ.length + 1 by omega)
  have w2 := at_set_ne (c := Cell.list (List.map rv rs ++ [rv (.send a b)])) hjw (show σ.length ≠ jw by omega)
  have s3 := at_set_ne (c := Cell.list (List.map natV ws ++ [natV (lettersOf rs).length])) s2 (show jw ≠ σ.length + 1 by omega)
  have e1 := app_list (v := rv (.send a b)) hjr hrz
  have e2 := app_list (v := natV (lettersOf rs).length) w2 hwz
  have e3 := app_list (v := V.int (b : Int)) s3 hsz
  have e0 : natV (lettersOf rs).length = .int ((lettersOf rs).length : Int) := rfl
  have f1 : rv (.send a b) = .tup [.str (Str.ofString "send"), .int (a : Int), .int (b : Int)] := rfl
  simp (disch := omega) only [B.L_rows_by_s2, Ok_seq, Then_next, Then_ret, Turn_next, Turn_ret, Back_next, Back_ret, Ok_ite, Ok_and, Ok_or, Ok_cmp2, Ok_bind, Ok_ok, ev_none, ev_bool, ev_int, ev_str, ev_var, ev_glob, ev_fn, ev_bin, ev_neg, ev_not, ev_cmp, ev_list, ev_tup, ev_dictS, ev_dictI, ev_idx, ev_sl, ev_slFrom, ev_slTo, ev_call, ev_len, ev_listOf, ev_listRange, ev_listRev, ev_isinst, ev_toInt, ev_max, ev_min, ev_sum, ev_nil, ev_cons, ex_assign, ex_setItem, ex_append, ex_clear, ex_expr, ex_ret, ex_nil, bind_ok, ofB_some, cm_Eq, cm_NotEq, cm_Lt, cm_LtE, cm_Gt, cm_GtE, cm_Is, cm_IsNot, cm_In, cm_NotIn, eq_ii, eq_ss, eq_bb, eq_rr, eq_tt, eq_nx, eq_in, no_none, no_int, no_ref, no_tup, ist_ii, ist_ib, ist_bb, ist_tt, ist_ss, V.bool.injEq, F.ret.injEq, reduceCtorEq, and_true, true_and, false_and, and_false, or_false, false_or, exists_eq_left', decide_eq_true_eq, decide_eq_false_iff_not, exists_false, exists_const, Option.some.injEq, Bool.not_eq_true', Bool.not_eq_false', Bool.true_eq_false, Bool.false_eq_true, beq_iff_eq, beq_eq_false_iff_ne, ne_eq, not_true_eq_false, not_false_eq_true, Option.map_some, Bool.not_true, Bool.not_false, beq_self_eq_true, List.map_cons, List.map_nil, List.replicate_succ, List.replicate_zero, List.cons_append, List.nil_append, List.getElem?_cons_zero, List.getElem?_cons_succ, List.set_cons_zero, List.set_cons_succ, Nat.reduceSub, Nat.reduceAdd, List.length_cons, List.length_nil, Nat.zero_add, Nat.reduceLeDiff, if_true, if_false, bin_mod, bin_fdiv, ha, hb, isL_list hjr, ← f1, e1, isL_list w2, len_map s2, ← e0, e2, isL_list s3, e3]
  refine hK _ _ ⟨pre_set (pre_set (pre_set hpre (Nat.le_refl _)) (by omega)) (by omega), rs ++ [.send a b], ws ++ [(lettersOf rs).length], jw, _, _, _, _, by simp [hlen], hG.snoc (r := .send a b) ⟨haH, hbH⟩, ?_, ?_, ?_, hw2, by simp; omega, ?_, rfl⟩
  · rw [List.getElem?_set_ne (by omega), List.getElem?_set_ne (by omega), at_set hjr]; simp
  · rw [at_set s3, letters_snoc]; simp [stepL, toV]
  · rw [List.getElem?_set_ne (by omega), at_set w2]; simp
  · intro m hm
    rw [letters_snoc]
    simp only [stepL]
    rcases List.mem_append.mp hm with h | h
    · obtain ⟨l, hl, hg⟩ := hws m h
      exact ⟨l, by rw [List.getElem?_append_left (List.getElem?_eq_some_iff.mp hl).1]; exact hl, hg⟩
    · simp at h; subst h
      exact ⟨⟨a, b, rs.length, none⟩, by simp, rfl⟩

/-- a letter is got -/
theorem rows_got {K : F × Loc → Store → Prop} (hpre : σ <+: τ) (hlen : rs.length = i) (hG : Hist H rs) (hjr : τ[σ.length]? = some (.list (List.map rv rs))) (hjs : τ[σ.length + 1]? = some (.list ((lettersOf rs).map toV))) (hjw : τ[jw]? = some (.list (List.map natV ws)))
    (hw2 : σ.length + 2 ≤ jw) (hwl : ws.length ≤ i) (hws : ∀ k ∈ ws, ∃ l, (lettersOf rs)[k]? = some l ∧ l.got = none) (hne : ws ≠ []) (hi : i < 1000)
    (hK : ∀ ρ' τ', RowsInv σ H j cells (i + 1) ρ' τ' → K (.next, ρ') τ') :
    Ok (exSs ns G C N B.L_rows_by_s1 [some (V.ref j), some (V.int (H : Int)), some (V.ref σ.length), some (V.ref (σ.length + 1)), some (V.ref jw), o5, o6, some (V.int c), o8, none] τ) K := by
  have hw0 : 0 < ws.length := List.length_pos_iff.mpr hne
  have p1 := fmod_lo (a := c) (b := (ws.length : Int)) (by omega)
  have p2 := fmod_hi (a := c) (b := (ws.length : Int)) (by omega)
  obtain ⟨m, hm⟩ : ∃ m : Nat, c.fmod (ws.length : Int) = (m : Int) := ⟨_, (Int.toNat_of_nonneg p1).symm⟩
  have hml : m < ws.length := by omega
  have hwm : ws[m]? = some ws[m] := List.getElem?_eq_getElem hml
  obtain ⟨l, hl, hg⟩ := hws ws[m] (List.getElem_mem hml)
  generalize ws[m] = q at *
  have hq := (hG.letter (List.mem_of_getElem? hl)).2.1
  have hrz : (rs.map rv).length < sizeMax := by rw [List.length_map, sizeMax_eq]; omega
  have hcomp : evE ns G C [some (V.ref j), some (V.int (H : Int)), some (V.ref σ.length), some (V.ref (σ.length + 1)), some (V.ref jw), o5, o6, some (V.int c), some (natV q), none] (.compIf (.var 9) 9 (.seq (.var 4)) (.cmp .NotEq (.var 9) (.var 8))) τ = .ok (.ref τ.length) (τ ++ [.list ((ws.filter fun x => !(x == q)).map natV)]) := by
    refine ev_compIf_seq (rv := natV) (xs := ws) (by simp only [Ok_seq, Then_next, Then_ret, Turn_next, Turn_ret, Back_next, Back_ret, Ok_ite, Ok_and, Ok_or, Ok_cmp2, Ok_bind, Ok_ok, ev_none, ev_bool, ev_int, ev_str, ev_var, ev_glob, ev_fn, ev_bin, ev_neg, ev_not, ev_cmp, ev_list, ev_tup, ev_dictS, ev_dictI, ev_idx, ev_sl, ev_slFrom, ev_slTo, ev_call, ev_len, ev_listOf, ev_listRange, ev_listRev, ev_isinst, ev_toInt, ev_max, ev_min, ev_sum, ev_nil, ev_cons, ex_assign, ex_setItem, ex_append, ex_clear, ex_expr, ex_ret, ex_nil, bind_ok, ofB_some, cm_Eq, cm_NotEq, cm_Lt, cm_LtE, cm_Gt, cm_GtE, cm_Is, cm_IsNot, cm_In, cm_NotIn, eq_ii, eq_ss, eq_bb, eq_rr, eq_tt, eq_nx, eq_in, no_none, no_int, no_ref, no_tup, ist_ii, ist_ib, ist_bb, ist_tt, ist_ss, V.bool.injEq, F.ret.injEq, reduceCtorEq, and_true, true_and, false_and, and_false, or_false, false_or, exists_eq_left', decide_eq_true_eq, decide_eq_false_iff_not, exists_false, exists_const, Option.some.injEq, Bool.not_eq_true', Bool.not_eq_false', Bool.true_eq_false, Bool.false_eq_true, beq_iff_eq, beq_eq_false_iff_ne, ne_eq, not_true_eq_false, not_false_eq_true, Option.map_some, Bool.not_true, Bool.not_false, beq_self_eq_true, List.map_cons, List.map_nil, List.replicate_succ, List.replicate_zero, List.cons_append, List.nil_append, List.getElem?_cons_zero, List.getElem?_cons_succ, List.set_cons_zero, List.set_cons_succ, Nat.reduceSub, Nat.reduceAdd, List.length_cons, List.length_nil, Nat.zero_add, Nat.reduceLeDiff, if_true, if_false]) hjw (by rw [sizeMax_eq]; omega) (fun x hx => ?_) (fun x hx _ => ?_)
    · simp only [Ok_seq, Then_next, Then_ret, Turn_next, Turn_ret, Back_next, Back_ret, Ok_ite, Ok_and, Ok_or, Ok_cmp2, Ok_bind, Ok_ok, ev_none, ev_bool, ev_int, ev_str, ev_var, ev_glob, ev_fn, ev_bin, ev_neg, ev_not, ev_cmp, ev_list, ev_tup, ev_dictS, ev_dictI, ev_idx, ev_sl, ev_slFrom, ev_slTo, ev_call, ev_len, ev_listOf, ev_listRange, ev_listRev, ev_isinst, ev_toInt, ev_max, ev_min, ev_sum, ev_nil, ev_cons, ex_assign, ex_setItem, ex_append, ex_clear, ex_expr, ex_ret, ex_nil, bind_ok, ofB_some, cm_Eq, cm_NotEq, cm_Lt, cm_LtE, cm_Gt, cm_GtE, cm_Is, cm_IsNot, cm_In, cm_NotIn, eq_ii, eq_ss, eq_bb, eq_rr, eq_tt, eq_nx, eq_in, no_none, no_int, no_ref, no_tup, ist_ii, ist_ib, ist_bb, ist_tt, ist_ss, V.bool.injEq, F.ret.injEq, reduceCtorEq, and_true, true_and, false_and, and_false, or_false, false_or, exists_eq_left', decide_eq_true_eq, decide_eq_false_iff_not, exists_false, exists_const, Option.some.injEq, Bool.not_eq_true', Bool.not_eq_false', Bool.true_eq_false, Bool.false_eq_true, beq_iff_eq, beq_eq_false_iff_ne, ne_eq, not_true_eq_false, not_false_eq_true, Option.map_some, Bool.not_true, Bool.not_false, beq_self_eq_true, List.map_cons, List.map_nil, List.replicate_succ, List.replicate_zero, List.cons_append, List.nil_append, List.getElem?_cons_zero, List.getElem?_cons_succ, List.set_cons_zero, List.set_cons_succ, Nat.reduceSub, Nat.reduceAdd, List.length_cons, List.length_nil, Nat.zero_add, Nat.reduceLeDiff, if_true, if_false, natV]
      congr 2
      by_cases h : x = q
      · subst h; simp
      · have h2 : ((x : Int) == (q : Int)) = false := by simp; omega
        have h3 : (x == q) = false := by simp [h]
        rw [h2, h3]
    · simp only [Ok_seq, Then_next, Then_ret, Turn_next, Turn_ret, Back_next, Back_ret, Ok_ite, Ok_and, Ok_or, Ok_cmp2, Ok_bind, Ok_ok, ev_none, ev_bool, ev_int, ev_str, ev_var, ev_glob, ev_fn, ev_bin, ev_neg, ev_not, ev_cmp, ev_list, ev_tup, ev_dictS, ev_dictI, ev_idx, ev_sl, ev_slFrom, ev_slTo, ev_call, ev_len, ev_listOf, ev_listRange, ev_listRev, ev_isinst, ev_toInt, ev_max, ev_min, ev_sum, ev_nil, ev_cons, ex_assign, ex_setItem, ex_append, ex_clear, ex_expr, ex_ret, ex_nil, bind_ok, ofB_some, cm_Eq, cm_NotEq, cm_Lt, cm_LtE, cm_Gt, cm_GtE, cm_Is, cm_IsNot, cm_In, cm_NotIn, eq_ii, eq_ss, eq_bb, eq_rr, eq_tt, eq_nx, eq_in, no_none, no_int, no_ref, no_tup, ist_ii, ist_ib, ist_bb, ist_tt, ist_ss, V.bool.injEq, F.ret.injEq, reduceCtorEq, and_true, true_and, false_and, and_false, or_false, false_or, exists_eq_left', decide_eq_true_eq, decide_eq_false_iff_not, exists_false, exists_const, Option.some.injEq, Bool.not_eq_true', Bool.not_eq_false', Bool.true_eq_false, Bool.false_eq_true, beq_iff_eq, beq_eq_false_iff_ne, ne_eq, not_true_eq_false, not_false_eq_true, Option.map_some, Bool.not_true, Bool.not_false, beq_self_eq_true, List.map_cons, List.map_nil, List.replicate_succ, List.replicate_zero, List.cons_append, List.nil_append, List.getElem?_cons_zero, List.getElem?_cons_succ, List.set_cons_zero, List.set_cons_succ, Nat.reduceSub, Nat.reduceAdd, List.length_cons, List.length_nil, Nat.zero_add, Nat.reduceLeDiff, if_true, if_false, natV]
  have f0 : natV q = .int (q : Int) := rfl
  have hr1 := at_app (τ := [Cell.list ((ws.filter fun x => !(x == q)).map natV)]) hjr
  have hs1 := at_app (τ := [Cell.list ((ws.filter fun x => !(x == q)).map natV)]) hjs
  have e1 := app_list (v := rv (.got l.to q)) hr1 hrz
  have f1 : rv (.got l.to q) = .tup [.str (Str.ofString "got"), .int (l.to : Int), .int (q : Int)] := rfl
  have hnz : (ws.length : Int) ≠ 0 := by omega
  have hsq := idx_map (ns := ns) (f := toV) hs1 hl
  simp only [toV] at hsq
  simp only [B.L_rows_by_s1, Ok_seq, Then_next, Then_ret, Turn_next, Turn_ret, Back_next, Back_ret, Ok_ite, Ok_and, Ok_or, Ok_cmp2, Ok_bind, Ok_ok, ev_none, ev_bool, ev_int, ev_str, ev_var, ev_glob, ev_fn, ev_bin, ev_neg, ev_not, ev_cmp, ev_list, ev_tup, ev_dictS, ev_dictI, ev_idx, ev_sl, ev_slFrom, ev_slTo, ev_call, ev_len, ev_listOf, ev_listRange, ev_listRev, ev_isinst, ev_toInt, ev_max, ev_min, ev_sum, ev_nil, ev_cons, ex_assign, ex_setItem, ex_append, ex_clear, ex_expr, ex_ret, ex_nil, bind_ok, ofB_some, cm_Eq, cm_NotEq, cm_Lt, cm_LtE, cm_Gt, cm_GtE, cm_Is, cm_IsNot, cm_In, cm_NotIn, eq_ii, eq_ss, eq_bb, eq_rr, eq_tt, eq_nx, eq_in, no_none, no_int, no_ref, no_tup, ist_ii, ist_ib, ist_bb, ist_tt, ist_ss, V.bool.injEq, F.ret.injEq, reduceCtorEq, and_true, true_and, false_and, and_false, or_false, false_or, exists_eq_left', decide_eq_true_eq, decide_eq_false_iff_not, exists_false, exists_const, Option.some.injEq, Bool.not_eq_true', Bool.not_eq_false', Bool.true_eq_false, Bool.false_eq_true, beq_iff_eq, beq_eq_false_iff_ne, ne_eq, not_true_eq_false, not_false_eq_true, Option.map_some, Bool.not_true, Bool.not_false, beq_self_eq_true, List.map_cons, List.map_nil, List.replicate_succ, List.replicate_zero, List.cons_append, List.nil_append, List.getElem?_cons_zero, List.getElem?_cons_succ, List.set_cons_zero, List.set_cons_succ, Nat.reduceSub, Nat.reduceAdd, List.length_cons, List.length_nil, Nat.zero_add, Nat.reduceLeDiff, if_true, if_false, len_map hjw, bin_mod hnz, hm, idx_map hjw hwm, hcomp, isL_list hr1]
  simp only [f0, hsq, Ok_seq, Then_next, Then_ret, Turn_next, Turn_ret, Back_next, Back_ret, Ok_ite, Ok_and, Ok_or, Ok_cmp2, Ok_bind, Ok_ok, ev_none, ev_bool, ev_int, ev_str, ev_var, ev_glob, ev_fn, ev_bin, ev_neg, ev_not, ev_cmp, ev_list, ev_tup, ev_dictS, ev_dictI, ev_idx, ev_sl, ev_slFrom, ev_slTo, ev_call, ev_len, ev_listOf, ev_listRange, ev_listRev, ev_isinst, ev_toInt, ev_max, ev_min, ev_sum, ev_nil, ev_cons, ex_assign, ex_setItem, ex_append, ex_clear, ex_expr, ex_ret, ex_nil, bind_ok, ofB_some, cm_Eq, cm_NotEq, cm_Lt, cm_LtE, cm_Gt, cm_GtE, cm_Is, cm_IsNot, cm_In, cm_NotIn, eq_ii, eq_ss, eq_bb, eq_rr, eq_tt, eq_nx, eq_in, no_none, no_int, no_ref, no_tup, ist_ii, ist_ib, ist_bb, ist_tt, ist_ss, V.bool.injEq, F.ret.injEq, reduceCtorEq, and_true, true_and, false_and, and_false, or_false, false_or, exists_eq_left', decide_eq_true_eq, decide_eq_false_iff_not, exists_false, exists_const, Option.some.injEq, Bool.not_eq_true', Bool.not_eq_false', Bool.true_eq_false, Bool.false_eq_true, beq_iff_eq, beq_eq_false_iff_ne, ne_eq, not_true_eq_false, not_false_eq_true, Option.map_some, Bool.not_true, Bool.not_false, beq_self_eq_true, List.map_cons, List.map_nil, List.replicate_succ, List.replicate_zero, List.cons_append, List.nil_append, List.getElem?_cons_zero, List.getElem?_cons_succ, List.set_cons_zero, List.set_cons_succ, Nat.reduceSub, Nat.reduceAdd, List.length_cons, List.length_nil, Nat.zero_add, Nat.reduceLeDiff, if_true, if_false, ← f1, e1]
  refine hK _ _ ⟨pre_set (pre_app hpre) (Nat.le_refl _), rs ++ [.got l.to q], ws.filter (fun x => !(x == q)), τ.length, _, _, _, _, by simp [hlen], hG.snoc (r := .got l.to q) ⟨hq, l, hl, rfl, hg⟩, ?_, ?_, ?_, ?_, ?_, ?_, rfl⟩
  · rw [at_set hr1]; simp
  · rw [List.getElem?_set_ne (by omega), hs1, letters_snoc]
    simp only [stepL, modify_to]
  · rw [List.getElem?_set_ne (by have := at_lt hjr; omega)]; exact at_end
  · have := at_lt hjw; omega
  · have := List.length_filter_le (fun x => !(x == q)) ws; omega
  · intro x hx
    obtain ⟨hx1, hx2⟩ := List.mem_filter.mp hx
    have hxq : q ≠ x := by intro e; subst e; simp at hx2
    obtain ⟨l', hl', hg'⟩ := hws x hx1
    refine ⟨l', ?_, hg'⟩
    rw [letters_snoc]
    simp only [stepL]
    rw [List.getElem?_modify_ne _ _ hxq]
    exact hl'
end

theorem rows_ok {d k j H : Nat} {cells : List Int} (hp : P[k]? = some B.L_rows_by) (hj : σ[j]? = some (.list (cells.map V.int))) (h1 : 1 ≤ H) (h40 : H ≤ 40) (hz : cells.length ≤ 1000) :
    Ok (callF ns G P N (d + 1) k [.ref j, .int (H : Int)] σ) (fun v σ' => ∃ jr rows, v = .ref jr ∧ σ <+: σ' ∧ σ'[jr]? = some (.list (List.map rv rows)) ∧ Hist H rows ∧ rows.length = cells.length) := by
  refine ok_call hp rfl ?_
  simp only [B.L_rows_by, Ok_seq, Then_next, Then_ret, Turn_next, Turn_ret, Back_next, Back_ret, Ok_ite, Ok_and, Ok_or, Ok_cmp2, Ok_bind, Ok_ok, ev_none, ev_bool, ev_int, ev_str, ev_var, ev_glob, ev_fn, ev_bin, ev_neg, ev_not, ev_cmp, ev_list, ev_tup, ev_dictS, ev_dictI, ev_idx, ev_sl, ev_slFrom, ev_slTo, ev_call, ev_len, ev_listOf, ev_listRange, ev_listRev, ev_isinst, ev_toInt, ev_max, ev_min, ev_sum, ev_nil, ev_cons, ex_assign, ex_setItem, ex_append, ex_clear, ex_expr, ex_ret, ex_nil, bind_ok, ofB_some, cm_Eq, cm_NotEq, cm_Lt, cm_LtE, cm_Gt, cm_GtE, cm_Is, cm_IsNot, cm_In, cm_NotIn, eq_ii, eq_ss, eq_bb, eq_rr, eq_tt, eq_nx, eq_in, no_none, no_int, no_ref, no_tup, ist_ii, ist_ib, ist_bb, ist_tt, ist_ss, V.bool.injEq, F.ret.injEq, reduceCtorEq, and_true, true_and, false_and, and_false, or_false, false_or, exists_eq_left', decide_eq_true_eq, decide_eq_false_iff_not, exists_false, exists_const, Option.some.injEq, Bool.not_eq_true', Bool.not_eq_false', Bool.true_eq_false, Bool.false_eq_true, beq_iff_eq, beq_eq_false_iff_ne, ne_eq, not_true_eq_false, not_false_eq_true, Option.map_some, Bool.not_true, Bool.not_false, beq_self_eq_true, List.map_cons, List.map_nil, List.replicate_succ, List.replicate_zero, List.cons_append, List.nil_append, List.getElem?_cons_zero, List.getElem?_cons_succ, List.set_cons_zero, List.set_cons_succ, Nat.reduceSub, Nat.reduceAdd, List.length_cons, List.length_nil, Nat.zero_add, Nat.reduceLeDiff, if_true, if_false, Ok_newL, Nat.zero_le]
  have hH : (0 : Int) < (H : Int) := by omega
  refine ok_for_seq (cells.map V.int) (j := j) (by simp only [Ok_seq, Then_next, Then_ret, Turn_next, Turn_ret, Back_next, Back_ret, Ok_ite, Ok_and, Ok_or, Ok_cmp2, Ok_bind, Ok_ok, ev_none, ev_bool, ev_int, ev_str, ev_var, ev_glob, ev_fn, ev_bin, ev_neg, ev_not, ev_cmp, ev_list, ev_tup, ev_dictS, ev_dictI, ev_idx, ev_sl, ev_slFrom, ev_slTo, ev_call, ev_len, ev_listOf, ev_listRange, ev_listRev, ev_isinst, ev_toInt, ev_max, ev_min, ev_sum, ev_nil, ev_cons, ex_assign, ex_setItem, ex_append, ex_clear, ex_expr, ex_ret, ex_nil, bind_ok, ofB_some, cm_Eq, cm_NotEq, cm_Lt, cm_LtE, cm_Gt, cm_GtE, cm_Is, cm_IsNot, cm_In, cm_NotIn, eq_ii, eq_ss, eq_bb, eq_rr, eq_tt, eq_nx, eq_in, no_none, no_int, no_ref, no_tup, ist_ii, ist_ib, ist_bb, ist_tt, ist_ss, V.bool.injEq, F.ret.injEq, reduceCtorEq, and_true, true_and, false_and, and_false, or_false, false_or, exists_eq_left', decide_eq_true_eq, decide_eq_false_iff_not, exists_false, exists_const, Option.some.injEq, Bool.not_eq_true', Bool.not_eq_false', Bool.true_eq_false, Bool.false_eq_true, beq_iff_eq, beq_eq_false_iff_ne, ne_eq, not_true_eq_false, not_false_eq_true, Option.map_some, Bool.not_true, Bool.not_false, beq_self_eq_true, List.map_cons, List.map_nil, List.replicate_succ, List.replicate_zero, List.cons_append, List.nil_append, List.getElem?_cons_zero, List.getElem?_cons_succ, List.set_cons_zero, List.set_cons_succ, Nat.reduceSub, Nat.reduceAdd, List.length_cons, List.length_nil, Nat.zero_add, Nat.reduceLeDiff, if_true, if_false]) (RowsInv σ H j cells) ?_ ?_ ?_ ?_
  · intro i ρ τ h; exact at_pre hj h.pre
  · refine ⟨by rw [List.append_assoc, List.append_assoc]; exact List.prefix_append _ _, [], [], σ.length + 2, none, none, none, none, rfl, .nil, at_app (at_app at_end), ?_, ?_, Nat.le_refl _, Nat.le_refl _, fun k hk => by simp at hk, ?_⟩
    · exact at_app (by simp [lettersOf, lettersFrom])
    · simp
    · simp
  · rintro i v ρ τ hv ⟨hpre, rs, ws, jw, o5, o6, o7, o8, hlen, hG, hjr, hjs, hjw, hw2, hwl, hws, rfl⟩
    rw [List.getElem?_map] at hv
    cases hci : cells[i]? with
    | none => rw [hci] at hv; cases hv
    | some c =>
      rw [hci] at hv; cases hv
      have hi := (List.getElem?_eq_some_iff.mp hci).1
      have hlr := at_lt hjr
      simp (disch := omega) only [B.L_rows_by_s3, Ok_seq, Then_next, Then_ret, Turn_next, Turn_ret, Back_next, Back_ret, Ok_ite, Ok_and, Ok_or, Ok_cmp2, Ok_bind, Ok_ok, ev_none, ev_bool, ev_int, ev_str, ev_var, ev_glob, ev_fn, ev_bin, ev_neg, ev_not, ev_cmp, ev_list, ev_tup, ev_dictS, ev_dictI, ev_idx, ev_sl, ev_slFrom, ev_slTo, ev_call, ev_len, ev_listOf, ev_listRange, ev_listRev, ev_isinst, ev_toInt, ev_max, ev_min, ev_sum, ev_nil, ev_cons, ex_assign, ex_setItem, ex_append, ex_clear, ex_expr, ex_ret, ex_nil, bind_ok, ofB_some, cm_Eq, cm_NotEq, cm_Lt, cm_LtE, cm_Gt, cm_GtE, cm_Is, cm_IsNot, cm_In, cm_NotIn, eq_ii, eq_ss, eq_bb, eq_rr, eq_tt, eq_nx, eq_in, no_none, no_int, no_ref, no_tup, ist_ii, ist_ib, ist_bb, ist_tt, ist_ss, V.bool.injEq, F.ret.injEq, reduceCtorEq, and_true, true_and, false_and, and_false, or_false, false_or, exists_eq_left', decide_eq_true_eq, decide_eq_false_iff_not, exists_false, exists_const, Option.some.injEq, Bool.not_eq_true', Bool.not_eq_false', Bool.true_eq_false, Bool.false_eq_true, beq_iff_eq, beq_eq_false_iff_ne, ne_eq, not_true_eq_false, not_false_eq_true, Option.map_some, Bool.not_true, Bool.not_false, beq_self_eq_true, List.map_cons, List.map_nil, List.replicate_succ, List.replicate_zero, List.cons_append, List.nil_append, List.getElem?_cons_zero, List.getElem?_cons_succ, List.set_cons_zero, List.set_cons_succ, Nat.reduceSub, Nat.reduceAdd, List.length_cons, List.length_nil, Nat.zero_add, Nat.reduceLeDiff, if_true, if_false, bin_mod, bin_fdiv]
      by_cases c1 : 5 < c.fmod 8
      · refine .inl ⟨c1, ?_⟩
        have q1 := fmod_lo (a := c.fdiv 8) (b := (H : Int)) hH
        have q2 := fmod_hi (a := c.fdiv 8) (b := (H : Int)) hH
        obtain ⟨a, ha⟩ : ∃ a : Nat, (c.fdiv 8).fmod H = (a : Int) := ⟨_, (Int.toNat_of_nonneg q1).symm⟩
        have haH : a < H := by omega
        have e1 := app_list (v := rv (.note a)) hjr (by rw [List.length_map, sizeMax_eq]; omega)
        have f1 : rv (.note a) = .tup [.str (Str.ofString "note"), .int (a : Int)] := rfl
        simp (disch := omega) only [Ok_seq, Then_next, Then_ret, Turn_next, Turn_ret, Back_next, Back_ret, Ok_ite, Ok_and, Ok_or, Ok_cmp2, Ok_bind, Ok_ok, ev_none, ev_bool, ev_int, ev_str, ev_var, ev_glob, ev_fn, ev_bin, ev_neg, ev_not, ev_cmp, ev_list, ev_tup, ev_dictS, ev_dictI, ev_idx, ev_sl, ev_slFrom, ev_slTo, ev_call, ev_len, ev_listOf, ev_listRange, ev_listRev, ev_isinst, ev_toInt, ev_max, ev_min, ev_sum, ev_nil, ev_cons, ex_assign, ex_setItem, ex_append, ex_clear, ex_expr, ex_ret, ex_nil, bind_ok, ofB_some, cm_Eq, cm_NotEq, cm_Lt, cm_LtE, cm_Gt, cm_GtE, cm_Is, cm_IsNot, cm_In, cm_NotIn, eq_ii, eq_ss, eq_bb, eq_rr, eq_tt, eq_nx, eq_in, no_none, no_int, no_ref, no_tup, ist_ii, ist_ib, ist_bb, ist_tt, ist_ss, V.bool.injEq, F.ret.injEq, reduceCtorEq, and_true, true_and, false_and, and_false, or_false, false_or, exists_eq_left', decide_eq_true_eq, decide_eq_false_iff_not, exists_false, exists_const, Option.some.injEq, Bool.not_eq_true', Bool.not_eq_false', Bool.true_eq_false, Bool.false_eq_true, beq_iff_eq, beq_eq_false_iff_ne, ne_eq, not_true_eq_false, not_false_eq_true, Option.map_some, Bool.not_true, Bool.not_false, beq_self_eq_true, List.map_cons, List.map_nil, List.replicate_succ, List.replicate_zero, List.cons_append, List.nil_append, List.getElem?_cons_zero, List.getElem?_cons_succ, List.set_cons_zero, List.set_cons_succ, Nat.reduceSub, Nat.reduceAdd, List.length_cons, List.length_nil, Nat.zero_add, Nat.reduceLeDiff, if_true, if_false, bin_mod, bin_fdiv, ha, isL_list hjr, ← f1, e1]
        refine ⟨pre_set hpre (Nat.le_refl _), rs ++ [.note a], ws, jw, _, _, _, _, by simp [hlen], hG.snoc (r := .note a) haH, ?_, ?_, ?_, hw2, by omega, ?_, rfl⟩
        · rw [at_set hjr]; simp
        · rw [List.getElem?_set_ne (by omega), hjs, letters_snoc]; rfl
        · rw [List.getElem?_set_ne (by omega)]; exact hjw
        · rw [letters_snoc]; exact hws
      · refine .inr ⟨c1, ?_⟩
        by_cases c2 : 2 < c.fmod 8
        · refine .inl ⟨c2, ?_⟩
          have hnil := ne_nil_eq (τ := τ ++ [Cell.list []]) (at_app hjw) at_end
          simp (disch := omega) only [Ok_seq, Then_next, Then_ret, Turn_next, Turn_ret, Back_next, Back_ret, Ok_ite, Ok_and, Ok_or, Ok_cmp2, Ok_bind, Ok_ok, ev_none, ev_bool, ev_int, ev_str, ev_var, ev_glob, ev_fn, ev_bin, ev_neg, ev_not, ev_cmp, ev_list, ev_tup, ev_dictS, ev_dictI, ev_idx, ev_sl, ev_slFrom, ev_slTo, ev_call, ev_len, ev_listOf, ev_listRange, ev_listRev, ev_isinst, ev_toInt, ev_max, ev_min, ev_sum, ev_nil, ev_cons, ex_assign, ex_setItem, ex_append, ex_clear, ex_expr, ex_ret, ex_nil, bind_ok, ofB_some, cm_Eq, cm_NotEq, cm_Lt, cm_LtE, cm_Gt, cm_GtE, cm_Is, cm_IsNot, cm_In, cm_NotIn, eq_ii, eq_ss, eq_bb, eq_rr, eq_tt, eq_nx, eq_in, no_none, no_int, no_ref, no_tup, ist_ii, ist_ib, ist_bb, ist_tt, ist_ss, V.bool.injEq, F.ret.injEq, reduceCtorEq, and_true, true_and, false_and, and_false, or_false, false_or, exists_eq_left', decide_eq_true_eq, decide_eq_false_iff_not, exists_false, exists_const, Option.some.injEq, Bool.not_eq_true', Bool.not_eq_false', Bool.true_eq_false, Bool.false_eq_true, beq_iff_eq, beq_eq_false_iff_ne, ne_eq, not_true_eq_false, not_false_eq_true, Option.map_some, Bool.not_true, Bool.not_false, beq_self_eq_true, List.map_cons, List.map_nil, List.replicate_succ, List.replicate_zero, List.cons_append, List.nil_append, List.getElem?_cons_zero, List.getElem?_cons_succ, List.set_cons_zero, List.set_cons_succ, Nat.reduceSub, Nat.reduceAdd, List.length_cons, List.length_nil, Nat.zero_add, Nat.reduceLeDiff, if_true, if_false, Ok_newL, Nat.zero_le, hnil]
          by_cases c3 : ws = []
          · refine .inr ⟨c3, rows_send (cells := cells) (pre_app hpre) hlen hG (at_app hjr) (at_app hjs) (at_app hjw) hw2 hwl hws h1 h40 (by omega) fun ρ' τ' h => ?_⟩
            simp only [Ok_seq, Then_next, Then_ret, Turn_next, Turn_ret, Back_next, Back_ret, Ok_ite, Ok_and, Ok_or, Ok_cmp2, Ok_bind, Ok_ok, ev_none, ev_bool, ev_int, ev_str, ev_var, ev_glob, ev_fn, ev_bin, ev_neg, ev_not, ev_cmp, ev_list, ev_tup, ev_dictS, ev_dictI, ev_idx, ev_sl, ev_slFrom, ev_slTo, ev_call, ev_len, ev_listOf, ev_listRange, ev_listRev, ev_isinst, ev_toInt, ev_max, ev_min, ev_sum, ev_nil, ev_cons, ex_assign, ex_setItem, ex_append, ex_clear, ex_expr, ex_ret, ex_nil, bind_ok, ofB_some, cm_Eq, cm_NotEq, cm_Lt, cm_LtE, cm_Gt, cm_GtE, cm_Is, cm_IsNot, cm_In, cm_NotIn, eq_ii, eq_ss, eq_bb, eq_rr, eq_tt, eq_nx, eq_in, no_none, no_int, no_ref, no_tup, ist_ii, ist_ib, ist_bb, ist_tt, ist_ss, V.bool.injEq, F.ret.injEq, reduceCtorEq, and_true, true_and, false_and, and_false, or_false, false_or, exists_eq_left', decide_eq_true_eq, decide_eq_false_iff_not, exists_false, exists_const, Option.some.injEq, Bool.not_eq_true', Bool.not_eq_false', Bool.true_eq_false, Bool.false_eq_true, beq_iff_eq, beq_eq_false_iff_ne, ne_eq, not_true_eq_false, not_false_eq_true, Option.map_some, Bool.not_true, Bool.not_false, beq_self_eq_true]; exact h
          · refine .inl ⟨c3, rows_got (cells := cells) (pre_app hpre) hlen hG (at_app hjr) (at_app hjs) (at_app hjw) hw2 hwl hws c3 (by omega) fun ρ' τ' h => ?_⟩
            simp only [Ok_seq, Then_next, Then_ret, Turn_next, Turn_ret, Back_next, Back_ret, Ok_ite, Ok_and, Ok_or, Ok_cmp2, Ok_bind, Ok_ok, ev_none, ev_bool, ev_int, ev_str, ev_var, ev_glob, ev_fn, ev_bin, ev_neg, ev_not, ev_cmp, ev_list, ev_tup, ev_dictS, ev_dictI, ev_idx, ev_sl, ev_slFrom, ev_slTo, ev_call, ev_len, ev_listOf, ev_listRange, ev_listRev, ev_isinst, ev_toInt, ev_max, ev_min, ev_sum, ev_nil, ev_cons, ex_assign, ex_setItem, ex_append, ex_clear, ex_expr, ex_ret, ex_nil, bind_ok, ofB_some, cm_Eq, cm_NotEq, cm_Lt, cm_LtE, cm_Gt, cm_GtE, cm_Is, cm_IsNot, cm_In, cm_NotIn, eq_ii, eq_ss, eq_bb, eq_rr, eq_tt, eq_nx, eq_in, no_none, no_int, no_ref, no_tup, ist_ii, ist_ib, ist_bb, ist_tt, ist_ss, V.bool.injEq, F.ret.injEq, reduceCtorEq, and_true, true_and, false_and, and_false, or_false, false_or, exists_eq_left', decide_eq_true_eq, decide_eq_false_iff_not, exists_false, exists_const, Option.some.injEq, Bool.not_eq_true', Bool.not_eq_false', Bool.true_eq_false, Bool.false_eq_true, beq_iff_eq, beq_eq_false_iff_ne, ne_eq, not_true_eq_false, not_false_eq_true, Option.map_some, Bool.not_true, Bool.not_false, beq_self_eq_true]; exact h
        · refine .inr ⟨c2, rows_send (cells := cells) hpre hlen hG hjr hjs hjw hw2 hwl hws h1 h40 (by omega) fun ρ' τ' h => ?_⟩
          simp only [Ok_seq, Then_next, Then_ret, Turn_next, Turn_ret, Back_next, Back_ret, Ok_ite, Ok_and, Ok_or, Ok_cmp2, Ok_bind, Ok_ok, ev_none, ev_bool, ev_int, ev_str, ev_var, ev_glob, ev_fn, ev_bin, ev_neg, ev_not, ev_cmp, ev_list, ev_tup, ev_dictS, ev_dictI, ev_idx, ev_sl, ev_slFrom, ev_slTo, ev_call, ev_len, ev_listOf, ev_listRange, ev_listRev, ev_isinst, ev_toInt, ev_max, ev_min, ev_sum, ev_nil, ev_cons, ex_assign, ex_setItem, ex_append, ex_clear, ex_expr, ex_ret, ex_nil, bind_ok, ofB_some, cm_Eq, cm_NotEq, cm_Lt, cm_LtE, cm_Gt, cm_GtE, cm_Is, cm_IsNot, cm_In, cm_NotIn, eq_ii, eq_ss, eq_bb, eq_rr, eq_tt, eq_nx, eq_in, no_none, no_int, no_ref, no_tup, ist_ii, ist_ib, ist_bb, ist_tt, ist_ss, V.bool.injEq, F.ret.injEq, reduceCtorEq, and_true, true_and, false_and, and_false, or_false, false_or, exists_eq_left', decide_eq_true_eq, decide_eq_false_iff_not, exists_false, exists_const, Option.some.injEq, Bool.not_eq_true', Bool.not_eq_false', Bool.true_eq_false, Bool.false_eq_true, beq_iff_eq, beq_eq_false_iff_ne, ne_eq, not_true_eq_false, not_false_eq_true, Option.map_some, Bool.not_true, Bool.not_false, beq_self_eq_true]; exact h
  · rintro ρ τ ⟨hpre, rs, ws, jw, o5, o6, o7, o8, hlen, hG, hjr, hjs, hjw, hw2, hwl, hws, rfl⟩
    simp only [Ok_seq, Then_next, Then_ret, Turn_next, Turn_ret, Back_next, Back_ret, Ok_ite, Ok_and, Ok_or, Ok_cmp2, Ok_bind, Ok_ok, ev_none, ev_bool, ev_int, ev_str, ev_var, ev_glob, ev_fn, ev_bin, ev_neg, ev_not, ev_cmp, ev_list, ev_tup, ev_dictS, ev_dictI, ev_idx, ev_sl, ev_slFrom, ev_slTo, ev_call, ev_len, ev_listOf, ev_listRange, ev_listRev, ev_isinst, ev_toInt, ev_max, ev_min, ev_sum, ev_nil, ev_cons, ex_assign, ex_setItem, ex_append, ex_clear, ex_expr, ex_ret, ex_nil, bind_ok, ofB_some, cm_Eq, cm_NotEq, cm_Lt, cm_LtE, cm_Gt, cm_GtE, cm_Is, cm_IsNot, cm_In, cm_NotIn, eq_ii, eq_ss, eq_bb, eq_rr, eq_tt, eq_nx, eq_in, no_none, no_int, no_ref, no_tup, ist_ii, ist_ib, ist_bb, ist_tt, ist_ss, V.bool.injEq, F.ret.injEq, reduceCtorEq, and_true, true_and, false_and, and_false, or_false, false_or, exists_eq_left', decide_eq_true_eq, decide_eq_false_iff_not, exists_false, exists_const, Option.some.injEq, Bool.not_eq_true', Bool.not_eq_false', Bool.true_eq_false, Bool.false_eq_true, beq_iff_eq, beq_eq_false_iff_ne, ne_eq, not_true_eq_false, not_false_eq_true, Option.map_some, Bool.not_true, Bool.not_false, beq_self_eq_true, List.map_cons, List.map_nil, List.replicate_succ, List.replicate_zero, List.cons_append, List.nil_append, List.getElem?_cons_zero, List.getElem?_cons_succ, List.set_cons_zero, List.set_cons_succ, Nat.reduceSub, Nat.reduceAdd, List.length_cons, List.length_nil, Nat.zero_add, Nat.reduceLeDiff, if_true, if_false]
    exact ⟨_, rs, rfl, hpre, hjr, hG, by simpa using hlen⟩
end
end Mine

namespace Mine
open PySem

section
variable {ns : List Int} {G : List Int} {P : List Fn} {C : Nat → List V → Store → R V} {N : Nat} {σ τ : Store} {ρ : Loc}

theorem nodup_idx : ∀ {l : List Nat}, l.Nodup → ∀ {i j a : Nat}, l[i]? = some a → l[j]? = some a → i = j
  | [], _, _, _, _, h, _ => by simp at h
  | x :: l, hn, 0, 0, _, _, _ => rfl
  | x :: l, hn, 0, j + 1, a, h, k => by
    simp at h k; subst h
    exact absurd (List.mem_of_getElem? k) (List.nodup_cons.mp hn).1
  | x :: l, hn, i + 1, 0, a, h, k => by
    simp at h k; subst k
    exact absurd (List.mem_of_getElem? h) (List.nodup_cons.mp hn).1
  | x :: l, hn, i + 1, j + 1, a, h, k => by
    simp at h k
    rw [nodup_idx (List.nodup_cons.mp hn).2 h k]

noncomputable def rd : Rw → PyData
  | .note h => .tuple [.str (Str.ofString "note"), .int (h : Int)]
  | .send a b => .tuple [.str (Str.ofString "send"), .int (a : Int), .int (b : Int)]
  | .got h k => .tuple [.str (Str.ofString "got"), .int (h : Int), .int (k : Int)]
theorem den_rv (n : Nat) (r : Rw) : den σ (n + 1) (rv r) = some (rd r) := by
  cases r <;> simp [rv, rd, den_tup, den_str, den_int, List.mapM_cons]
theorem eqv_rd (r : Rw) : PyData.eqv (rd r) (rd r) = true := by
  cases r <;> simp [rd, PyData.eqv, PyData.eqvAll]
theorem eqvAll_refl_of {α : Type} {f : α → PyData} (h : ∀ a, PyData.eqv (f a) (f a) = true) : ∀ xs : List α, PyData.eqvAll (xs.map f) (xs.map f) = true
  | [] => rfl
  | x :: xs => by simp [PyData.eqvAll, h, eqvAll_refl_of h xs]
theorem den_rows {j : Nat} {rows : List Rw} (h : σ[j]? = some (.list (rows.map rv))) : den σ 8 (.ref j) = some (.list (rows.map rd)) := den_list (n := 7) h fun x _ => den_rv 6 x
theorem eq_rows {i j : Nat} {rows : List Rw} (hi : σ[i]? = some (.list (rows.map rv))) (hj : σ[j]? = some (.list (rows.map rv))) : eqD σ (.ref i) (.ref j) = some true := by
  simp only [eqD, den_rows hi, den_rows hj, PyData.eqv]
  rw [eqvAll_refl_of eqv_rd]
theorem den_nats {j : Nat} {xs : List Nat} (h : σ[j]? = some (.list (xs.map natV))) : den σ 8 (.ref j) = some (.list (xs.map fun (k : Nat) => PyData.int (k : Int))) := den_list (n := 7) h fun x _ => den_int 7 _
theorem eq_nats {i j : Nat} {xs ys : List Nat} (hi : σ[i]? = some (.list (xs.map natV))) (hj : σ[j]? = some (.list (ys.map natV))) : eqD σ (.ref i) (.ref j) = some (decide (xs = ys)) := by
  simp only [eqD, den_nats hi, den_nats hj, PyData.eqv]
  rw [eqvAll_dec (fun a b => by simp only [PyData.eqv]; by_cases h : a = b <;> simp [h]; omega)]
theorem inst_list {j : Nat} {vs : List V} (h : σ[j]? = some (.list vs)) : isinstV (.ref j) .list σ = some true := by
  show (match σ[j]? with | some (.list _) => some (Ty.isList .list) | _ => none) = _
  rw [h]; rfl

theorem whole_ok {d k : Nat} {i : Int} (hp : P[k]? = some B.L_whole) : callF ns G P N (d + 1) k [.int i] σ = .ok (.bool true) σ := by
  rw [← Ok_R]
  refine ok_call hp rfl ?_
  simp only [B.L_whole, Ok_seq, Then_next, Then_ret, Turn_next, Turn_ret, Back_next, Back_ret, Ok_ite, Ok_and, Ok_or, Ok_cmp2, Ok_bind, Ok_ok, ev_none, ev_bool, ev_int, ev_str, ev_var, ev_glob, ev_fn, ev_bin, ev_neg, ev_not, ev_cmp, ev_list, ev_tup, ev_dictS, ev_dictI, ev_idx, ev_sl, ev_slFrom, ev_slTo, ev_call, ev_len, ev_listOf, ev_listRange, ev_listRev, ev_isinst, ev_toInt, ev_max, ev_min, ev_sum, ev_nil, ev_cons, ex_assign, ex_setItem, ex_append, ex_clear, ex_expr, ex_ret, ex_nil, bind_ok, ofB_some, cm_Eq, cm_NotEq, cm_Lt, cm_LtE, cm_Gt, cm_GtE, cm_Is, cm_IsNot, cm_In, cm_NotIn, eq_ii, eq_ss, eq_bb, eq_rr, eq_tt, eq_nx, eq_in, no_none, no_int, no_ref, no_tup, ist_ii, ist_ib, ist_bb, ist_tt, ist_ss, V.bool.injEq, F.ret.injEq, reduceCtorEq, and_true, true_and, false_and, and_false, or_false, false_or, exists_eq_left', decide_eq_true_eq, decide_eq_false_iff_not, exists_false, exists_const, Option.some.injEq, Bool.not_eq_true', Bool.not_eq_false', Bool.true_eq_false, Bool.false_eq_true, beq_iff_eq, beq_eq_false_iff_ne, ne_eq, not_true_eq_false, not_false_eq_true, Option.map_some, Bool.not_true, Bool.not_false, beq_self_eq_true, List.map_cons, List.map_nil, List.replicate_succ, List.replicate_zero, List.cons_append, List.nil_append, List.getElem?_cons_zero, List.getElem?_cons_succ, List.set_cons_zero, List.set_cons_succ, Nat.reduceSub, Nat.reduceAdd, List.length_cons, List.length_nil, Nat.zero_add, Nat.reduceLeDiff, if_true, if_false]
/-- the law's own hands and history -/
structure Start (P : List Fn) (kc kh ky kr : Nat) : Prop where
  cell : P[kc]? = some B.L_cell_at
  hands : P[kh]? = some B.L_hands_by
  cells : P[ky]? = some (B.L_cells_by_1236 kc)
  rows : P[kr]? = some B.L_rows_by
/-- the project's own defs: numbers of letters, need_form, need_hand, HANDS, ROWS -/
structure Prj (P : List Fn) (G : List Int) (kl kf kn g1 g2 : Nat) : Prop where
  letters : P[kl]? = some (B.letters g1 .abort g2 .abort kf kn .abort .abort)
  form : P[kf]? = some (B.need_form .abort)
  hand : P[kn]? = some (B.need_hand .abort)
  g1 : G[g1]? = some 40
  g2 : G[g2]? = some 1000
theorem Prj.ok {d kl kf kn g1 g2 j H : Nat} {rows : List Rw} (X : Prj P G kl kf kn g1 g2) (hj : σ[j]? = some (.list (rows.map rv))) (hG : Hist H rows) (h1 : 1 ≤ H) (h40 : H ≤ 40) (hr : rows.length ≤ 1000) :
    Ok (callF ns G P N (d + 2) kl [.int (H : Int), .ref j] σ) (fun v σ' => ∃ jr, v = .ref jr ∧ σ <+: σ' ∧ σ.length ≤ jr ∧ σ'[jr]? = some (.list ((lettersOf rows).map lv))) :=
  letters_ok X.letters X.form X.hand X.g1 X.g2 hj hG h1 h40 hr
end
end Mine

namespace Mine
open PySem

/-- lists of numbers at these places of the store -/
noncomputable def NL (τ : Store) : List Nat → List (List Nat) → Prop
  | [], [] => True
  | a :: as, x :: xs => τ[a]? = some (.list (x.map natV)) ∧ NL τ as xs
  | _, _ => False

section
variable {ns : List Int} {G : List Int} {P : List Fn} {C : Nat → List V → Store → R V} {N : Nat} {σ τ : Store} {ρ : Loc}

theorem NL.len : ∀ {as : List Nat} {xss : List (List Nat)}, NL τ as xss → as.length = xss.length
  | [], [], _ => rfl
  | a :: as, x :: xs, h => by simp only [List.length_cons, NL.len h.2]
theorem NL.get : ∀ {as : List Nat} {xss : List (List Nat)}, NL τ as xss → ∀ {k : Nat} {xs : List Nat}, xss[k]? = some xs → ∃ a, as[k]? = some a ∧ τ[a]? = some (.list (xs.map natV))
  | [], [], _, k, xs, e => by simp at e
  | a :: as, x :: xss, h, 0, xs, e => by simp at e; subst e; exact ⟨a, rfl, h.1⟩
  | a :: as, x :: xss, h, k + 1, xs, e => by
    simp at e
    obtain ⟨b, hb, h2⟩ := NL.get h.2 e
    exact ⟨b, by simpa using hb, h2⟩
theorem NL.map (f : ∀ (a : Nat) (c : Cell), τ[a]? = some c → σ[a]? = some c) : ∀ {as : List Nat} {xss : List (List Nat)}, NL τ as xss → NL σ as xss
  | [], [], _ => trivial
  | a :: as, x :: xs, h => ⟨f _ _ h.1, NL.map f h.2⟩
theorem NL.pre {as : List Nat} {xss : List (List Nat)} (h : NL τ as xss) (hp : τ <+: σ) : NL σ as xss := NL.map (fun _ _ e => at_pre e hp) h
theorem NL.put {b : Nat} {c : Cell} : ∀ {as : List Nat} {xss : List (List Nat)}, NL τ as xss → b ∉ as → NL (τ.set b c) as xss
  | [], [], _, _ => trivial
  | a :: as, x :: xs, h, hb => ⟨at_set_ne h.1 (fun e => hb (by simp [e])), NL.put h.2 (fun e => hb (List.mem_cons_of_mem _ e))⟩
theorem NL.snoc {b : Nat} {xs : List Nat} : ∀ {as : List Nat} {xss : List (List Nat)}, NL τ as xss → τ[b]? = some (.list (xs.map natV)) → NL τ (as ++ [b]) (xss ++ [xs])
  | [], [], _, hb => ⟨hb, trivial⟩
  | a :: as, x :: xss, h, hb => ⟨h.1, NL.snoc h.2 hb⟩
theorem NL.set {b : Nat} {xs : List Nat} : ∀ {as : List Nat} {xss : List (List Nat)} {k : Nat}, NL τ as xss → as.Nodup → as[k]? = some b → NL (τ.set b (.list (xs.map natV))) as (xss.set k xs)
  | [], [], k, _, _, hk => by simp at hk
  | a :: as, x :: xss, 0, h, hn, hk => by
    simp at hk; subst hk
    exact ⟨at_set h.1, NL.put h.2 (List.nodup_cons.mp hn).1⟩
  | a :: as, x :: xss, k + 1, h, hn, hk => by
    simp at hk
    refine ⟨at_set_ne h.1 ?_, NL.set h.2 (List.nodup_cons.mp hn).2 hk⟩
    intro e
    exact (List.nodup_cons.mp hn).1 (e ▸ List.mem_of_getElem? hk)
theorem NL.tail {as : List Nat} {xss : List (List Nat)} (h : NL τ as xss) : NL τ as.tail xss.tail := by
  match as, xss, h with
  | [], [], h => exact trivial
  | a :: as, x :: xs, h => exact h.2
theorem NL.lt {as : List Nat} {xss : List (List Nat)} (h : NL τ as xss) {a : Nat} (ha : a ∈ as) : a < τ.length := by
  match as, xss, h, ha with
  | b :: as, x :: xs, h, ha =>
    rcases List.mem_cons.mp ha with e | e
    · rw [e]; exact at_lt h.1
    · exact NL.lt h.2 e

noncomputable def nd (xs : List Nat) : PyData := .list (xs.map fun (k : Nat) => PyData.int (k : Int))
theorem NL.den {as : List Nat} {xss : List (List Nat)} (n : Nat) (h : NL τ as xss) : (as.map V.ref).mapM (den τ (n + 1)) = some (xss.map nd) := by
  match as, xss, h with
  | [], [], _ => rfl
  | a :: as, x :: xs, h =>
    have e : Mine.den τ (n + 1) (.ref a) = some (nd x) := den_list (n := n) h.1 fun x _ => den_int n _
    rw [List.map_cons, List.mapM_cons, e, NL.den n h.2]
    rfl
/-- new lists of numbers, made above σ -/
structure Mk (σ τ : Store) (as : List Nat) (xss : List (List Nat)) : Prop where
  pre : σ <+: τ
  nl : NL τ as xss
  lo : ∀ a ∈ as, σ.length ≤ a
  dist : as.Nodup
theorem Mk.start : Mk σ σ [] [] := ⟨List.prefix_refl _, trivial, fun a h => by simp at h, .nil⟩
theorem Mk.snoc {as : List Nat} {xss : List (List Nat)} {τ' : Store} {a : Nat} {xs : List Nat} (h : Mk σ τ as xss) (hp : τ <+: τ') (ha : τ.length ≤ a) (hx : τ'[a]? = some (.list (xs.map natV))) : Mk σ τ' (as ++ [a]) (xss ++ [xs]) := by
  refine ⟨h.pre.trans hp, (h.nl.pre hp).snoc hx, fun b hb => ?_, ?_⟩
  · rcases List.mem_append.mp hb with e | e
    · exact h.lo b e
    · simp at e; subst e; have := pre_len h.pre; omega
  · rw [List.nodup_append]
    refine ⟨h.dist, by simp, fun x hxa y hy => ?_⟩
    simp at hy; subst hy
    have := h.nl.lt hxa
    omega
theorem Mk.app {as : List Nat} {xss : List (List Nat)} {τ' : Store} (h : Mk σ τ as xss) (hp : τ <+: τ') : Mk σ τ' as xss := ⟨h.pre.trans hp, h.nl.pre hp, h.lo, h.dist⟩

/- comprehensions that make lists -/
theorem ok_comp_seq {e elt : E} {x j : Nat} {xs : List V} {Q : V → Store → Prop} (he : evE ns G C ρ e σ = .ok (.ref j) σ) (Inv : Nat → List V → Store → Prop)
    (stay : ∀ i acc τ, Inv i acc τ → τ[j]? = some (.list xs)) (h0 : Inv 0 [] σ)
    (step : ∀ i v acc τ, xs[i]? = some v → Inv i acc τ → Ok (evE ns G C (ρ.set x (some v)) elt τ) (fun y τ1 => Inv (i + 1) (acc ++ [y]) τ1))
    (hQ : ∀ r τ, Inv xs.length r τ → r.length ≤ sizeMax ∧ Q (.ref τ.length) (τ ++ [.list r])) : Ok (evE ns G C ρ (.comp elt x (.seq e)) σ) Q := by
  have hj := stay _ _ _ h0
  rw [ev_compR, evI_seq, he, bind_ok]
  simp only [hj]
  rw [bind_ok]
  simp only [itFuel, hj]
  rw [Ok_bind, Ok_noErr]
  refine (ok_comp_ref (σ := σ) xs Inv stay (fun i v acc τ hv h => ?_) h0).mono fun r τ h => ?_
  · rw [Ok_bind]
    exact (step i v acc τ hv h).mono fun y τ1 h1 => by rw [Ok_ok]; exact h1
  · rw [Ok_newL]; exact hQ r τ h
theorem ok_comp_rng {e elt : E} {x n : Nat} {Q : V → Store → Prop} (he : evE ns G C ρ e σ = .ok (.int (n : Int)) σ) (hn : n ≤ sizeMax) (Inv : Nat → List V → Store → Prop) (h0 : Inv 0 [] σ)
    (step : ∀ i acc τ, i < n → Inv i acc τ → Ok (evE ns G C (ρ.set x (some (.int (i : Int)))) elt τ) (fun y τ1 => Inv (i + 1) (acc ++ [y]) τ1))
    (hQ : ∀ r τ, Inv n r τ → r.length ≤ sizeMax ∧ Q (.ref τ.length) (τ ++ [.list r])) : Ok (evE ns G C ρ (.comp elt x (.range e)) σ) Q := by
  rw [ev_compR, evI_range, he, bind_ok]
  simp only
  rw [if_pos ⟨by omega, by omega⟩, bind_ok, Int.toNat_natCast]
  simp only [itFuel]
  rw [Ok_bind, Ok_noErr]
  refine (ok_comp_vals (σ := σ) (rangeV n) Inv (fun i v acc τ hv h => ?_) h0).mono fun r τ h => ?_
  · rw [Ok_bind]
    obtain ⟨hi, rfl⟩ := rangeV_get hv
    exact (step i acc τ hi h).mono fun y τ1 h1 => by rw [Ok_ok]; exact h1
  · rw [Ok_newL]; rw [rangeV_len] at h; exact hQ r τ h

/- the ends of the pieces of a hand -/
noncomputable def noteAt (rows : List Rw) (h p : Nat) : Bool :=
  match rows[p]? with
  | some (.note a) => a == h
  | _ => false
noncomputable def nends (rows : List Rw) (h i : Nat) : List Nat := ((List.range i).filter (noteAt rows h)).map (· + 1)
noncomputable def ownOf (rows : List Rw) (h i : Nat) : List Nat := 0 :: nends rows h i
noncomputable def knownOf (rows : List Rw) (h : Nat) : List Nat := 0 :: nends rows h rows.length ++ [rows.length]
noncomputable def known (H : Nat) (rows : List Rw) : List (List Nat) := (List.range H).map (knownOf rows)

theorem range_filter {p : Nat → Bool} {i : Nat} : (List.range (i + 1)).filter p = (List.range i).filter p ++ if p i = true then [i] else [] := by
  rw [List.range_succ, List.filter_append]
  congr 1
  cases h : p i <;> simp [h]
theorem nends_step {rows : List Rw} {h i : Nat} : nends rows h (i + 1) = nends rows h i ++ if noteAt rows h i = true then [i + 1] else [] := by
  unfold nends
  rw [List.range_succ, List.filter_append, List.map_append]
  congr 1
  cases hn : noteAt rows h i <;> simp [hn]
theorem nends_len {rows : List Rw} {h i : Nat} : (nends rows h i).length ≤ i := by
  unfold nends
  have := List.length_filter_le (noteAt rows h) (List.range i)
  simpa using this
theorem knownOf_len {rows : List Rw} {h : Nat} : (knownOf rows h).length ≤ rows.length + 2 := by
  have := nends_len (rows := rows) (h := h) (i := rows.length)
  simp [knownOf]; omega
theorem known_get {H : Nat} {rows : List Rw} {h : Nat} (hh : h < H) : (known H rows)[h]? = some (knownOf rows h) := by
  simp [known, List.getElem?_map, List.getElem?_range hh]
theorem known_len {H : Nat} {rows : List Rw} : (known H rows).length = H := by simp [known]

theorem natsum {xs ys : List Nat} : List.map natV xs ++ List.map natV ys = (xs ++ ys).map natV := by simp

theorem bin_app {i j : Nat} {xs ys : List V} {Q : V → Store → Prop} (hi : τ[i]? = some (.list xs)) (hj : τ[j]? = some (.list ys)) (hz : xs.length + ys.length ≤ sizeMax) (hq : Q (.ref τ.length) (τ ++ [.list (xs ++ ys)])) : Ok (binV .Add (.ref i) (.ref j) τ) Q := by
  change Ok (match τ[i]?, τ[j]? with | some (.list xs), some (.list ys) => newL (xs ++ ys) τ | _, _ => .stuck) Q
  rw [hi, hj]
  simp only [Ok_newL]
  exact ⟨by simpa using hz, hq⟩

theorem ends_of_ok {d k j H : Nat} {rows : List Rw} (hp : P[k]? = some B.ends_of) (hj : σ[j]? = some (.list (rows.map rv))) (hG : Hist H rows) (h40 : H ≤ 40) (hr : rows.length ≤ 1000) :
    Ok (callF ns G P N (d + 1) k [.int (H : Int), .ref j] σ) (fun v τ => ∃ jr as, v = .ref jr ∧ Mk σ τ as (known H rows) ∧ τ[jr]? = some (.list (as.map .ref)) ∧ σ.length ≤ jr ∧ jr ∉ as) := by
  refine ok_call hp rfl ?_
  simp only [B.ends_of, Ok_seq, Then_next, Then_ret, Turn_next, Turn_ret, Back_next, Back_ret, Ok_ite, Ok_and, Ok_or, Ok_cmp2, Ok_bind, Ok_ok, ev_none, ev_bool, ev_int, ev_str, ev_var, ev_glob, ev_fn, ev_bin, ev_neg, ev_not, ev_cmp, ev_list, ev_tup, ev_dictS, ev_dictI, ev_idx, ev_sl, ev_slFrom, ev_slTo, ev_call, ev_len, ev_listOf, ev_listRange, ev_listRev, ev_isinst, ev_toInt, ev_max, ev_min, ev_sum, ev_nil, ev_cons, ex_assign, ex_setItem, ex_append, ex_clear, ex_expr, ex_ret, ex_nil, bind_ok, ofB_some, cm_Eq, cm_NotEq, cm_Lt, cm_LtE, cm_Gt, cm_GtE, cm_Is, cm_IsNot, cm_In, cm_NotIn, eq_ii, eq_ss, eq_bb, eq_rr, eq_tt, eq_nx, eq_in, no_none, no_int, no_ref, no_tup, ist_ii, ist_ib, ist_bb, ist_tt, ist_ss, V.bool.injEq, F.ret.injEq, reduceCtorEq, and_true, true_and, false_and, and_false, or_false, false_or, exists_eq_left', decide_eq_true_eq, decide_eq_false_iff_not, exists_false, exists_const, Option.some.injEq, Bool.not_eq_true', Bool.not_eq_false', Bool.true_eq_false, Bool.false_eq_true, beq_iff_eq, beq_eq_false_iff_ne, ne_eq, not_true_eq_false, not_false_eq_true, Option.map_some, Bool.not_true, Bool.not_false, beq_self_eq_true, List.map_cons, List.map_nil, List.replicate_succ, List.replicate_zero, List.cons_append, List.nil_append, List.getElem?_cons_zero, List.getElem?_cons_succ, List.set_cons_zero, List.set_cons_succ, Nat.reduceSub, Nat.reduceAdd, List.length_cons, List.length_nil, Nat.zero_add, Nat.reduceLeDiff, if_true, if_false]
  refine ok_comp_rng (n := H) (by simp only [Ok_seq, Then_next, Then_ret, Turn_next, Turn_ret, Back_next, Back_ret, Ok_ite, Ok_and, Ok_or, Ok_cmp2, Ok_bind, Ok_ok, ev_none, ev_bool, ev_int, ev_str, ev_var, ev_glob, ev_fn, ev_bin, ev_neg, ev_not, ev_cmp, ev_list, ev_tup, ev_dictS, ev_dictI, ev_idx, ev_sl, ev_slFrom, ev_slTo, ev_call, ev_len, ev_listOf, ev_listRange, ev_listRev, ev_isinst, ev_toInt, ev_max, ev_min, ev_sum, ev_nil, ev_cons, ex_assign, ex_setItem, ex_append, ex_clear, ex_expr, ex_ret, ex_nil, bind_ok, ofB_some, cm_Eq, cm_NotEq, cm_Lt, cm_LtE, cm_Gt, cm_GtE, cm_Is, cm_IsNot, cm_In, cm_NotIn, eq_ii, eq_ss, eq_bb, eq_rr, eq_tt, eq_nx, eq_in, no_none, no_int, no_ref, no_tup, ist_ii, ist_ib, ist_bb, ist_tt, ist_ss, V.bool.injEq, F.ret.injEq, reduceCtorEq, and_true, true_and, false_and, and_false, or_false, false_or, exists_eq_left', decide_eq_true_eq, decide_eq_false_iff_not, exists_false, exists_const, Option.some.injEq, Bool.not_eq_true', Bool.not_eq_false', Bool.true_eq_false, Bool.false_eq_true, beq_iff_eq, beq_eq_false_iff_ne, ne_eq, not_true_eq_false, not_false_eq_true, Option.map_some, Bool.not_true, Bool.not_false, beq_self_eq_true, List.map_cons, List.map_nil, List.replicate_succ, List.replicate_zero, List.cons_append, List.nil_append, List.getElem?_cons_zero, List.getElem?_cons_succ, List.set_cons_zero, List.set_cons_succ, Nat.reduceSub, Nat.reduceAdd, List.length_cons, List.length_nil, Nat.zero_add, Nat.reduceLeDiff, if_true, if_false]) (by rw [sizeMax_eq]; omega) (fun i acc τ => ∃ as, acc = as.map .ref ∧ Mk σ τ as (List.replicate i [0])) ⟨[], rfl, .start⟩ ?_ ?_
  · rintro i acc τ hi ⟨as, rfl, hM⟩
    simp only [Ok_seq, Then_next, Then_ret, Turn_next, Turn_ret, Back_next, Back_ret, Ok_ite, Ok_and, Ok_or, Ok_cmp2, Ok_bind, Ok_ok, ev_none, ev_bool, ev_int, ev_str, ev_var, ev_glob, ev_fn, ev_bin, ev_neg, ev_not, ev_cmp, ev_list, ev_tup, ev_dictS, ev_dictI, ev_idx, ev_sl, ev_slFrom, ev_slTo, ev_call, ev_len, ev_listOf, ev_listRange, ev_listRev, ev_isinst, ev_toInt, ev_max, ev_min, ev_sum, ev_nil, ev_cons, ex_assign, ex_setItem, ex_append, ex_clear, ex_expr, ex_ret, ex_nil, bind_ok, ofB_some, cm_Eq, cm_NotEq, cm_Lt, cm_LtE, cm_Gt, cm_GtE, cm_Is, cm_IsNot, cm_In, cm_NotIn, eq_ii, eq_ss, eq_bb, eq_rr, eq_tt, eq_nx, eq_in, no_none, no_int, no_ref, no_tup, ist_ii, ist_ib, ist_bb, ist_tt, ist_ss, V.bool.injEq, F.ret.injEq, reduceCtorEq, and_true, true_and, false_and, and_false, or_false, false_or, exists_eq_left', decide_eq_true_eq, decide_eq_false_iff_not, exists_false, exists_const, Option.some.injEq, Bool.not_eq_true', Bool.not_eq_false', Bool.true_eq_false, Bool.false_eq_true, beq_iff_eq, beq_eq_false_iff_ne, ne_eq, not_true_eq_false, not_false_eq_true, Option.map_some, Bool.not_true, Bool.not_false, beq_self_eq_true, List.map_cons, List.map_nil, List.replicate_succ, List.replicate_zero, List.cons_append, List.nil_append, List.getElem?_cons_zero, List.getElem?_cons_succ, List.set_cons_zero, List.set_cons_succ, Nat.reduceSub, Nat.reduceAdd, List.length_cons, List.length_nil, Nat.zero_add, Nat.reduceLeDiff, if_true, if_false, Ok_newL]
    refine ⟨by rw [sizeMax_eq]; omega, as ++ [τ.length], by simp, ?_⟩
    rw [show [0] :: List.replicate i [0] = List.replicate i [0] ++ [[0]] from by rw [← List.replicate_succ, List.replicate_succ']]
    exact hM.snoc (List.prefix_append _ _) (Nat.le_refl _) at_end
  · rintro r τ0 ⟨as, rfl, hM0⟩
    have hasl := hM0.nl.len
    rw [List.length_replicate] at hasl
    refine ⟨by rw [List.length_map, sizeMax_eq]; omega, ?_⟩
    have hM := hM0.app (List.prefix_append τ0 [Cell.list (as.map .ref)])
    have hnot : τ0.length ∉ as := fun h => by have := hM0.nl.lt h; omega
    have hlen : evE ns G (callF ns G P N d) [some (V.int (H : Int)), some (V.ref j), some (V.ref τ0.length), none, none, none] (.len (.var 1)) (τ0 ++ [Cell.list (as.map .ref)]) = .ok (.int (rows.length : Int)) (τ0 ++ [Cell.list (as.map .ref)]) := by
      simp only [Ok_seq, Then_next, Then_ret, Turn_next, Turn_ret, Back_next, Back_ret, Ok_ite, Ok_and, Ok_or, Ok_cmp2, Ok_bind, Ok_ok, ev_none, ev_bool, ev_int, ev_str, ev_var, ev_glob, ev_fn, ev_bin, ev_neg, ev_not, ev_cmp, ev_list, ev_tup, ev_dictS, ev_dictI, ev_idx, ev_sl, ev_slFrom, ev_slTo, ev_call, ev_len, ev_listOf, ev_listRange, ev_listRev, ev_isinst, ev_toInt, ev_max, ev_min, ev_sum, ev_nil, ev_cons, ex_assign, ex_setItem, ex_append, ex_clear, ex_expr, ex_ret, ex_nil, bind_ok, ofB_some, cm_Eq, cm_NotEq, cm_Lt, cm_LtE, cm_Gt, cm_GtE, cm_Is, cm_IsNot, cm_In, cm_NotIn, eq_ii, eq_ss, eq_bb, eq_rr, eq_tt, eq_nx, eq_in, no_none, no_int, no_ref, no_tup, ist_ii, ist_ib, ist_bb, ist_tt, ist_ss, V.bool.injEq, F.ret.injEq, reduceCtorEq, and_true, true_and, false_and, and_false, or_false, false_or, exists_eq_left', decide_eq_true_eq, decide_eq_false_iff_not, exists_false, exists_const, Option.some.injEq, Bool.not_eq_true', Bool.not_eq_false', Bool.true_eq_false, Bool.false_eq_true, beq_iff_eq, beq_eq_false_iff_ne, ne_eq, not_true_eq_false, not_false_eq_true, Option.map_some, Bool.not_true, Bool.not_false, beq_self_eq_true, List.map_cons, List.map_nil, List.replicate_succ, List.replicate_zero, List.cons_append, List.nil_append, List.getElem?_cons_zero, List.getElem?_cons_succ, List.set_cons_zero, List.set_cons_succ, Nat.reduceSub, Nat.reduceAdd, List.length_cons, List.length_nil, Nat.zero_add, Nat.reduceLeDiff, if_true, if_false]; rw [len_map (at_pre hj hM.pre)]
    refine ok_for_range (n := rows.length) hlen (by rw [sizeMax_eq]; omega) (fun i ρ' τ => Mk σ τ as ((List.range H).map fun h => ownOf rows h i) ∧ τ[τ0.length]? = some (.list (as.map .ref)) ∧ ∃ o, ρ' = [some (V.int (H : Int)), some (V.ref j), some (V.ref τ0.length), o, none, none]) ⟨?_, at_end, _, rfl⟩ ?_ ?_
    · have : (List.range H).map (fun h => ownOf rows h 0) = List.replicate H [0] := by
        rw [List.eq_replicate_iff]
        refine ⟨by simp, fun b hb => ?_⟩
        simp only [List.mem_map] at hb
        obtain ⟨h, _, rfl⟩ := hb
        rfl
      rw [this]; exact hM
    · rintro i ρ' τ hi ⟨hM, hjf, o, rfl⟩
      have hri : rows[i]? = some rows[i] := List.getElem?_eq_getElem hi
      have hrow := hG i _ hri
      generalize rows[i] = r at *
      have hjt := at_pre hj hM.pre
      have hrd := idx_map (ns := ns) hjt hri
      have same : (∀ h, noteAt rows h i = false) → (List.range H).map (fun h => ownOf rows h (i + 1)) = (List.range H).map (fun h => ownOf rows h i) := fun hn => by
        apply List.map_congr_left
        intro h _
        simp only [ownOf]; rw [nends_step, hn h]; simp
      cases r with
      | send a b =>
        simp only [rv] at hrd
        simp only [Ok_seq, Then_next, Then_ret, Turn_next, Turn_ret, Back_next, Back_ret, Ok_ite, Ok_and, Ok_or, Ok_cmp2, Ok_bind, Ok_ok, ev_none, ev_bool, ev_int, ev_str, ev_var, ev_glob, ev_fn, ev_bin, ev_neg, ev_not, ev_cmp, ev_list, ev_tup, ev_dictS, ev_dictI, ev_idx, ev_sl, ev_slFrom, ev_slTo, ev_call, ev_len, ev_listOf, ev_listRange, ev_listRev, ev_isinst, ev_toInt, ev_max, ev_min, ev_sum, ev_nil, ev_cons, ex_assign, ex_setItem, ex_append, ex_clear, ex_expr, ex_ret, ex_nil, bind_ok, ofB_some, cm_Eq, cm_NotEq, cm_Lt, cm_LtE, cm_Gt, cm_GtE, cm_Is, cm_IsNot, cm_In, cm_NotIn, eq_ii, eq_ss, eq_bb, eq_rr, eq_tt, eq_nx, eq_in, no_none, no_int, no_ref, no_tup, ist_ii, ist_ib, ist_bb, ist_tt, ist_ss, V.bool.injEq, F.ret.injEq, reduceCtorEq, and_true, true_and, false_and, and_false, or_false, false_or, exists_eq_left', decide_eq_true_eq, decide_eq_false_iff_not, exists_false, exists_const, Option.some.injEq, Bool.not_eq_true', Bool.not_eq_false', Bool.true_eq_false, Bool.false_eq_true, beq_iff_eq, beq_eq_false_iff_ne, ne_eq, not_true_eq_false, not_false_eq_true, Option.map_some, Bool.not_true, Bool.not_false, beq_self_eq_true, List.map_cons, List.map_nil, List.replicate_succ, List.replicate_zero, List.cons_append, List.nil_append, List.getElem?_cons_zero, List.getElem?_cons_succ, List.set_cons_zero, List.set_cons_succ, Nat.reduceSub, Nat.reduceAdd, List.length_cons, List.length_nil, Nat.zero_add, Nat.reduceLeDiff, if_true, if_false, rv, ov, lv, idx_tup0, idx_tup1, idx_tup2, idx_tup3, ne_ns, ne_ng, ne_sn, ne_sg, ne_gn, ne_gs, len_tup2, len_tup3, len_tup4, hrd]
        refine ⟨?_, hjf, _, rfl⟩
        rw [same fun h => by simp [noteAt, hri]]
        exact hM
      | got a b =>
        simp only [rv] at hrd
        simp only [Ok_seq, Then_next, Then_ret, Turn_next, Turn_ret, Back_next, Back_ret, Ok_ite, Ok_and, Ok_or, Ok_cmp2, Ok_bind, Ok_ok, ev_none, ev_bool, ev_int, ev_str, ev_var, ev_glob, ev_fn, ev_bin, ev_neg, ev_not, ev_cmp, ev_list, ev_tup, ev_dictS, ev_dictI, ev_idx, ev_sl, ev_slFrom, ev_slTo, ev_call, ev_len, ev_listOf, ev_listRange, ev_listRev, ev_isinst, ev_toInt, ev_max, ev_min, ev_sum, ev_nil, ev_cons, ex_assign, ex_setItem, ex_append, ex_clear, ex_expr, ex_ret, ex_nil, bind_ok, ofB_some, cm_Eq, cm_NotEq, cm_Lt, cm_LtE, cm_Gt, cm_GtE, cm_Is, cm_IsNot, cm_In, cm_NotIn, eq_ii, eq_ss, eq_bb, eq_rr, eq_tt, eq_nx, eq_in, no_none, no_int, no_ref, no_tup, ist_ii, ist_ib, ist_bb, ist_tt, ist_ss, V.bool.injEq, F.ret.injEq, reduceCtorEq, and_true, true_and, false_and, and_false, or_false, false_or, exists_eq_left', decide_eq_true_eq, decide_eq_false_iff_not, exists_false, exists_const, Option.some.injEq, Bool.not_eq_true', Bool.not_eq_false', Bool.true_eq_false, Bool.false_eq_true, beq_iff_eq, beq_eq_false_iff_ne, ne_eq, not_true_eq_false, not_false_eq_true, Option.map_some, Bool.not_true, Bool.not_false, beq_self_eq_true, List.map_cons, List.map_nil, List.replicate_succ, List.replicate_zero, List.cons_append, List.nil_append, List.getElem?_cons_zero, List.getElem?_cons_succ, List.set_cons_zero, List.set_cons_succ, Nat.reduceSub, Nat.reduceAdd, List.length_cons, List.length_nil, Nat.zero_add, Nat.reduceLeDiff, if_true, if_false, rv, ov, lv, idx_tup0, idx_tup1, idx_tup2, idx_tup3, ne_ns, ne_ng, ne_sn, ne_sg, ne_gn, ne_gs, len_tup2, len_tup3, len_tup4, hrd]
        refine ⟨?_, hjf, _, rfl⟩
        rw [same fun h => by simp [noteAt, hri]]
        exact hM
      | note h =>
        have hh : h < H := hrow
        simp only [rv] at hrd
        obtain ⟨a, ha, hax⟩ := hM.nl.get (k := h) (xs := ownOf rows h i) (by simp [List.getElem?_map, List.getElem?_range hh])
        have hz : (List.map natV (ownOf rows h i)).length < sizeMax := by
          have := nends_len (rows := rows) (h := h) (i := i)
          rw [List.length_map, ownOf, List.length_cons, sizeMax_eq]; omega
        have e2 : List.map natV (ownOf rows h i) ++ [V.int ((i : Int) + 1)] = List.map natV (ownOf rows h (i + 1)) := by
          simp only [ownOf]
          rw [nends_step]
          simp [noteAt, hri, natV]
        have e1 := app_list (v := V.int ((i : Int) + 1)) hax hz
        rw [e2] at e1
        simp only [Ok_seq, Then_next, Then_ret, Turn_next, Turn_ret, Back_next, Back_ret, Ok_ite, Ok_and, Ok_or, Ok_cmp2, Ok_bind, Ok_ok, ev_none, ev_bool, ev_int, ev_str, ev_var, ev_glob, ev_fn, ev_bin, ev_neg, ev_not, ev_cmp, ev_list, ev_tup, ev_dictS, ev_dictI, ev_idx, ev_sl, ev_slFrom, ev_slTo, ev_call, ev_len, ev_listOf, ev_listRange, ev_listRev, ev_isinst, ev_toInt, ev_max, ev_min, ev_sum, ev_nil, ev_cons, ex_assign, ex_setItem, ex_append, ex_clear, ex_expr, ex_ret, ex_nil, bind_ok, ofB_some, cm_Eq, cm_NotEq, cm_Lt, cm_LtE, cm_Gt, cm_GtE, cm_Is, cm_IsNot, cm_In, cm_NotIn, eq_ii, eq_ss, eq_bb, eq_rr, eq_tt, eq_nx, eq_in, no_none, no_int, no_ref, no_tup, ist_ii, ist_ib, ist_bb, ist_tt, ist_ss, V.bool.injEq, F.ret.injEq, reduceCtorEq, and_true, true_and, false_and, and_false, or_false, false_or, exists_eq_left', decide_eq_true_eq, decide_eq_false_iff_not, exists_false, exists_const, Option.some.injEq, Bool.not_eq_true', Bool.not_eq_false', Bool.true_eq_false, Bool.false_eq_true, beq_iff_eq, beq_eq_false_iff_ne, ne_eq, not_true_eq_false, not_false_eq_true, Option.map_some, Bool.not_true, Bool.not_false, beq_self_eq_true, List.map_cons, List.map_nil, List.replicate_succ, List.replicate_zero, List.cons_append, List.nil_append, List.getElem?_cons_zero, List.getElem?_cons_succ, List.set_cons_zero, List.set_cons_succ, Nat.reduceSub, Nat.reduceAdd, List.length_cons, List.length_nil, Nat.zero_add, Nat.reduceLeDiff, if_true, if_false, rv, ov, lv, idx_tup0, idx_tup1, idx_tup2, idx_tup3, ne_ns, ne_ng, ne_sn, ne_sg, ne_gn, ne_gs, len_tup2, len_tup3, len_tup4, hrd, idx_map (f := V.ref) hjf ha, isL_list hax, bin_add, e1]
        have e3 : (List.range H).map (fun h => ownOf rows h (i + 1)) = ((List.range H).map (fun h => ownOf rows h i)).set h (ownOf rows h (i + 1)) := by
          apply List.ext_getElem?
          intro m
          rw [List.getElem?_set]
          by_cases hm : h = m
          · subst hm
            simp [hh]
          · simp only [hm, if_false, List.getElem?_map]
            by_cases hmH : m < H
            · simp only [List.getElem?_range hmH, Option.map_some]
              simp only [ownOf]
              rw [nends_step]
              have : noteAt rows m i = false := by simp [noteAt, hri, hm]
              simp [this]
            · simp [hmH]
        rw [e3]
        refine ⟨⟨pre_set hM.pre (hM.lo a (List.mem_of_getElem? ha)), hM.nl.set hM.dist ha, hM.lo, hM.dist⟩, at_set_ne hjf ?_, _, rfl⟩
        exact fun e => hnot (e ▸ List.mem_of_getElem? ha)
    · rintro ρ' τ ⟨hM, hjf, o, rfl⟩
      simp only [Ok_seq, Then_next, Then_ret, Turn_next, Turn_ret, Back_next, Back_ret, Ok_ite, Ok_and, Ok_or, Ok_cmp2, Ok_bind, Ok_ok, ev_none, ev_bool, ev_int, ev_str, ev_var, ev_glob, ev_fn, ev_bin, ev_neg, ev_not, ev_cmp, ev_list, ev_tup, ev_dictS, ev_dictI, ev_idx, ev_sl, ev_slFrom, ev_slTo, ev_call, ev_len, ev_listOf, ev_listRange, ev_listRev, ev_isinst, ev_toInt, ev_max, ev_min, ev_sum, ev_nil, ev_cons, ex_assign, ex_setItem, ex_append, ex_clear, ex_expr, ex_ret, ex_nil, bind_ok, ofB_some, cm_Eq, cm_NotEq, cm_Lt, cm_LtE, cm_Gt, cm_GtE, cm_Is, cm_IsNot, cm_In, cm_NotIn, eq_ii, eq_ss, eq_bb, eq_rr, eq_tt, eq_nx, eq_in, no_none, no_int, no_ref, no_tup, ist_ii, ist_ib, ist_bb, ist_tt, ist_ss, V.bool.injEq, F.ret.injEq, reduceCtorEq, and_true, true_and, false_and, and_false, or_false, false_or, exists_eq_left', decide_eq_true_eq, decide_eq_false_iff_not, exists_false, exists_const, Option.some.injEq, Bool.not_eq_true', Bool.not_eq_false', Bool.true_eq_false, Bool.false_eq_true, beq_iff_eq, beq_eq_false_iff_ne, ne_eq, not_true_eq_false, not_false_eq_true, Option.map_some, Bool.not_true, Bool.not_false, beq_self_eq_true, List.map_cons, List.map_nil, List.replicate_succ, List.replicate_zero, List.cons_append, List.nil_append, List.getElem?_cons_zero, List.getElem?_cons_succ, List.set_cons_zero, List.set_cons_succ, Nat.reduceSub, Nat.reduceAdd, List.length_cons, List.length_nil, Nat.zero_add, Nat.reduceLeDiff, if_true, if_false]
      refine ok_comp_seq (xs := as.map .ref) (j := τ0.length) (by simp only [Ok_seq, Then_next, Then_ret, Turn_next, Turn_ret, Back_next, Back_ret, Ok_ite, Ok_and, Ok_or, Ok_cmp2, Ok_bind, Ok_ok, ev_none, ev_bool, ev_int, ev_str, ev_var, ev_glob, ev_fn, ev_bin, ev_neg, ev_not, ev_cmp, ev_list, ev_tup, ev_dictS, ev_dictI, ev_idx, ev_sl, ev_slFrom, ev_slTo, ev_call, ev_len, ev_listOf, ev_listRange, ev_listRev, ev_isinst, ev_toInt, ev_max, ev_min, ev_sum, ev_nil, ev_cons, ex_assign, ex_setItem, ex_append, ex_clear, ex_expr, ex_ret, ex_nil, bind_ok, ofB_some, cm_Eq, cm_NotEq, cm_Lt, cm_LtE, cm_Gt, cm_GtE, cm_Is, cm_IsNot, cm_In, cm_NotIn, eq_ii, eq_ss, eq_bb, eq_rr, eq_tt, eq_nx, eq_in, no_none, no_int, no_ref, no_tup, ist_ii, ist_ib, ist_bb, ist_tt, ist_ss, V.bool.injEq, F.ret.injEq, reduceCtorEq, and_true, true_and, false_and, and_false, or_false, false_or, exists_eq_left', decide_eq_true_eq, decide_eq_false_iff_not, exists_false, exists_const, Option.some.injEq, Bool.not_eq_true', Bool.not_eq_false', Bool.true_eq_false, Bool.false_eq_true, beq_iff_eq, beq_eq_false_iff_ne, ne_eq, not_true_eq_false, not_false_eq_true, Option.map_some, Bool.not_true, Bool.not_false, beq_self_eq_true, List.map_cons, List.map_nil, List.replicate_succ, List.replicate_zero, List.cons_append, List.nil_append, List.getElem?_cons_zero, List.getElem?_cons_succ, List.set_cons_zero, List.set_cons_succ, Nat.reduceSub, Nat.reduceAdd, List.length_cons, List.length_nil, Nat.zero_add, Nat.reduceLeDiff, if_true, if_false]) (fun i acc τ' => τ <+: τ' ∧ ∃ bs, acc = bs.map .ref ∧ Mk τ τ' bs ((List.range i).map (knownOf rows))) (fun i acc τ' h => at_pre hjf h.1) ⟨List.prefix_refl _, [], rfl, .start⟩ ?_ ?_
      · rintro i v acc τ' hv ⟨hpre, bs, rfl, hB⟩
        rw [List.getElem?_map] at hv
        cases hai : as[i]? with
        | none => rw [hai] at hv; cases hv
        | some a =>
          rw [hai] at hv; cases hv
          have hi := (List.getElem?_eq_some_iff.mp hai).1
          have hiH : i < H := by omega
          obtain ⟨a', ha', hax⟩ := hM.nl.get (k := i) (xs := ownOf rows i rows.length) (by simp [List.getElem?_map, List.getElem?_range hiH])
          rw [hai] at ha'; cases ha'
          have hjt := at_pre (at_pre hj hM.pre) hpre
          simp only [Ok_seq, Then_next, Then_ret, Turn_next, Turn_ret, Back_next, Back_ret, Ok_ite, Ok_and, Ok_or, Ok_cmp2, Ok_bind, Ok_ok, ev_none, ev_bool, ev_int, ev_str, ev_var, ev_glob, ev_fn, ev_bin, ev_neg, ev_not, ev_cmp, ev_list, ev_tup, ev_dictS, ev_dictI, ev_idx, ev_sl, ev_slFrom, ev_slTo, ev_call, ev_len, ev_listOf, ev_listRange, ev_listRev, ev_isinst, ev_toInt, ev_max, ev_min, ev_sum, ev_nil, ev_cons, ex_assign, ex_setItem, ex_append, ex_clear, ex_expr, ex_ret, ex_nil, bind_ok, ofB_some, cm_Eq, cm_NotEq, cm_Lt, cm_LtE, cm_Gt, cm_GtE, cm_Is, cm_IsNot, cm_In, cm_NotIn, eq_ii, eq_ss, eq_bb, eq_rr, eq_tt, eq_nx, eq_in, no_none, no_int, no_ref, no_tup, ist_ii, ist_ib, ist_bb, ist_tt, ist_ss, V.bool.injEq, F.ret.injEq, reduceCtorEq, and_true, true_and, false_and, and_false, or_false, false_or, exists_eq_left', decide_eq_true_eq, decide_eq_false_iff_not, exists_false, exists_const, Option.some.injEq, Bool.not_eq_true', Bool.not_eq_false', Bool.true_eq_false, Bool.false_eq_true, beq_iff_eq, beq_eq_false_iff_ne, ne_eq, not_true_eq_false, not_false_eq_true, Option.map_some, Bool.not_true, Bool.not_false, beq_self_eq_true, List.map_cons, List.map_nil, List.replicate_succ, List.replicate_zero, List.cons_append, List.nil_append, List.getElem?_cons_zero, List.getElem?_cons_succ, List.set_cons_zero, List.set_cons_succ, Nat.reduceSub, Nat.reduceAdd, List.length_cons, List.length_nil, Nat.zero_add, Nat.reduceLeDiff, if_true, if_false, len_map hjt, Ok_newL]
          refine ⟨by rw [sizeMax_eq]; omega, ?_⟩
          have := nends_len (rows := rows) (h := i) (i := rows.length)
          refine bin_app (at_app (at_pre hax hpre)) at_end (by rw [List.length_map, ownOf, List.length_cons, sizeMax_eq]; simp; omega) ?_
          refine ⟨pre_app (pre_app hpre), bs ++ [τ'.length + 1], by simp, ?_⟩
          rw [List.range_succ, List.map_append]
          refine hB.snoc (pre_app (List.prefix_append _ _)) (by omega) ?_
          simp [knownOf, ownOf, natV]
      · rintro r τ' ⟨hpre, bs, rfl, hB⟩
        have e0 : (List.range (as.map V.ref).length).map (knownOf rows) = known H rows := by simp [known, hasl]
        rw [e0] at hB
        have hbl := hB.nl.len
        rw [known_len] at hbl
        refine ⟨by rw [List.length_map, sizeMax_eq]; omega, ?_⟩
        have hp0 := pre_len hM.pre
        have hp1 := pre_len hpre
        refine ⟨τ'.length, bs, rfl, ⟨hM.pre.trans (pre_app hB.pre), (hB.app (List.prefix_append _ _)).nl, fun a ha => by have := hB.lo a ha; omega, hB.dist⟩, at_end, by omega, fun h => ?_⟩
        have := hB.nl.lt h
        omega

theorem ends_ok {d k kl ke kf kn g1 g2 j H : Nat} {rows : List Rw} (X : Prj P G kl kf kn g1 g2) (hp : P[k]? = some (B.ends kl ke)) (he : P[ke]? = some B.ends_of) (hj : σ[j]? = some (.list (rows.map rv))) (hG : Hist H rows) (h1 : 1 ≤ H) (h40 : H ≤ 40) (hr : rows.length ≤ 1000) :
    Ok (callF ns G P N (d + 3) k [.int (H : Int), .ref j] σ) (fun v τ => ∃ jr as, v = .ref jr ∧ Mk σ τ as (known H rows) ∧ τ[jr]? = some (.list (as.map .ref)) ∧ σ.length ≤ jr ∧ jr ∉ as) := by
  refine ok_call hp rfl ?_
  simp only [B.ends, Ok_seq, Then_next, Then_ret, Turn_next, Turn_ret, Back_next, Back_ret, Ok_ite, Ok_and, Ok_or, Ok_cmp2, Ok_bind, Ok_ok, ev_none, ev_bool, ev_int, ev_str, ev_var, ev_glob, ev_fn, ev_bin, ev_neg, ev_not, ev_cmp, ev_list, ev_tup, ev_dictS, ev_dictI, ev_idx, ev_sl, ev_slFrom, ev_slTo, ev_call, ev_len, ev_listOf, ev_listRange, ev_listRev, ev_isinst, ev_toInt, ev_max, ev_min, ev_sum, ev_nil, ev_cons, ex_assign, ex_setItem, ex_append, ex_clear, ex_expr, ex_ret, ex_nil, bind_ok, ofB_some, cm_Eq, cm_NotEq, cm_Lt, cm_LtE, cm_Gt, cm_GtE, cm_Is, cm_IsNot, cm_In, cm_NotIn, eq_ii, eq_ss, eq_bb, eq_rr, eq_tt, eq_nx, eq_in, no_none, no_int, no_ref, no_tup, ist_ii, ist_ib, ist_bb, ist_tt, ist_ss, V.bool.injEq, F.ret.injEq, reduceCtorEq, and_true, true_and, false_and, and_false, or_false, false_or, exists_eq_left', decide_eq_true_eq, decide_eq_false_iff_not, exists_false, exists_const, Option.some.injEq, Bool.not_eq_true', Bool.not_eq_false', Bool.true_eq_false, Bool.false_eq_true, beq_iff_eq, beq_eq_false_iff_ne, ne_eq, not_true_eq_false, not_false_eq_true, Option.map_some, Bool.not_true, Bool.not_false, beq_self_eq_true, List.map_cons, List.map_nil, List.replicate_succ, List.replicate_zero, List.cons_append, List.nil_append, List.getElem?_cons_zero, List.getElem?_cons_succ, List.set_cons_zero, List.set_cons_succ, Nat.reduceSub, Nat.reduceAdd, List.length_cons, List.length_nil, Nat.zero_add, Nat.reduceLeDiff, if_true, if_false]
  refine (X.ok (d := d) hj hG h1 h40 hr).mono fun v τ1 hv => ?_
  obtain ⟨jl, rfl, p1, _, _⟩ := hv
  have := pre_len p1
  refine (ends_of_ok (d := d + 1) he (at_pre hj p1) hG h40 hr).mono fun v τ2 hv => ?_
  obtain ⟨jr, as, rfl, hM, h2, h3, h4⟩ := hv
  exact ⟨jr, as, rfl, ⟨p1.trans hM.pre, hM.nl, fun a ha => by have := hM.lo a ha; omega, hM.dist⟩, h2, by omega, h4⟩
end
end Mine

namespace Mine
open PySem
section
variable {ns : List Int} {G : List Int} {P : List Fn} {C : Nat → List V → Store → R V} {N : Nat} {σ τ : Store} {ρ : Loc}

theorem wholes_ok {d k kw a b : Nat} {xs : List Nat} (hp : P[k]? = some (B.L_wholes kw)) (hw : P[kw]? = some B.L_whole) (ha : σ[a]? = some (.list (xs.map natV))) (hb : σ[b]? = some (.list (xs.map natV))) (hz : xs.length ≤ sizeMax) :
    callF ns G P N (d + 2) k [.ref a, .ref b] σ = .ok (.bool true) σ := by
  rw [← Ok_R]
  refine ok_call hp rfl ?_
  simp only [B.L_wholes, Ok_seq, Then_next, Then_ret, Turn_next, Turn_ret, Back_next, Back_ret, Ok_ite, Ok_and, Ok_or, Ok_cmp2, Ok_bind, Ok_ok, ev_none, ev_bool, ev_int, ev_str, ev_var, ev_glob, ev_fn, ev_bin, ev_neg, ev_not, ev_cmp, ev_list, ev_tup, ev_dictS, ev_dictI, ev_idx, ev_sl, ev_slFrom, ev_slTo, ev_call, ev_len, ev_listOf, ev_listRange, ev_listRev, ev_isinst, ev_toInt, ev_max, ev_min, ev_sum, ev_nil, ev_cons, ex_assign, ex_setItem, ex_append, ex_clear, ex_expr, ex_ret, ex_nil, bind_ok, ofB_some, cm_Eq, cm_NotEq, cm_Lt, cm_LtE, cm_Gt, cm_GtE, cm_Is, cm_IsNot, cm_In, cm_NotIn, eq_ii, eq_ss, eq_bb, eq_rr, eq_tt, eq_nx, eq_in, no_none, no_int, no_ref, no_tup, ist_ii, ist_ib, ist_bb, ist_tt, ist_ss, V.bool.injEq, F.ret.injEq, reduceCtorEq, and_true, true_and, false_and, and_false, or_false, false_or, exists_eq_left', decide_eq_true_eq, decide_eq_false_iff_not, exists_false, exists_const, Option.some.injEq, Bool.not_eq_true', Bool.not_eq_false', Bool.true_eq_false, Bool.false_eq_true, beq_iff_eq, beq_eq_false_iff_ne, ne_eq, not_true_eq_false, not_false_eq_true, Option.map_some, Bool.not_true, Bool.not_false, beq_self_eq_true, List.map_cons, List.map_nil, List.replicate_succ, List.replicate_zero, List.cons_append, List.nil_append, List.getElem?_cons_zero, List.getElem?_cons_succ, List.set_cons_zero, List.set_cons_succ, Nat.reduceSub, Nat.reduceAdd, List.length_cons, List.length_nil, Nat.zero_add, Nat.reduceLeDiff, if_true, if_false, inst_list ha, len_map ha, len_map hb]
  refine ok_for_range (n := xs.length) (by simp only [Ok_seq, Then_next, Then_ret, Turn_next, Turn_ret, Back_next, Back_ret, Ok_ite, Ok_and, Ok_or, Ok_cmp2, Ok_bind, Ok_ok, ev_none, ev_bool, ev_int, ev_str, ev_var, ev_glob, ev_fn, ev_bin, ev_neg, ev_not, ev_cmp, ev_list, ev_tup, ev_dictS, ev_dictI, ev_idx, ev_sl, ev_slFrom, ev_slTo, ev_call, ev_len, ev_listOf, ev_listRange, ev_listRev, ev_isinst, ev_toInt, ev_max, ev_min, ev_sum, ev_nil, ev_cons, ex_assign, ex_setItem, ex_append, ex_clear, ex_expr, ex_ret, ex_nil, bind_ok, ofB_some, cm_Eq, cm_NotEq, cm_Lt, cm_LtE, cm_Gt, cm_GtE, cm_Is, cm_IsNot, cm_In, cm_NotIn, eq_ii, eq_ss, eq_bb, eq_rr, eq_tt, eq_nx, eq_in, no_none, no_int, no_ref, no_tup, ist_ii, ist_ib, ist_bb, ist_tt, ist_ss, V.bool.injEq, F.ret.injEq, reduceCtorEq, and_true, true_and, false_and, and_false, or_false, false_or, exists_eq_left', decide_eq_true_eq, decide_eq_false_iff_not, exists_false, exists_const, Option.some.injEq, Bool.not_eq_true', Bool.not_eq_false', Bool.true_eq_false, Bool.false_eq_true, beq_iff_eq, beq_eq_false_iff_ne, ne_eq, not_true_eq_false, not_false_eq_true, Option.map_some, Bool.not_true, Bool.not_false, beq_self_eq_true, List.map_cons, List.map_nil, List.replicate_succ, List.replicate_zero, List.cons_append, List.nil_append, List.getElem?_cons_zero, List.getElem?_cons_succ, List.set_cons_zero, List.set_cons_succ, Nat.reduceSub, Nat.reduceAdd, List.length_cons, List.length_nil, Nat.zero_add, Nat.reduceLeDiff, if_true, if_false, len_map hb]) hz (fun i ρ' τ => τ = σ ∧ ∃ o, ρ' = [some (V.ref a), some (V.ref b), o]) ⟨rfl, _, rfl⟩ ?_ ?_
  · rintro i ρ' τ hi ⟨rfl, o, rfl⟩
    have hx := List.getElem?_eq_getElem hi
    have e1 : idxV ns (V.ref a) (V.int (i : Int)) τ = .ok (.int ((xs[i] : Nat) : Int)) τ := idx_map (f := natV) ha hx
    have e2 : idxV ns (V.ref b) (V.int (i : Int)) τ = .ok (.int ((xs[i] : Nat) : Int)) τ := idx_map (f := natV) hb hx
    have wh : callF ns G P N (d + 1) kw [.int ((xs[i] : Nat) : Int)] τ = .ok (.bool true) τ := whole_ok hw
    simp only [Ok_seq, Then_next, Then_ret, Turn_next, Turn_ret, Back_next, Back_ret, Ok_ite, Ok_and, Ok_or, Ok_cmp2, Ok_bind, Ok_ok, ev_none, ev_bool, ev_int, ev_str, ev_var, ev_glob, ev_fn, ev_bin, ev_neg, ev_not, ev_cmp, ev_list, ev_tup, ev_dictS, ev_dictI, ev_idx, ev_sl, ev_slFrom, ev_slTo, ev_call, ev_len, ev_listOf, ev_listRange, ev_listRev, ev_isinst, ev_toInt, ev_max, ev_min, ev_sum, ev_nil, ev_cons, ex_assign, ex_setItem, ex_append, ex_clear, ex_expr, ex_ret, ex_nil, bind_ok, ofB_some, cm_Eq, cm_NotEq, cm_Lt, cm_LtE, cm_Gt, cm_GtE, cm_Is, cm_IsNot, cm_In, cm_NotIn, eq_ii, eq_ss, eq_bb, eq_rr, eq_tt, eq_nx, eq_in, no_none, no_int, no_ref, no_tup, ist_ii, ist_ib, ist_bb, ist_tt, ist_ss, V.bool.injEq, F.ret.injEq, reduceCtorEq, and_true, true_and, false_and, and_false, or_false, false_or, exists_eq_left', decide_eq_true_eq, decide_eq_false_iff_not, exists_false, exists_const, Option.some.injEq, Bool.not_eq_true', Bool.not_eq_false', Bool.true_eq_false, Bool.false_eq_true, beq_iff_eq, beq_eq_false_iff_ne, ne_eq, not_true_eq_false, not_false_eq_true, Option.map_some, Bool.not_true, Bool.not_false, beq_self_eq_true, List.map_cons, List.map_nil, List.replicate_succ, List.replicate_zero, List.cons_append, List.nil_append, List.getElem?_cons_zero, List.getElem?_cons_succ, List.set_cons_zero, List.set_cons_succ, Nat.reduceSub, Nat.reduceAdd, List.length_cons, List.length_nil, Nat.zero_add, Nat.reduceLeDiff, if_true, if_false, e1, e2, wh]
    exact ⟨_, rfl⟩
  · rintro ρ' τ ⟨rfl, o, rfl⟩
    simp only [Ok_seq, Then_next, Then_ret, Turn_next, Turn_ret, Back_next, Back_ret, Ok_ite, Ok_and, Ok_or, Ok_cmp2, Ok_bind, Ok_ok, ev_none, ev_bool, ev_int, ev_str, ev_var, ev_glob, ev_fn, ev_bin, ev_neg, ev_not, ev_cmp, ev_list, ev_tup, ev_dictS, ev_dictI, ev_idx, ev_sl, ev_slFrom, ev_slTo, ev_call, ev_len, ev_listOf, ev_listRange, ev_listRev, ev_isinst, ev_toInt, ev_max, ev_min, ev_sum, ev_nil, ev_cons, ex_assign, ex_setItem, ex_append, ex_clear, ex_expr, ex_ret, ex_nil, bind_ok, ofB_some, cm_Eq, cm_NotEq, cm_Lt, cm_LtE, cm_Gt, cm_GtE, cm_Is, cm_IsNot, cm_In, cm_NotIn, eq_ii, eq_ss, eq_bb, eq_rr, eq_tt, eq_nx, eq_in, no_none, no_int, no_ref, no_tup, ist_ii, ist_ib, ist_bb, ist_tt, ist_ss, V.bool.injEq, F.ret.injEq, reduceCtorEq, and_true, true_and, false_and, and_false, or_false, false_or, exists_eq_left', decide_eq_true_eq, decide_eq_false_iff_not, exists_false, exists_const, Option.some.injEq, Bool.not_eq_true', Bool.not_eq_false', Bool.true_eq_false, Bool.false_eq_true, beq_iff_eq, beq_eq_false_iff_ne, ne_eq, not_true_eq_false, not_false_eq_true, Option.map_some, Bool.not_true, Bool.not_false, beq_self_eq_true, List.map_cons, List.map_nil, List.replicate_succ, List.replicate_zero, List.cons_append, List.nil_append, List.getElem?_cons_zero, List.getElem?_cons_succ, List.set_cons_zero, List.set_cons_succ, Nat.reduceSub, Nat.reduceAdd, List.length_cons, List.length_nil, Nat.zero_add, Nat.reduceLeDiff, if_true, if_false]
end
end Mine

namespace Mine
open PySem

/- rows in order -/
theorem knownOf_head {rows : List Rw} {h : Nat} : (knownOf rows h)[0]? = some 0 := rfl
theorem nends_mem {rows : List Rw} {h i x : Nat} (hx : x ∈ nends rows h i) : 1 ≤ x ∧ x ≤ i ∧ noteAt rows h (x - 1) = true := by
  simp only [nends, List.mem_map, List.mem_filter, List.mem_range] at hx
  obtain ⟨a, ⟨h1, h2⟩, rfl⟩ := hx
  refine ⟨by omega, by omega, ?_⟩
  simpa using h2
theorem nends_sorted {rows : List Rw} {h : Nat} : ∀ i, (nends rows h i).Pairwise (· ≤ ·)
  | 0 => by simp [nends]
  | i + 1 => by
    rw [nends_step]
    rw [List.pairwise_append]
    refine ⟨nends_sorted i, by split <;> simp, fun a ha b hb => ?_⟩
    split at hb
    · simp at hb; subst hb; have := (nends_mem ha).2.1; omega
    · simp at hb
theorem knownOf_sorted {rows : List Rw} {h : Nat} : (knownOf rows h).Pairwise (· ≤ ·) := by
  unfold knownOf
  rw [List.cons_append, List.pairwise_cons]
  refine ⟨fun a _ => by omega, ?_⟩
  rw [List.pairwise_append]
  refine ⟨nends_sorted _, by simp, fun a ha b hb => ?_⟩
  simp at hb; subst hb
  exact (nends_mem ha).2.1
theorem knownOf_le {rows : List Rw} {h x : Nat} (hx : x ∈ knownOf rows h) : x ≤ rows.length := by
  unfold knownOf at hx
  rcases List.mem_append.mp hx with e | e
  · rcases List.mem_cons.mp e with e | e
    · omega
    · exact (nends_mem e).2.1
  · simp at e; omega
theorem knownOf_two {rows : List Rw} {h : Nat} : 2 ≤ (knownOf rows h).length := by simp [knownOf]

/-- the number of a hand's last end that is no later -/
noncomputable def numb (K : List Nat) (g : Nat) : Nat := (K.filter fun x => decide (x ≤ g)).length - 1
theorem filter_lt {g : Nat} : ∀ {K : List Nat}, K.Pairwise (· ≤ ·) → ∀ {m x : Nat}, K[m]? = some x → (x ≤ g ↔ m < (K.filter fun x => decide (x ≤ g)).length)
  | [], _, m, x, h => by simp at h
  | y :: K, hs, m, x, h => by
    have hs' := List.pairwise_cons.mp hs
    by_cases hy : y ≤ g
    · rw [List.filter_cons_of_pos (by simpa using hy), List.length_cons]
      cases m with
      | zero => simp at h; subst h; omega
      | succ m =>
        simp at h
        have := filter_lt (g := g) hs'.2 h
        omega
    · have hall : ∀ z ∈ y :: K, ¬ z ≤ g := fun z hz => by
        rcases List.mem_cons.mp hz with e | e
        · omega
        · have := hs'.1 z e; omega
      have : (y :: K).filter (fun x => decide (x ≤ g)) = [] := by
        rw [List.filter_eq_nil_iff]
        intro a ha; simpa using hall a ha
      rw [this]
      have := hall x (List.mem_of_getElem? h)
      simp; omega
theorem numb_lt {K : List Nat} {g : Nat} (h : 0 < K.length) : numb K g < K.length := by
  have := List.length_filter_le (fun x => decide (x ≤ g)) K
  unfold numb; omega
theorem numb_iff {K : List Nat} {g : Nat} (hs : K.Pairwise (· ≤ ·)) (h0 : K[0]? = some 0) {m x : Nat} (hm : K[m]? = some x) : x ≤ g ↔ m ≤ numb K g := by
  have a := filter_lt (g := g) hs hm
  have b := filter_lt (g := g) hs h0
  unfold numb; omega

/-- lines: a number for each hand -/
noncomputable def upd (f : Nat → Nat) (h v : Nat) : Nat → Nat := fun k => if k = h then v else f k
theorem upd_same {f : Nat → Nat} {h v : Nat} : upd f h v h = v := by simp [upd]
theorem upd_ne {f : Nat → Nat} {h v k : Nat} (e : k ≠ h) : upd f h v k = f k := by simp [upd, e]
noncomputable def lineOf (H : Nat) (f : Nat → Nat) : List Nat := (List.range H).map f
theorem lineOf_len {H : Nat} {f : Nat → Nat} : (lineOf H f).length = H := by simp [lineOf]
theorem lineOf_get {H h : Nat} {f : Nat → Nat} (hh : h < H) : (lineOf H f)[h]? = some (f h) := by simp [lineOf, List.getElem?_map, List.getElem?_range hh]
theorem lineOf_congr {H : Nat} {f g : Nat → Nat} (e : ∀ h, h < H → f h = g h) : lineOf H f = lineOf H g := by
  apply List.map_congr_left
  intro h hh; exact e h (List.mem_range.mp hh)
theorem lineOf_set {H h v : Nat} {f : Nat → Nat} (hh : h < H) : (lineOf H f).set h v = lineOf H (upd f h v) := by
  apply List.ext_getElem?
  intro m
  rw [List.getElem?_set]
  by_cases hm : h = m
  · subst hm; rw [lineOf_get hh, lineOf_get hh, upd_same]; simp [lineOf_len, hh]
  · by_cases hmH : m < H
    · rw [lineOf_get hmH, lineOf_get hmH, upd_ne (Ne.symm hm)]; simp [hm]
    · simp [lineOf, hmH, hm]
noncomputable def sumTo (f : Nat → Nat) : Nat → Nat
  | 0 => 0
  | n + 1 => sumTo f n + f n
theorem sumTo_congr {f g : Nat → Nat} : ∀ {n : Nat}, (∀ k, k < n → f k = g k) → sumTo f n = sumTo g n
  | 0, _ => rfl
  | n + 1, h => by rw [sumTo, sumTo, sumTo_congr (fun k hk => h k (by omega)), h n (by omega)]
theorem sumTo_upd {f : Nat → Nat} {h v : Nat} : ∀ {n : Nat}, h < n → v < f h → sumTo (upd f h v) n < sumTo f n
  | n + 1, hn, hv => by
    rw [sumTo, sumTo]
    by_cases e : h = n
    · subst e
      rw [sumTo_congr (f := upd f h v) (g := f) (n := h) (fun k hk => upd_ne (by omega)), upd_same]
      omega
    · rw [upd_ne (Ne.symm e)]
      have := sumTo_upd (f := f) (h := h) (v := v) (n := n) (by omega) hv
      omega
theorem sumTo_le {f : Nat → Nat} {b : Nat} : ∀ {n : Nat}, (∀ k, k < n → f k ≤ b) → sumTo f n ≤ n * b
  | 0, _ => by simp [sumTo]
  | n + 1, h => by
    rw [sumTo, Nat.succ_mul]
    have := sumTo_le (f := f) (b := b) (n := n) fun k hk => h k (by omega)
    have := h n (by omega)
    omega

/-- how far a hand is kept -/
noncomputable def far (rows : List Rw) (f : Nat → Nat) (h : Nat) : Nat := ((knownOf rows h)[f h]?).getD 0
/-- a line that each hand has -/
noncomputable def Has (H : Nat) (rows : List Rw) (f : Nat → Nat) : Prop := ∀ h, h < H → f h < (knownOf rows h).length
theorem far_at {rows : List Rw} {f : Nat → Nat} {h : Nat} (hf : f h < (knownOf rows h).length) : (knownOf rows h)[f h]? = some (far rows f h) := by
  rw [far, List.getElem?_eq_getElem hf]; rfl
theorem far_mono {rows : List Rw} {f g : Nat → Nat} {h : Nat} (hg : g h < (knownOf rows h).length) (hle : f h ≤ g h) : far rows f h ≤ far rows g h := by
  have hf : f h < (knownOf rows h).length := by omega
  rcases Nat.lt_or_eq_of_le hle with e | e
  · have := List.pairwise_iff_getElem.mp (knownOf_sorted (rows := rows) (h := h)) (f h) (g h) hf hg e
    simpa [far, List.getElem?_eq_getElem hf, List.getElem?_eq_getElem hg] using this
  · simp [far, e]
theorem far_le {rows : List Rw} {f : Nat → Nat} {h : Nat} : far rows f h ≤ rows.length := by
  unfold far
  cases e : (knownOf rows h)[f h]? with
  | none => simp
  | some x => exact knownOf_le (List.mem_of_getElem? e)
theorem Has.upd {H : Nat} {rows : List Rw} {f : Nat → Nat} {h v : Nat} (hf : Has H rows f) (hv : v < (knownOf rows h).length) : Has H rows (upd f h v) := fun k hk => by
  by_cases e : k = h
  · subst e; rw [upd_same]; exact hv
  · rw [upd_ne e]; exact hf k hk
theorem Has.sum {H : Nat} {rows : List Rw} {f : Nat → Nat} (hf : Has H rows f) : sumTo f H ≤ H * (rows.length + 1) :=
  sumTo_le fun k hk => by have := hf k hk; have := knownOf_len (rows := rows) (h := k); omega

/-- a letter that is got within and sent beyond -/
noncomputable def strayL (F : Nat → Nat) (l : Lt) : Bool :=
  match l.got with
  | some g => decide (g < F l.to) && decide (F l.fr ≤ l.at0)
  | none => false
theorem strayL_iff {F : Nat → Nat} {l : Lt} : strayL F l = true ↔ ∃ g, l.got = some g ∧ g < F l.to ∧ F l.fr ≤ l.at0 := by
  unfold strayL
  cases l.got <;> simp
noncomputable def strayAt (ls : List Lt) (F : Nat → Nat) (k : Nat) : Bool :=
  match ls[k]? with
  | some l => strayL F l
  | none => false
noncomputable def straysOf (ls : List Lt) (F : Nat → Nat) : List Nat := (List.range ls.length).filter (strayAt ls F)
noncomputable def Sound (rows : List Rw) (f : Nat → Nat) : Prop := ∀ l ∈ lettersOf rows, strayL (far rows f) l = false
theorem straysOf_nil {ls : List Lt} {F : Nat → Nat} : straysOf ls F = [] ↔ ∀ l ∈ ls, strayL F l = false := by
  unfold straysOf
  rw [List.filter_eq_nil_iff]
  constructor
  · intro h l hl
    obtain ⟨k, hk, rfl⟩ := List.getElem_of_mem hl
    have := h k (List.mem_range.mpr hk)
    simpa [strayAt, List.getElem?_eq_getElem hk] using this
  · intro h k hk
    have hk := List.mem_range.mp hk
    have := h ls[k] (List.getElem_mem hk)
    simp [strayAt, List.getElem?_eq_getElem hk, this]
theorem sound_iff {rows : List Rw} {f : Nat → Nat} : straysOf (lettersOf rows) (far rows f) = [] ↔ Sound rows f := straysOf_nil
theorem straysOf_head {ls : List Lt} {F : Nat → Nat} {k : Nat} {r : List Nat} (h : straysOf ls F = k :: r) : ∃ l, ls[k]? = some l ∧ strayL F l = true ∧ ∀ m, m < k → strayAt ls F m = false := by
  have hm : k ∈ straysOf ls F := by rw [h]; exact List.mem_cons_self
  unfold straysOf at hm
  obtain ⟨h1, h2⟩ := List.mem_filter.mp hm
  have hk := List.mem_range.mp h1
  refine ⟨ls[k], List.getElem?_eq_getElem hk, by simpa [strayAt, List.getElem?_eq_getElem hk] using h2, fun m hmk => ?_⟩
  cases e : strayAt ls F m with
  | false => rfl
  | true =>
    have hmem : m ∈ straysOf ls F := List.mem_filter.mpr ⟨List.mem_range.mpr (by omega), e⟩
    have hs : (straysOf ls F).Pairwise (· < ·) := List.Pairwise.filter _ List.pairwise_lt_range
    rw [h] at hs hmem
    rcases List.mem_cons.mp hmem with e | e
    · omega
    · have := (List.pairwise_cons.mp hs).1 m e; omega
theorem strayL_congr {F F' : Nat → Nat} {l : Lt} (h1 : F l.to = F' l.to) (h2 : F l.fr = F' l.fr) : strayL F l = strayL F' l := by
  unfold strayL; rw [h1, h2]
theorem Sound.congr {H : Nat} {rows : List Rw} {f g : Nat → Nat} (hG : Hist H rows) (e : ∀ h, h < H → f h = g h) (hs : Sound rows f) : Sound rows g := fun l hl => by
  obtain ⟨h1, h2, _⟩ := hG.letter hl
  rw [← hs l hl]
  exact strayL_congr (by simp [far, e _ h2]) (by simp [far, e _ h1])

/-- a line is lowered at a stray letter -/
noncomputable def lower (rows : List Rw) (f : Nat → Nat) (l : Lt) (g : Nat) : Nat → Nat := upd f l.to (numb (knownOf rows l.to) g)
theorem lower_lt {rows : List Rw} {f : Nat → Nat} {l : Lt} {g : Nat} (hf : f l.to < (knownOf rows l.to).length) (h : g < far rows f l.to) : numb (knownOf rows l.to) g < f l.to := by
  have := numb_iff (g := g) knownOf_sorted knownOf_head (far_at hf)
  omega
/-- all sound lines below the start lie below -/
structure Below (H : Nat) (rows : List Rw) (f0 f : Nat → Nat) : Prop where
  le : ∀ h, h < H → f h ≤ f0 h
  has : Has H rows f
  ub : ∀ s, Has H rows s → (∀ h, h < H → s h ≤ f0 h) → Sound rows s → ∀ h, h < H → s h ≤ f h
theorem Below.start {H : Nat} {rows : List Rw} {f : Nat → Nat} (hf : Has H rows f) : Below H rows f f := ⟨fun _ _ => Nat.le_refl _, hf, fun s _ h _ => h⟩
theorem Below.step {H : Nat} {rows : List Rw} {f0 f : Nat → Nat} {l : Lt} {g : Nat} (hB : Below H rows f0 f) (hG : Hist H rows) (hl : l ∈ lettersOf rows) (hg : l.got = some g) (h1 : g < far rows f l.to) (h2 : far rows f l.fr ≤ l.at0) : Below H rows f0 (lower rows f l g) := by
  obtain ⟨hfr, hto, _⟩ := hG.letter hl
  have hlt := lower_lt (hB.has _ hto) h1
  have hf := hB.has _ hto
  refine ⟨fun h hh => ?_, hB.has.upd (by omega), fun s hs hs0 hss h hh => ?_⟩
  · by_cases e : h = l.to
    · subst e; rw [lower, upd_same]; have := hB.le _ hto; omega
    · rw [lower, upd_ne e]; exact hB.le h hh
  · by_cases e : h = l.to
    · subst e
      rw [lower, upd_same]
      have a := hB.ub s hs hs0 hss _ hfr
      have b := far_mono (hB.has _ hfr) a
      have c := hss l hl
      have d : ¬ g < far rows s l.to := fun hh => by
        have : strayL (far rows s) l = true := strayL_iff.mpr ⟨g, hg, hh, by omega⟩
        rw [this] at c; cases c
      exact (numb_iff (g := g) knownOf_sorted knownOf_head (far_at (hs _ hto))).mp (by omega)
    · rw [lower, upd_ne e]; exact hB.ub s hs hs0 hss h hh
theorem Below.unique {H : Nat} {rows : List Rw} {f0 f g : Nat → Nat} (hf : Below H rows f0 f) (hg : Below H rows f0 g) (sf : Sound rows f) (sg : Sound rows g) : ∀ h, h < H → f h = g h := fun h hh => by
  have a := hf.ub g hg.has hg.le sg h hh
  have b := hg.ub f hf.has hf.le sf h hh
  omega

/- letters and rows -/
noncomputable def isSend (rows : List Rw) (p : Nat) : Bool :=
  match rows[p]? with
  | some (.send _ _) => true
  | _ => false
theorem Hist.take {H : Nat} {rows : List Rw} (h : Hist H rows) (n : Nat) : Hist H (rows.take n) := fun i x hx => by
  have hi := (List.getElem?_eq_some_iff.mp hx).1
  simp at hi
  rw [List.getElem?_take_of_lt (by omega)] at hx
  have := h i x hx
  rwa [List.take_take, Nat.min_eq_left (by omega)]
/-- facts of each letter, by the rows up to a place -/
structure LFacts (rows : List Rw) (n : Nat) : Prop where
  sends : (lettersOf (rows.take n)).map Lt.at0 = (List.range n).filter (isSend rows)
  send : ∀ (k : Nat) l, (lettersOf (rows.take n))[k]? = some l → rows[l.at0]? = some (.send l.fr l.to)
  got : ∀ (k : Nat) l g, (lettersOf (rows.take n))[k]? = some l → l.got = some g → g < n ∧ rows[g]? = some (.got l.to k)
  gotR : ∀ (p h k : Nat), p < n → rows[p]? = some (.got h k) → ∃ l, (lettersOf (rows.take n))[k]? = some l ∧ l.got = some p ∧ l.to = h
theorem modify_at0 {ls : List Lt} {k p : Nat} : (ls.modify k (gotAt p)).map Lt.at0 = ls.map Lt.at0 := by
  apply List.ext_getElem?
  intro m
  rw [List.getElem?_map, List.getElem?_modify, List.getElem?_map]
  cases ls[m]? with
  | none => simp
  | some l => by_cases e : k = m <;> simp [e, gotAt]
theorem lfacts {H : Nat} {rows : List Rw} (hG : Hist H rows) : ∀ n, n ≤ rows.length → LFacts rows n
  | 0, _ => ⟨by simp [lettersOf, lettersFrom], fun k l h => by simp [lettersOf, lettersFrom] at h, fun k l g h => by simp [lettersOf, lettersFrom] at h, fun p h k hp => by omega⟩
  | n + 1, hn => by
    have I := lfacts hG n (by omega)
    have hri : rows[n]? = some rows[n] := List.getElem?_eq_getElem (by omega)
    have hrow := hG n _ hri
    have hst := letters_take hri
    generalize rows[n] = r at *
    have up : ∀ (k : Nat) l g, (lettersOf (rows.take n))[k]? = some l → l.got = some g → g < n + 1 ∧ rows[g]? = some (.got l.to k) := fun k l g h1 h2 => by
      have := I.got k l g h1 h2
      exact ⟨by omega, this.2⟩
    cases r with
    | note h =>
      simp only [stepL] at hst
      refine ⟨by rw [hst, I.sends, List.range_succ, List.filter_append]; simp [isSend, hri], by rw [hst]; exact I.send, by rw [hst]; exact up, fun p h' k hp hpk => ?_⟩
      rw [hst]
      by_cases e : p = n
      · subst e; rw [hri] at hpk; cases hpk
      · exact I.gotR p h' k (by omega) hpk
    | send a b =>
      simp only [stepL] at hst
      refine ⟨?_, ?_, ?_, ?_⟩
      · rw [hst, List.map_append, I.sends, List.range_succ, List.filter_append]; simp [isSend, hri]
      · intro k l hl
        rw [hst] at hl
        by_cases hk : k < (lettersOf (rows.take n)).length
        · rw [List.getElem?_append_left hk] at hl; exact I.send k l hl
        · rw [List.getElem?_append_right (by omega)] at hl
          have := List.mem_of_getElem? hl
          simp at this; subst this; exact hri
      · intro k l g hl hg
        rw [hst] at hl
        by_cases hk : k < (lettersOf (rows.take n)).length
        · rw [List.getElem?_append_left hk] at hl; exact up k l g hl hg
        · rw [List.getElem?_append_right (by omega)] at hl
          have := List.mem_of_getElem? hl
          simp at this; subst this; cases hg
      · intro p h' k hp hpk
        rw [hst]
        by_cases e : p = n
        · subst e; rw [hri] at hpk; cases hpk
        · obtain ⟨l, hl, h2⟩ := I.gotR p h' k (by omega) hpk
          exact ⟨l, by rw [List.getElem?_append_left (List.getElem?_eq_some_iff.mp hl).1]; exact hl, h2⟩
    | got h m =>
      simp only [stepL] at hst
      obtain ⟨hh, l0, hl0, hto, hno⟩ := hrow
      have look : ∀ (k : Nat) l, (lettersOf (rows.take (n + 1)))[k]? = some l → (k = m ∧ l = gotAt n l0) ∨ (k ≠ m ∧ (lettersOf (rows.take n))[k]? = some l) := fun k l hl => by
        rw [hst, List.getElem?_modify] at hl
        by_cases e : m = k
        · subst e; rw [hl0] at hl; simp at hl; exact .inl ⟨rfl, hl.symm⟩
        · simp [e] at hl; exact .inr ⟨Ne.symm e, hl⟩
      refine ⟨?_, ?_, ?_, ?_⟩
      · rw [hst, modify_at0, I.sends, List.range_succ, List.filter_append]; simp [isSend, hri]
      · intro k l hl
        rcases look k l hl with ⟨rfl, rfl⟩ | ⟨_, hl⟩
        · exact I.send k l0 hl0
        · exact I.send k l hl
      · intro k l g hl hg
        rcases look k l hl with ⟨rfl, rfl⟩ | ⟨_, hl⟩
        · simp [gotAt] at hg; subst hg
          exact ⟨by omega, by rw [hri]; simp [gotAt, hto]⟩
        · exact up k l g hl hg
      · intro p h' k hp hpk
        by_cases e : p = n
        · subst e; rw [hri] at hpk; cases hpk
          exact ⟨gotAt p l0, by rw [hst, List.getElem?_modify, hl0]; simp, rfl, hto⟩
        · obtain ⟨l, hl, h2, h3⟩ := I.gotR p h' k (by omega) hpk
          refine ⟨l, ?_, h2, h3⟩
          rw [hst, List.getElem?_modify_ne _ _ ?_]
          · exact hl
          · intro e; subst e; rw [hl0] at hl; cases hl; rw [hno] at h2; cases h2
theorem Hist.facts {H : Nat} {rows : List Rw} (hG : Hist H rows) : LFacts rows rows.length := lfacts hG _ (Nat.le_refl _)
end Mine

namespace Mine
open PySem

/-- the ends of all hands stand in the store -/
noncomputable def Told (τ : Store) (j H : Nat) (rows : List Rw) : Prop := ∃ as : List Nat, τ[j]? = some (.list (as.map .ref)) ∧ NL τ as (known H rows)

section
variable {ns : List Int} {G : List Int} {P : List Fn} {C : Nat → List V → Store → R V} {N : Nat} {σ τ : Store} {ρ : Loc}

theorem Told.pre {j H : Nat} {rows : List Rw} (h : Told σ j H rows) (hp : σ <+: τ) : Told τ j H rows := by
  obtain ⟨as, h1, h2⟩ := h
  exact ⟨as, at_pre h1 hp, h2.pre hp⟩
theorem Told.idx {j H h : Nat} {rows : List Rw} (ht : Told τ j H rows) (hh : h < H) : ∃ a, idxV ns (.ref j) (.int (h : Int)) τ = .ok (.ref a) τ ∧ τ[a]? = some (.list ((knownOf rows h).map natV)) := by
  obtain ⟨as, h1, h2⟩ := ht
  obtain ⟨a, ha, hx⟩ := h2.get (known_get (rows := rows) hh)
  exact ⟨a, idx_map (f := V.ref) h1 ha, hx⟩
theorem Told.len {j H : Nat} {rows : List Rw} (ht : Told τ j H rows) : lenV ns (.ref j) τ = .ok (.int (H : Int)) τ := by
  obtain ⟨as, h1, h2⟩ := ht
  have := h2.len
  rw [known_len] at this
  rw [len_map h1, this]
theorem idx_nat {j k x : Nat} {xs : List Nat} (h : τ[j]? = some (.list (xs.map natV))) (hk : xs[k]? = some x) : idxV ns (.ref j) (.int (k : Int)) τ = .ok (.int (x : Int)) τ := idx_map (f := natV) h hk

theorem kept_up_ok {d k jk jl H : Nat} {rows : List Rw} {f : Nat → Nat} (hp : P[k]? = some B.kept_up_to) (hT : Told σ jk H rows) (hL : σ[jl]? = some (.list ((lineOf H f).map natV))) (hf : Has H rows f) (h40 : H ≤ 40) :
    callF ns G P N (d + 1) k [.ref jk, .ref jl] σ = .ok (.ref σ.length) (σ ++ [.list ((lineOf H (far rows f)).map natV)]) := by
  have key : evE ns G (callF ns G P N d) [some (V.ref jk), some (V.ref jl), none] (.comp (.idx (.idx (.var 0) (.var 2)) (.idx (.var 1) (.var 2))) 2 (.range (.len (.var 1)))) σ = .ok (.ref σ.length) (σ ++ [.list ((List.range H).map (fun h => natV (far rows f h)))]) := by
    refine ev_comp_range (n := H) (g := fun h => natV (far rows f h)) (by simp only [Ok_seq, Then_next, Then_ret, Turn_next, Turn_ret, Back_next, Back_ret, Ok_ite, Ok_and, Ok_or, Ok_cmp2, Ok_bind, Ok_ok, ev_none, ev_bool, ev_int, ev_str, ev_var, ev_glob, ev_fn, ev_bin, ev_neg, ev_not, ev_cmp, ev_list, ev_tup, ev_dictS, ev_dictI, ev_idx, ev_sl, ev_slFrom, ev_slTo, ev_call, ev_len, ev_listOf, ev_listRange, ev_listRev, ev_isinst, ev_toInt, ev_max, ev_min, ev_sum, ev_nil, ev_cons, ex_assign, ex_setItem, ex_append, ex_clear, ex_expr, ex_ret, ex_nil, bind_ok, ofB_some, cm_Eq, cm_NotEq, cm_Lt, cm_LtE, cm_Gt, cm_GtE, cm_Is, cm_IsNot, cm_In, cm_NotIn, eq_ii, eq_ss, eq_bb, eq_rr, eq_tt, eq_nx, eq_in, no_none, no_int, no_ref, no_tup, ist_ii, ist_ib, ist_bb, ist_tt, ist_ss, V.bool.injEq, F.ret.injEq, reduceCtorEq, and_true, true_and, false_and, and_false, or_false, false_or, exists_eq_left', decide_eq_true_eq, decide_eq_false_iff_not, exists_false, exists_const, Option.some.injEq, Bool.not_eq_true', Bool.not_eq_false', Bool.true_eq_false, Bool.false_eq_true, beq_iff_eq, beq_eq_false_iff_ne, ne_eq, not_true_eq_false, not_false_eq_true, Option.map_some, Bool.not_true, Bool.not_false, beq_self_eq_true, List.map_cons, List.map_nil, List.replicate_succ, List.replicate_zero, List.cons_append, List.nil_append, List.getElem?_cons_zero, List.getElem?_cons_succ, List.set_cons_zero, List.set_cons_succ, Nat.reduceSub, Nat.reduceAdd, List.length_cons, List.length_nil, Nat.zero_add, Nat.reduceLeDiff, if_true, if_false, len_map hL, lineOf_len]) (by rw [sizeMax_eq]; omega) (fun i hi => ?_)
    obtain ⟨a, ha, hx⟩ := hT.idx (ns := ns) hi
    have e1 := idx_nat (ns := ns) hL (lineOf_get hi)
    have e2 := idx_nat (ns := ns) hx (far_at (hf i hi))
    simp only [Ok_seq, Then_next, Then_ret, Turn_next, Turn_ret, Back_next, Back_ret, Ok_ite, Ok_and, Ok_or, Ok_cmp2, Ok_bind, Ok_ok, ev_none, ev_bool, ev_int, ev_str, ev_var, ev_glob, ev_fn, ev_bin, ev_neg, ev_not, ev_cmp, ev_list, ev_tup, ev_dictS, ev_dictI, ev_idx, ev_sl, ev_slFrom, ev_slTo, ev_call, ev_len, ev_listOf, ev_listRange, ev_listRev, ev_isinst, ev_toInt, ev_max, ev_min, ev_sum, ev_nil, ev_cons, ex_assign, ex_setItem, ex_append, ex_clear, ex_expr, ex_ret, ex_nil, bind_ok, ofB_some, cm_Eq, cm_NotEq, cm_Lt, cm_LtE, cm_Gt, cm_GtE, cm_Is, cm_IsNot, cm_In, cm_NotIn, eq_ii, eq_ss, eq_bb, eq_rr, eq_tt, eq_nx, eq_in, no_none, no_int, no_ref, no_tup, ist_ii, ist_ib, ist_bb, ist_tt, ist_ss, V.bool.injEq, F.ret.injEq, reduceCtorEq, and_true, true_and, false_and, and_false, or_false, false_or, exists_eq_left', decide_eq_true_eq, decide_eq_false_iff_not, exists_false, exists_const, Option.some.injEq, Bool.not_eq_true', Bool.not_eq_false', Bool.true_eq_false, Bool.false_eq_true, beq_iff_eq, beq_eq_false_iff_ne, ne_eq, not_true_eq_false, not_false_eq_true, Option.map_some, Bool.not_true, Bool.not_false, beq_self_eq_true, List.map_cons, List.map_nil, List.replicate_succ, List.replicate_zero, List.cons_append, List.nil_append, List.getElem?_cons_zero, List.getElem?_cons_succ, List.set_cons_zero, List.set_cons_succ, Nat.reduceSub, Nat.reduceAdd, List.length_cons, List.length_nil, Nat.zero_add, Nat.reduceLeDiff, if_true, if_false, ha, e1, e2, natV]
  rw [← Ok_R]
  refine ok_call hp rfl ?_
  simp only [B.kept_up_to, Ok_seq, Then_next, Then_ret, Turn_next, Turn_ret, Back_next, Back_ret, Ok_ite, Ok_and, Ok_or, Ok_cmp2, Ok_bind, Ok_ok, ev_none, ev_bool, ev_int, ev_str, ev_var, ev_glob, ev_fn, ev_bin, ev_neg, ev_not, ev_cmp, ev_list, ev_tup, ev_dictS, ev_dictI, ev_idx, ev_sl, ev_slFrom, ev_slTo, ev_call, ev_len, ev_listOf, ev_listRange, ev_listRev, ev_isinst, ev_toInt, ev_max, ev_min, ev_sum, ev_nil, ev_cons, ex_assign, ex_setItem, ex_append, ex_clear, ex_expr, ex_ret, ex_nil, bind_ok, ofB_some, cm_Eq, cm_NotEq, cm_Lt, cm_LtE, cm_Gt, cm_GtE, cm_Is, cm_IsNot, cm_In, cm_NotIn, eq_ii, eq_ss, eq_bb, eq_rr, eq_tt, eq_nx, eq_in, no_none, no_int, no_ref, no_tup, ist_ii, ist_ib, ist_bb, ist_tt, ist_ss, V.bool.injEq, F.ret.injEq, reduceCtorEq, and_true, true_and, false_and, and_false, or_false, false_or, exists_eq_left', decide_eq_true_eq, decide_eq_false_iff_not, exists_false, exists_const, Option.some.injEq, Bool.not_eq_true', Bool.not_eq_false', Bool.true_eq_false, Bool.false_eq_true, beq_iff_eq, beq_eq_false_iff_ne, ne_eq, not_true_eq_false, not_false_eq_true, Option.map_some, Bool.not_true, Bool.not_false, beq_self_eq_true, List.map_cons, List.map_nil, List.replicate_succ, List.replicate_zero, List.cons_append, List.nil_append, List.getElem?_cons_zero, List.getElem?_cons_succ, List.set_cons_zero, List.set_cons_succ, Nat.reduceSub, Nat.reduceAdd, List.length_cons, List.length_nil, Nat.zero_add, Nat.reduceLeDiff, if_true, if_false, key]
  simp [lineOf]

theorem set_end {c c' : Cell} : (σ ++ [c]).set σ.length c' = σ ++ [c'] := by simp

theorem strays_ok {d k js jf H : Nat} {ls : List Lt} {w : Nat → Nat} (hp : P[k]? = some B.strays_by) (hs : σ[js]? = some (.list (ls.map lv))) (hF : σ[jf]? = some (.list ((lineOf H w).map natV))) (hl : ∀ l ∈ ls, l.fr < H ∧ l.to < H) (hz : ls.length ≤ 1000) :
    callF ns G P N (d + 1) k [.ref js, .ref jf] σ = .ok (.ref σ.length) (σ ++ [.list ((straysOf ls w).map natV)]) := by
  rw [← Ok_R]
  refine ok_call hp rfl ?_
  simp only [B.strays_by, Ok_seq, Then_next, Then_ret, Turn_next, Turn_ret, Back_next, Back_ret, Ok_ite, Ok_and, Ok_or, Ok_cmp2, Ok_bind, Ok_ok, ev_none, ev_bool, ev_int, ev_str, ev_var, ev_glob, ev_fn, ev_bin, ev_neg, ev_not, ev_cmp, ev_list, ev_tup, ev_dictS, ev_dictI, ev_idx, ev_sl, ev_slFrom, ev_slTo, ev_call, ev_len, ev_listOf, ev_listRange, ev_listRev, ev_isinst, ev_toInt, ev_max, ev_min, ev_sum, ev_nil, ev_cons, ex_assign, ex_setItem, ex_append, ex_clear, ex_expr, ex_ret, ex_nil, bind_ok, ofB_some, cm_Eq, cm_NotEq, cm_Lt, cm_LtE, cm_Gt, cm_GtE, cm_Is, cm_IsNot, cm_In, cm_NotIn, eq_ii, eq_ss, eq_bb, eq_rr, eq_tt, eq_nx, eq_in, no_none, no_int, no_ref, no_tup, ist_ii, ist_ib, ist_bb, ist_tt, ist_ss, V.bool.injEq, F.ret.injEq, reduceCtorEq, and_true, true_and, false_and, and_false, or_false, false_or, exists_eq_left', decide_eq_true_eq, decide_eq_false_iff_not, exists_false, exists_const, Option.some.injEq, Bool.not_eq_true', Bool.not_eq_false', Bool.true_eq_false, Bool.false_eq_true, beq_iff_eq, beq_eq_false_iff_ne, ne_eq, not_true_eq_false, not_false_eq_true, Option.map_some, Bool.not_true, Bool.not_false, beq_self_eq_true, List.map_cons, List.map_nil, List.replicate_succ, List.replicate_zero, List.cons_append, List.nil_append, List.getElem?_cons_zero, List.getElem?_cons_succ, List.set_cons_zero, List.set_cons_succ, Nat.reduceSub, Nat.reduceAdd, List.length_cons, List.length_nil, Nat.zero_add, Nat.reduceLeDiff, if_true, if_false, Ok_newL, Nat.zero_le]
  refine ok_for_range (n := ls.length) (by simp only [Ok_seq, Then_next, Then_ret, Turn_next, Turn_ret, Back_next, Back_ret, Ok_ite, Ok_and, Ok_or, Ok_cmp2, Ok_bind, Ok_ok, ev_none, ev_bool, ev_int, ev_str, ev_var, ev_glob, ev_fn, ev_bin, ev_neg, ev_not, ev_cmp, ev_list, ev_tup, ev_dictS, ev_dictI, ev_idx, ev_sl, ev_slFrom, ev_slTo, ev_call, ev_len, ev_listOf, ev_listRange, ev_listRev, ev_isinst, ev_toInt, ev_max, ev_min, ev_sum, ev_nil, ev_cons, ex_assign, ex_setItem, ex_append, ex_clear, ex_expr, ex_ret, ex_nil, bind_ok, ofB_some, cm_Eq, cm_NotEq, cm_Lt, cm_LtE, cm_Gt, cm_GtE, cm_Is, cm_IsNot, cm_In, cm_NotIn, eq_ii, eq_ss, eq_bb, eq_rr, eq_tt, eq_nx, eq_in, no_none, no_int, no_ref, no_tup, ist_ii, ist_ib, ist_bb, ist_tt, ist_ss, V.bool.injEq, F.ret.injEq, reduceCtorEq, and_true, true_and, false_and, and_false, or_false, false_or, exists_eq_left', decide_eq_true_eq, decide_eq_false_iff_not, exists_false, exists_const, Option.some.injEq, Bool.not_eq_true', Bool.not_eq_false', Bool.true_eq_false, Bool.false_eq_true, beq_iff_eq, beq_eq_false_iff_ne, ne_eq, not_true_eq_false, not_false_eq_true, Option.map_some, Bool.not_true, Bool.not_false, beq_self_eq_true, List.map_cons, List.map_nil, List.replicate_succ, List.replicate_zero, List.cons_append, List.nil_append, List.getElem?_cons_zero, List.getElem?_cons_succ, List.set_cons_zero, List.set_cons_succ, Nat.reduceSub, Nat.reduceAdd, List.length_cons, List.length_nil, Nat.zero_add, Nat.reduceLeDiff, if_true, if_false]; rw [len_map (at_app hs)]) (by rw [sizeMax_eq]; omega) (fun i ρ' τ => τ = σ ++ [.list (((List.range i).filter (strayAt ls w)).map natV)] ∧ ∃ o3 o4, ρ' = [some (V.ref js), some (V.ref jf), some (V.ref σ.length), o3, o4]) ⟨rfl, _, _, rfl⟩ ?_ ?_
  · rintro i ρ' τ hi ⟨rfl, o3, o4, rfl⟩
    have hli := List.getElem?_eq_getElem hi
    obtain ⟨hfr, hto⟩ := hl _ (List.getElem_mem hi)
    have hst : strayAt ls w i = strayL w ls[i] := by simp only [strayAt, hli]
    generalize ls[i] = l at *
    generalize hfl : (List.range i).filter (strayAt ls w) = fl
    have hfz : fl.length ≤ i := by
      rw [← hfl]; have := List.length_filter_le (strayAt ls w) (List.range i); simpa using this
    generalize hK : Turn _ _ = K
    have nx : (List.range (i + 1)).filter (strayAt ls w) = fl ++ if strayAt ls w i = true then [i] else [] := by rw [range_filter, hfl]
    rw [hst] at nx
    have e0 := idx_map (ns := ns) (f := lv) (at_app (τ := [Cell.list (List.map natV fl)]) hs) hli
    have e1 := idx_nat (ns := ns) (at_app (τ := [Cell.list (List.map natV fl)]) hF) (lineOf_get hto)
    have e2 := idx_nat (ns := ns) (at_app (τ := [Cell.list (List.map natV fl)]) hF) (lineOf_get hfr)
    have e3 := app_list (v := V.int (i : Int)) (τ := σ ++ [Cell.list (List.map natV fl)]) at_end (by rw [List.length_map, sizeMax_eq]; omega)
    have hend := isL_list (τ := σ ++ [Cell.list (List.map natV fl)]) at_end
    unfold B.strays_by_s1
    refine st_assign (v := lv l) (σ' := σ ++ [Cell.list (List.map natV fl)]) e0 ?_
    have cond : evE ns G (callF ns G P N d) [some (V.ref js), some (V.ref jf), some (V.ref σ.length), some (V.int (i : Int)), some (lv l)] (.and (.cmp .IsNot (.idx (.var 4) (.int 3)) .none) (.and (.cmp .Lt (.idx (.var 4) (.int 3)) (.idx (.var 1) (.idx (.var 4) (.int 1)))) (.cmp .GtE (.idx (.var 4) (.int 2)) (.idx (.var 1) (.idx (.var 4) (.int 0)))))) (σ ++ [Cell.list (List.map natV fl)]) = .ok (.bool (strayL w l)) (σ ++ [Cell.list (List.map natV fl)]) := by
      generalize σ ++ [Cell.list (List.map natV fl)] = τ at *
      rw [← Ok_R]
      cases hg : l.got with
      | none => simp only [Ok_seq, Then_next, Then_ret, Turn_next, Turn_ret, Back_next, Back_ret, Ok_ite, Ok_and, Ok_or, Ok_cmp2, Ok_bind, Ok_ok, ev_none, ev_bool, ev_int, ev_str, ev_var, ev_glob, ev_fn, ev_bin, ev_neg, ev_not, ev_cmp, ev_list, ev_tup, ev_dictS, ev_dictI, ev_idx, ev_sl, ev_slFrom, ev_slTo, ev_call, ev_len, ev_listOf, ev_listRange, ev_listRev, ev_isinst, ev_toInt, ev_max, ev_min, ev_sum, ev_nil, ev_cons, ex_assign, ex_setItem, ex_append, ex_clear, ex_expr, ex_ret, ex_nil, bind_ok, ofB_some, cm_Eq, cm_NotEq, cm_Lt, cm_LtE, cm_Gt, cm_GtE, cm_Is, cm_IsNot, cm_In, cm_NotIn, eq_ii, eq_ss, eq_bb, eq_rr, eq_tt, eq_nx, eq_in, no_none, no_int, no_ref, no_tup, ist_ii, ist_ib, ist_bb, ist_tt, ist_ss, V.bool.injEq, F.ret.injEq, reduceCtorEq, and_true, true_and, false_and, and_false, or_false, false_or, exists_eq_left', decide_eq_true_eq, decide_eq_false_iff_not, exists_false, exists_const, Option.some.injEq, Bool.not_eq_true', Bool.not_eq_false', Bool.true_eq_false, Bool.false_eq_true, beq_iff_eq, beq_eq_false_iff_ne, ne_eq, not_true_eq_false, not_false_eq_true, Option.map_some, Bool.not_true, Bool.not_false, beq_self_eq_true, List.map_cons, List.map_nil, List.replicate_succ, List.replicate_zero, List.cons_append, List.nil_append, List.getElem?_cons_zero, List.getElem?_cons_succ, List.set_cons_zero, List.set_cons_succ, Nat.reduceSub, Nat.reduceAdd, List.length_cons, List.length_nil, Nat.zero_add, Nat.reduceLeDiff, if_true, if_false, rv, ov, lv, idx_tup0, idx_tup1, idx_tup2, idx_tup3, ne_ns, ne_ng, ne_sn, ne_sg, ne_gn, ne_gs, len_tup2, len_tup3, len_tup4, hg, strayL]
      | some g =>
        simp only [Ok_seq, Then_next, Then_ret, Turn_next, Turn_ret, Back_next, Back_ret, Ok_ite, Ok_and, Ok_or, Ok_cmp2, Ok_bind, Ok_ok, ev_none, ev_bool, ev_int, ev_str, ev_var, ev_glob, ev_fn, ev_bin, ev_neg, ev_not, ev_cmp, ev_list, ev_tup, ev_dictS, ev_dictI, ev_idx, ev_sl, ev_slFrom, ev_slTo, ev_call, ev_len, ev_listOf, ev_listRange, ev_listRev, ev_isinst, ev_toInt, ev_max, ev_min, ev_sum, ev_nil, ev_cons, ex_assign, ex_setItem, ex_append, ex_clear, ex_expr, ex_ret, ex_nil, bind_ok, ofB_some, cm_Eq, cm_NotEq, cm_Lt, cm_LtE, cm_Gt, cm_GtE, cm_Is, cm_IsNot, cm_In, cm_NotIn, eq_ii, eq_ss, eq_bb, eq_rr, eq_tt, eq_nx, eq_in, no_none, no_int, no_ref, no_tup, ist_ii, ist_ib, ist_bb, ist_tt, ist_ss, V.bool.injEq, F.ret.injEq, reduceCtorEq, and_true, true_and, false_and, and_false, or_false, false_or, exists_eq_left', decide_eq_true_eq, decide_eq_false_iff_not, exists_false, exists_const, Option.some.injEq, Bool.not_eq_true', Bool.not_eq_false', Bool.true_eq_false, Bool.false_eq_true, beq_iff_eq, beq_eq_false_iff_ne, ne_eq, not_true_eq_false, not_false_eq_true, Option.map_some, Bool.not_true, Bool.not_false, beq_self_eq_true, List.map_cons, List.map_nil, List.replicate_succ, List.replicate_zero, List.cons_append, List.nil_append, List.getElem?_cons_zero, List.getElem?_cons_succ, List.set_cons_zero, List.set_cons_succ, Nat.reduceSub, Nat.reduceAdd, List.length_cons, List.length_nil, Nat.zero_add, Nat.reduceLeDiff, if_true, if_false, rv, ov, lv, idx_tup0, idx_tup1, idx_tup2, idx_tup3, ne_ns, ne_ng, ne_sn, ne_sg, ne_gn, ne_gs, len_tup2, len_tup3, len_tup4, hg, e1, e2, strayL]
        by_cases c1 : g < w l.to
        · have c1' : (g : Int) < (w l.to : Int) := Int.ofNat_lt.mpr c1
          refine .inl ⟨c1', ?_⟩
          rw [decide_eq_true c1, Bool.true_and]
          exact decide_eq_decide.mpr Int.ofNat_le
        · have c1' : ¬ (g : Int) < (w l.to : Int) := fun h => c1 (Int.ofNat_lt.mp h)
          refine .inr ⟨c1', ?_⟩
          rw [decide_eq_false c1, Bool.false_and]
    cases hb : strayL w l with
    | true =>
      rw [hb] at cond nx
      refine st_then cond (st_append (j := σ.length) (v := .int (i : Int)) rfl hend rfl e3 ?_)
      show K _ _
      rw [← hK, set_end]
      exact ⟨by rw [nx, if_pos rfl, List.map_append]; rfl, _, _, rfl⟩
    | false =>
      rw [hb] at cond nx
      refine st_skip cond ?_
      show K _ _
      rw [← hK]
      exact ⟨by rw [nx, if_neg Bool.false_ne_true, List.append_nil], _, _, rfl⟩
  · rintro ρ' τ ⟨rfl, o3, o4, rfl⟩
    simp only [Ok_seq, Then_next, Then_ret, Turn_next, Turn_ret, Back_next, Back_ret, Ok_ite, Ok_and, Ok_or, Ok_cmp2, Ok_bind, Ok_ok, ev_none, ev_bool, ev_int, ev_str, ev_var, ev_glob, ev_fn, ev_bin, ev_neg, ev_not, ev_cmp, ev_list, ev_tup, ev_dictS, ev_dictI, ev_idx, ev_sl, ev_slFrom, ev_slTo, ev_call, ev_len, ev_listOf, ev_listRange, ev_listRev, ev_isinst, ev_toInt, ev_max, ev_min, ev_sum, ev_nil, ev_cons, ex_assign, ex_setItem, ex_append, ex_clear, ex_expr, ex_ret, ex_nil, bind_ok, ofB_some, cm_Eq, cm_NotEq, cm_Lt, cm_LtE, cm_Gt, cm_GtE, cm_Is, cm_IsNot, cm_In, cm_NotIn, eq_ii, eq_ss, eq_bb, eq_rr, eq_tt, eq_nx, eq_in, no_none, no_int, no_ref, no_tup, ist_ii, ist_ib, ist_bb, ist_tt, ist_ss, V.bool.injEq, F.ret.injEq, reduceCtorEq, and_true, true_and, false_and, and_false, or_false, false_or, exists_eq_left', decide_eq_true_eq, decide_eq_false_iff_not, exists_false, exists_const, Option.some.injEq, Bool.not_eq_true', Bool.not_eq_false', Bool.true_eq_false, Bool.false_eq_true, beq_iff_eq, beq_eq_false_iff_ne, ne_eq, not_true_eq_false, not_false_eq_true, Option.map_some, Bool.not_true, Bool.not_false, beq_self_eq_true, List.map_cons, List.map_nil, List.replicate_succ, List.replicate_zero, List.cons_append, List.nil_append, List.getElem?_cons_zero, List.getElem?_cons_succ, List.set_cons_zero, List.set_cons_succ, Nat.reduceSub, Nat.reduceAdd, List.length_cons, List.length_nil, Nat.zero_add, Nat.reduceLeDiff, if_true, if_false]
    rfl
end
end Mine

namespace Mine
open PySem
section
variable {ns : List Int} {G : List Int} {P : List Fn} {C : Nat → List V → Store → R V} {N : Nat} {σ τ : Store} {ρ : Loc}

theorem ahead_ok {d k a g : Nat} {xs : List Nat} (hp : P[k]? = some B.number_ahead) (ha : σ[a]? = some (.list (xs.map natV))) (hs : xs.Pairwise (· ≤ ·)) (h0 : xs[0]? = some 0) (hN : xs.length ≤ N) :
    callF ns G P N (d + 1) k [.ref a, .int (g : Int)] σ = .ok (.int ((numb xs g : Nat) : Int)) σ := by
  have hl0 := (List.getElem?_eq_some_iff.mp h0).1
  rw [← Ok_R]
  refine ok_call hp rfl ?_
  have e1 : (xs.length : Int) - 1 = ((xs.length - 1 : Nat) : Int) := by omega
  simp only [B.number_ahead, Ok_seq, Then_next, Then_ret, Turn_next, Turn_ret, Back_next, Back_ret, Ok_ite, Ok_and, Ok_or, Ok_cmp2, Ok_bind, Ok_ok, ev_none, ev_bool, ev_int, ev_str, ev_var, ev_glob, ev_fn, ev_bin, ev_neg, ev_not, ev_cmp, ev_list, ev_tup, ev_dictS, ev_dictI, ev_idx, ev_sl, ev_slFrom, ev_slTo, ev_call, ev_len, ev_listOf, ev_listRange, ev_listRev, ev_isinst, ev_toInt, ev_max, ev_min, ev_sum, ev_nil, ev_cons, ex_assign, ex_setItem, ex_append, ex_clear, ex_expr, ex_ret, ex_nil, bind_ok, ofB_some, cm_Eq, cm_NotEq, cm_Lt, cm_LtE, cm_Gt, cm_GtE, cm_Is, cm_IsNot, cm_In, cm_NotIn, eq_ii, eq_ss, eq_bb, eq_rr, eq_tt, eq_nx, eq_in, no_none, no_int, no_ref, no_tup, ist_ii, ist_ib, ist_bb, ist_tt, ist_ss, V.bool.injEq, F.ret.injEq, reduceCtorEq, and_true, true_and, false_and, and_false, or_false, false_or, exists_eq_left', decide_eq_true_eq, decide_eq_false_iff_not, exists_false, exists_const, Option.some.injEq, Bool.not_eq_true', Bool.not_eq_false', Bool.true_eq_false, Bool.false_eq_true, beq_iff_eq, beq_eq_false_iff_ne, ne_eq, not_true_eq_false, not_false_eq_true, Option.map_some, Bool.not_true, Bool.not_false, beq_self_eq_true, List.map_cons, List.map_nil, List.replicate_succ, List.replicate_zero, List.cons_append, List.nil_append, List.getElem?_cons_zero, List.getElem?_cons_succ, List.set_cons_zero, List.set_cons_succ, Nat.reduceSub, Nat.reduceAdd, List.length_cons, List.length_nil, Nat.zero_add, Nat.reduceLeDiff, if_true, if_false, len_map ha, bin_sub, e1]
  refine ok_while (fun m ρ' τ => τ = σ ∧ numb xs g ≤ m ∧ m < xs.length ∧ ρ' = [some (V.ref a), some (V.int (g : Int)), some (V.int (m : Int))]) (xs.length - 1) (by omega) ⟨rfl, by have := numb_lt (g := g) hl0; omega, by omega, rfl⟩ ?_
  rintro m ρ' τ ⟨rfl, h1, h2, rfl⟩
  have hm := List.getElem?_eq_getElem h2
  have hi := numb_iff (g := g) hs h0 hm
  have e2 := idx_nat (ns := ns) ha hm
  generalize xs[m] = x at *
  simp only [Ok_seq, Then_next, Then_ret, Turn_next, Turn_ret, Back_next, Back_ret, Ok_ite, Ok_and, Ok_or, Ok_cmp2, Ok_bind, Ok_ok, ev_none, ev_bool, ev_int, ev_str, ev_var, ev_glob, ev_fn, ev_bin, ev_neg, ev_not, ev_cmp, ev_list, ev_tup, ev_dictS, ev_dictI, ev_idx, ev_sl, ev_slFrom, ev_slTo, ev_call, ev_len, ev_listOf, ev_listRange, ev_listRev, ev_isinst, ev_toInt, ev_max, ev_min, ev_sum, ev_nil, ev_cons, ex_assign, ex_setItem, ex_append, ex_clear, ex_expr, ex_ret, ex_nil, bind_ok, ofB_some, cm_Eq, cm_NotEq, cm_Lt, cm_LtE, cm_Gt, cm_GtE, cm_Is, cm_IsNot, cm_In, cm_NotIn, eq_ii, eq_ss, eq_bb, eq_rr, eq_tt, eq_nx, eq_in, no_none, no_int, no_ref, no_tup, ist_ii, ist_ib, ist_bb, ist_tt, ist_ss, V.bool.injEq, F.ret.injEq, reduceCtorEq, and_true, true_and, false_and, and_false, or_false, false_or, exists_eq_left', decide_eq_true_eq, decide_eq_false_iff_not, exists_false, exists_const, Option.some.injEq, Bool.not_eq_true', Bool.not_eq_false', Bool.true_eq_false, Bool.false_eq_true, beq_iff_eq, beq_eq_false_iff_ne, ne_eq, not_true_eq_false, not_false_eq_true, Option.map_some, Bool.not_true, Bool.not_false, beq_self_eq_true, List.map_cons, List.map_nil, List.replicate_succ, List.replicate_zero, List.cons_append, List.nil_append, List.getElem?_cons_zero, List.getElem?_cons_succ, List.set_cons_zero, List.set_cons_succ, Nat.reduceSub, Nat.reduceAdd, List.length_cons, List.length_nil, Nat.zero_add, Nat.reduceLeDiff, if_true, if_false, e2]
  by_cases c : x ≤ g
  · right
    have c' : ¬ (g : Int) < (x : Int) := by omega
    have : m = numb xs g := by omega
    subst this
    simp [c']
  · left
    have c' : (g : Int) < (x : Int) := by omega
    have e3 : (m : Int) - 1 = ((m - 1 : Nat) : Int) := by omega
    refine ⟨c', by omega, ?_⟩
    simp only [bin_sub, Ok_seq, Then_next, Then_ret, Turn_next, Turn_ret, Back_next, Back_ret, Ok_ite, Ok_and, Ok_or, Ok_cmp2, Ok_bind, Ok_ok, ev_none, ev_bool, ev_int, ev_str, ev_var, ev_glob, ev_fn, ev_bin, ev_neg, ev_not, ev_cmp, ev_list, ev_tup, ev_dictS, ev_dictI, ev_idx, ev_sl, ev_slFrom, ev_slTo, ev_call, ev_len, ev_listOf, ev_listRange, ev_listRev, ev_isinst, ev_toInt, ev_max, ev_min, ev_sum, ev_nil, ev_cons, ex_assign, ex_setItem, ex_append, ex_clear, ex_expr, ex_ret, ex_nil, bind_ok, ofB_some, cm_Eq, cm_NotEq, cm_Lt, cm_LtE, cm_Gt, cm_GtE, cm_Is, cm_IsNot, cm_In, cm_NotIn, eq_ii, eq_ss, eq_bb, eq_rr, eq_tt, eq_nx, eq_in, no_none, no_int, no_ref, no_tup, ist_ii, ist_ib, ist_bb, ist_tt, ist_ss, V.bool.injEq, F.ret.injEq, reduceCtorEq, and_true, true_and, false_and, and_false, or_false, false_or, exists_eq_left', decide_eq_true_eq, decide_eq_false_iff_not, exists_false, exists_const, Option.some.injEq, Bool.not_eq_true', Bool.not_eq_false', Bool.true_eq_false, Bool.false_eq_true, beq_iff_eq, beq_eq_false_iff_ne, ne_eq, not_true_eq_false, not_false_eq_true, Option.map_some, Bool.not_true, Bool.not_false, beq_self_eq_true, List.map_cons, List.map_nil, List.replicate_succ, List.replicate_zero, List.cons_append, List.nil_append, List.getElem?_cons_zero, List.getElem?_cons_succ, List.set_cons_zero, List.set_cons_succ, Nat.reduceSub, Nat.reduceAdd, List.length_cons, List.length_nil, Nat.zero_add, Nat.reduceLeDiff, if_true, if_false, e3]
    exact ⟨m - 1, by omega, by omega, by omega, rfl⟩
end

/-- the steps of a lowering -/
inductive Chain (rows : List Rw) (f0 : Nat → Nat) : List (Nat × Nat × Nat) → (Nat → Nat) → Prop
  | nil : Chain rows f0 [] f0
  | snoc {ss : List (Nat × Nat × Nat)} {f : Nat → Nat} {k : Nat} {r : List Nat} {l : Lt} {g : Nat} (h : Chain rows f0 ss f) (hs : straysOf (lettersOf rows) (far rows f) = k :: r) (hl : (lettersOf rows)[k]? = some l) (hg : l.got = some g) :
    Chain rows f0 (ss ++ [(k, l.to, numb (knownOf rows l.to) g)]) (lower rows f l g)
noncomputable def stepV (s : Nat × Nat × Nat) : V := .tup [.int (s.1 : Int), .int (s.2.1 : Int), .int (s.2.2 : Int)]

/-- the project's own defs that lower a line -/
structure Fall (P : List Fn) (G : List Int) (N kl kf kn g1 g2 ke ko ks kk ka kL : Nat) : Prop where
  prj : Prj P G kl kf kn g1 g2
  ends : P[ke]? = some (B.ends kl ko)
  ends_of : P[ko]? = some B.ends_of
  strays : P[ks]? = some B.strays_by
  kept : P[kk]? = some B.kept_up_to
  ahead : P[ka]? = some B.number_ahead
  low : P[kL]? = some (B.lowered ke kl ks kk ka)
  fuel : 50000 ≤ N

section
variable {ns : List Int} {G : List Int} {P : List Fn} {C : Nat → List V → Store → R V} {N : Nat} {σ τ : Store} {ρ : Loc} {kl kf kn g1 g2 ke ko ks kk ka kL : Nat}

/-- the strays of a line -/
theorem Fall.bad {d jk jl js H : Nat} {rows : List Rw} {f : Nat → Nat} (X : Fall P G N kl kf kn g1 g2 ke ko ks kk ka kL) (hT : Told σ jk H rows) (hL : σ[jl]? = some (.list ((lineOf H f).map natV))) (hf : Has H rows f) (h40 : H ≤ 40) (hs : σ[js]? = some (.list ((lettersOf rows).map lv))) (hG : Hist H rows) (hr : rows.length ≤ 1000) {Q : V → Store → Prop}
    (hQ : ∀ τ, σ <+: τ → τ[τ.length - 1]? = some (.list ((straysOf (lettersOf rows) (far rows f)).map natV)) → σ.length < τ.length → Q (.ref (τ.length - 1)) τ) :
    Ok (callF ns G P N (d + 1) kk [.ref jk, .ref jl] σ) (fun v τ => Ok (callF ns G P N (d + 1) ks [.ref js, v] τ) Q) := by
  rw [kept_up_ok X.kept hT hL hf h40, Ok_ok, strays_ok X.strays (at_app hs) at_end (fun l hl => ⟨(hG.letter hl).1, (hG.letter hl).2.1⟩) (by have := letters_len rows; omega), Ok_ok]
  have := hQ (σ ++ [Cell.list ((lineOf H (far rows f)).map natV)] ++ [Cell.list ((straysOf (lettersOf rows) (far rows f)).map natV)]) (pre_app (List.prefix_append _ _)) (by simp) (by simp)
  simpa using this

/-- the names' values in a lowering -/
noncomputable def lowEnv (H jr jl jk js j5 jb : Nat) (o8 o9 : Option V) : Loc := [some (V.int (H : Int)), some (V.ref jr), some (V.ref jl), some (V.ref jk), some (V.ref js), some (V.ref j5), some (V.ref (j5 + 1)), some (V.ref jb), o8, o9]
/-- where a lowering stands -/
structure LowAt (H : Nat) (rows : List Rw) (υ : Store) (ss : List (Nat × Nat × Nat)) (f : Nat → Nat) (jb : Nat) (τ : Store) : Prop where
  pre : υ <+: τ
  line : τ[υ.length]? = some (.list ((lineOf H f).map natV))
  steps : τ[υ.length + 1]? = some (.list (ss.map stepV))
  bad : τ[jb]? = some (.list ((straysOf (lettersOf rows) (far rows f)).map natV))
noncomputable def LowInv (H : Nat) (rows : List Rw) (f0 : Nat → Nat) (υ : Store) (jr jl jk js m : Nat) (ρ' : Loc) (τ : Store) : Prop :=
  ∃ ss f o8 o9 jb, m = sumTo f H ∧ ss.length + m ≤ sumTo f0 H ∧ Chain rows f0 ss f ∧ Below H rows f0 f ∧ LowAt H rows υ ss f jb τ ∧ ρ' = lowEnv H jr jl jk js υ.length jb o8 o9

theorem Fall.lturn {d jr jl jk js jb H k g : Nat} {o8 o9 : Option V} {rows : List Rw} {f : Nat → Nat} {ss : List (Nat × Nat × Nat)} {l : Lt} {r : List Nat} {υ : Store} (X : Fall P G N kl kf kn g1 g2 ke ko ks kk ka kL) (hG : Hist H rows) (h40 : H ≤ 40) (hr : rows.length ≤ 1000) (hT : Told υ jk H rows) (hjs : υ[js]? = some (.list ((lettersOf rows).map lv)))
    (L : LowAt H rows υ ss f jb τ) (hf' : Has H rows (lower rows f l g)) (hbad : straysOf (lettersOf rows) (far rows f) = k :: r) (hl : (lettersOf rows)[k]? = some l) (hg : l.got = some g) (htH : l.to < H) (hss : ss.length < sizeMax)
    {K : F × Loc → Store → Prop} (hK : ∀ o8 o9 jb τ', LowAt H rows υ (ss ++ [(k, l.to, numb (knownOf rows l.to) g)]) (lower rows f l g) jb τ' → K (.next, lowEnv H jr jl jk js υ.length jb o8 o9) τ') :
    Ok (exSs ns G (callF ns G P N (d + 3)) N (B.lowered_s1 ka ks kk) (lowEnv H jr jl jk js υ.length jb o8 o9) τ) K := by
  have x1 : idxV ns (.ref jb) (.int 0) τ = .ok (.int (k : Int)) τ := idx_nat (k := 0) L.bad (by rw [hbad]; rfl)
  have x2 := idx_map (ns := ns) (f := lv) (at_pre hjs L.pre) hl
  obtain ⟨a, x3, hax⟩ := (hT.pre L.pre).idx (ns := ns) htH
  have x4 : callF ns G P N (d + 3) ka [.ref a, .int (g : Int)] τ = .ok (.int ((numb (knownOf rows l.to) g : Nat) : Int)) τ := ahead_ok (d := d + 2) X.ahead hax knownOf_sorted knownOf_head (Nat.le_trans (Nat.le_trans knownOf_len (Nat.le_trans (Nat.add_le_add_right hr 2) (show 1000 + 2 ≤ 50000 by decide))) X.fuel)
  have x5 : setV (V.ref υ.length) (.int (l.to : Int)) (.int ((numb (knownOf rows l.to) g : Nat) : Int)) τ = .ok () (τ.set υ.length (.list ((lineOf H (lower rows f l g)).map natV))) := by
    rw [set_list L.line (by rw [List.length_map, lineOf_len]; exact htH), lower, ← lineOf_set htH]
    rw [List.map_set]
    rfl
  refine st_assign (v := .int (k : Int)) x1 (st_assign (v := .int (l.to : Int)) (σ' := τ) (by simp only [lowEnv, Ok_seq, Then_next, Then_ret, Turn_next, Turn_ret, Back_next, Back_ret, Ok_ite, Ok_and, Ok_or, Ok_cmp2, Ok_bind, Ok_ok, ev_none, ev_bool, ev_int, ev_str, ev_var, ev_glob, ev_fn, ev_bin, ev_neg, ev_not, ev_cmp, ev_list, ev_tup, ev_dictS, ev_dictI, ev_idx, ev_sl, ev_slFrom, ev_slTo, ev_call, ev_len, ev_listOf, ev_listRange, ev_listRev, ev_isinst, ev_toInt, ev_max, ev_min, ev_sum, ev_nil, ev_cons, ex_assign, ex_setItem, ex_append, ex_clear, ex_expr, ex_ret, ex_nil, bind_ok, ofB_some, cm_Eq, cm_NotEq, cm_Lt, cm_LtE, cm_Gt, cm_GtE, cm_Is, cm_IsNot, cm_In, cm_NotIn, eq_ii, eq_ss, eq_bb, eq_rr, eq_tt, eq_nx, eq_in, no_none, no_int, no_ref, no_tup, ist_ii, ist_ib, ist_bb, ist_tt, ist_ss, V.bool.injEq, F.ret.injEq, reduceCtorEq, and_true, true_and, false_and, and_false, or_false, false_or, exists_eq_left', decide_eq_true_eq, decide_eq_false_iff_not, exists_false, exists_const, Option.some.injEq, Bool.not_eq_true', Bool.not_eq_false', Bool.true_eq_false, Bool.false_eq_true, beq_iff_eq, beq_eq_false_iff_ne, ne_eq, not_true_eq_false, not_false_eq_true, Option.map_some, Bool.not_true, Bool.not_false, beq_self_eq_true, List.map_cons, List.map_nil, List.replicate_succ, List.replicate_zero, List.cons_append, List.nil_append, List.getElem?_cons_zero, List.getElem?_cons_succ, List.set_cons_zero, List.set_cons_succ, Nat.reduceSub, Nat.reduceAdd, List.length_cons, List.length_nil, Nat.zero_add, Nat.reduceLeDiff, if_true, if_false, rv, ov, lv, idx_tup0, idx_tup1, idx_tup2, idx_tup3, ne_ns, ne_ng, ne_sn, ne_sg, ne_gn, ne_gs, len_tup2, len_tup3, len_tup4, x2]) ?_)
  refine st_set (v := .int ((numb (knownOf rows l.to) g : Nat) : Int)) (σ1 := τ) (σ2 := τ) (σ3 := τ) (xv := .ref υ.length) (iv := .int (l.to : Int)) (by simp only [lowEnv, Ok_seq, Then_next, Then_ret, Turn_next, Turn_ret, Back_next, Back_ret, Ok_ite, Ok_and, Ok_or, Ok_cmp2, Ok_bind, Ok_ok, ev_none, ev_bool, ev_int, ev_str, ev_var, ev_glob, ev_fn, ev_bin, ev_neg, ev_not, ev_cmp, ev_list, ev_tup, ev_dictS, ev_dictI, ev_idx, ev_sl, ev_slFrom, ev_slTo, ev_call, ev_len, ev_listOf, ev_listRange, ev_listRev, ev_isinst, ev_toInt, ev_max, ev_min, ev_sum, ev_nil, ev_cons, ex_assign, ex_setItem, ex_append, ex_clear, ex_expr, ex_ret, ex_nil, bind_ok, ofB_some, cm_Eq, cm_NotEq, cm_Lt, cm_LtE, cm_Gt, cm_GtE, cm_Is, cm_IsNot, cm_In, cm_NotIn, eq_ii, eq_ss, eq_bb, eq_rr, eq_tt, eq_nx, eq_in, no_none, no_int, no_ref, no_tup, ist_ii, ist_ib, ist_bb, ist_tt, ist_ss, V.bool.injEq, F.ret.injEq, reduceCtorEq, and_true, true_and, false_and, and_false, or_false, false_or, exists_eq_left', decide_eq_true_eq, decide_eq_false_iff_not, exists_false, exists_const, Option.some.injEq, Bool.not_eq_true', Bool.not_eq_false', Bool.true_eq_false, Bool.false_eq_true, beq_iff_eq, beq_eq_false_iff_ne, ne_eq, not_true_eq_false, not_false_eq_true, Option.map_some, Bool.not_true, Bool.not_false, beq_self_eq_true, List.map_cons, List.map_nil, List.replicate_succ, List.replicate_zero, List.cons_append, List.nil_append, List.getElem?_cons_zero, List.getElem?_cons_succ, List.set_cons_zero, List.set_cons_succ, Nat.reduceSub, Nat.reduceAdd, List.length_cons, List.length_nil, Nat.zero_add, Nat.reduceLeDiff, if_true, if_false, rv, ov, lv, idx_tup0, idx_tup1, idx_tup2, idx_tup3, ne_ns, ne_ng, ne_sn, ne_sg, ne_gn, ne_gs, len_tup2, len_tup3, len_tup4, x3, x2, hg, x4]) rfl rfl x5 ?_
  have c5 := at_set (c := Cell.list ((lineOf H (lower rows f l g)).map natV)) L.line
  have c6 := at_set_ne (c := Cell.list ((lineOf H (lower rows f l g)).map natV)) L.steps (Nat.ne_of_lt (Nat.lt_succ_self υ.length))
  have pp := pre_set (c := Cell.list ((lineOf H (lower rows f l g)).map natV)) L.pre (Nat.le_refl _)
  clear x1 x2 x3 x4 x5 hax hbad hl L
  generalize τ.set υ.length (Cell.list ((lineOf H (lower rows f l g)).map natV)) = τ6 at *
  have x6 := idx_nat (ns := ns) c5 (lineOf_get htH)
  rw [show lower rows f l g l.to = numb (knownOf rows l.to) g from upd_same] at x6
  refine st_append (j := υ.length + 1) (v := stepV (k, l.to, numb (knownOf rows l.to) g)) (σ' := τ6) rfl (isL_list c6) (by simp only [lowEnv, Ok_seq, Then_next, Then_ret, Turn_next, Turn_ret, Back_next, Back_ret, Ok_ite, Ok_and, Ok_or, Ok_cmp2, Ok_bind, Ok_ok, ev_none, ev_bool, ev_int, ev_str, ev_var, ev_glob, ev_fn, ev_bin, ev_neg, ev_not, ev_cmp, ev_list, ev_tup, ev_dictS, ev_dictI, ev_idx, ev_sl, ev_slFrom, ev_slTo, ev_call, ev_len, ev_listOf, ev_listRange, ev_listRev, ev_isinst, ev_toInt, ev_max, ev_min, ev_sum, ev_nil, ev_cons, ex_assign, ex_setItem, ex_append, ex_clear, ex_expr, ex_ret, ex_nil, bind_ok, ofB_some, cm_Eq, cm_NotEq, cm_Lt, cm_LtE, cm_Gt, cm_GtE, cm_Is, cm_IsNot, cm_In, cm_NotIn, eq_ii, eq_ss, eq_bb, eq_rr, eq_tt, eq_nx, eq_in, no_none, no_int, no_ref, no_tup, ist_ii, ist_ib, ist_bb, ist_tt, ist_ss, V.bool.injEq, F.ret.injEq, reduceCtorEq, and_true, true_and, false_and, and_false, or_false, false_or, exists_eq_left', decide_eq_true_eq, decide_eq_false_iff_not, exists_false, exists_const, Option.some.injEq, Bool.not_eq_true', Bool.not_eq_false', Bool.true_eq_false, Bool.false_eq_true, beq_iff_eq, beq_eq_false_iff_ne, ne_eq, not_true_eq_false, not_false_eq_true, Option.map_some, Bool.not_true, Bool.not_false, beq_self_eq_true, List.map_cons, List.map_nil, List.replicate_succ, List.replicate_zero, List.cons_append, List.nil_append, List.getElem?_cons_zero, List.getElem?_cons_succ, List.set_cons_zero, List.set_cons_succ, Nat.reduceSub, Nat.reduceAdd, List.length_cons, List.length_nil, Nat.zero_add, Nat.reduceLeDiff, if_true, if_false, x6, stepV]) (app_list c6 (by rw [List.length_map]; exact hss)) ?_
  have x8 : ss.map stepV ++ [stepV (k, l.to, numb (knownOf rows l.to) g)] = (ss ++ [(k, l.to, numb (knownOf rows l.to) g)]).map stepV := by rw [List.map_append]; rfl
  rw [x8]
  have pp7 := pre_set (c := Cell.list ((ss ++ [(k, l.to, numb (knownOf rows l.to) g)]).map stepV)) pp (Nat.le_succ υ.length)
  have d5 := at_set_ne (c := Cell.list ((ss ++ [(k, l.to, numb (knownOf rows l.to) g)]).map stepV)) c5 (Nat.ne_of_gt (Nat.lt_succ_self υ.length))
  have d6 := at_set (c := Cell.list ((ss ++ [(k, l.to, numb (knownOf rows l.to) g)]).map stepV)) c6
  rw [Ok_seq]
  simp only [lowEnv, Ok_seq, Then_next, Then_ret, Turn_next, Turn_ret, Back_next, Back_ret, Ok_ite, Ok_and, Ok_or, Ok_cmp2, Ok_bind, Ok_ok, ev_none, ev_bool, ev_int, ev_str, ev_var, ev_glob, ev_fn, ev_bin, ev_neg, ev_not, ev_cmp, ev_list, ev_tup, ev_dictS, ev_dictI, ev_idx, ev_sl, ev_slFrom, ev_slTo, ev_call, ev_len, ev_listOf, ev_listRange, ev_listRev, ev_isinst, ev_toInt, ev_max, ev_min, ev_sum, ev_nil, ev_cons, ex_assign, ex_setItem, ex_append, ex_clear, ex_expr, ex_ret, ex_nil, bind_ok, ofB_some, cm_Eq, cm_NotEq, cm_Lt, cm_LtE, cm_Gt, cm_GtE, cm_Is, cm_IsNot, cm_In, cm_NotIn, eq_ii, eq_ss, eq_bb, eq_rr, eq_tt, eq_nx, eq_in, no_none, no_int, no_ref, no_tup, ist_ii, ist_ib, ist_bb, ist_tt, ist_ss, V.bool.injEq, F.ret.injEq, reduceCtorEq, and_true, true_and, false_and, and_false, or_false, false_or, exists_eq_left', decide_eq_true_eq, decide_eq_false_iff_not, exists_false, exists_const, Option.some.injEq, Bool.not_eq_true', Bool.not_eq_false', Bool.true_eq_false, Bool.false_eq_true, beq_iff_eq, beq_eq_false_iff_ne, ne_eq, not_true_eq_false, not_false_eq_true, Option.map_some, Bool.not_true, Bool.not_false, beq_self_eq_true, List.map_cons, List.map_nil, List.replicate_succ, List.replicate_zero, List.cons_append, List.nil_append, List.getElem?_cons_zero, List.getElem?_cons_succ, List.set_cons_zero, List.set_cons_succ, Nat.reduceSub, Nat.reduceAdd, List.length_cons, List.length_nil, Nat.zero_add, Nat.reduceLeDiff, if_true, if_false]
  refine X.bad (d := d + 2) (hT.pre pp7) d5 hf' h40 (at_pre hjs pp7) hG hr fun τ8 p8 hb8 hlt8 => ?_
  exact hK _ _ _ _ ⟨pp7.trans p8, at_pre d5 p8, at_pre d6 p8, hb8⟩

theorem Fall.lloop {d jr jl jk js H : Nat} {rows : List Rw} {f0 : Nat → Nat} {υ : Store} (X : Fall P G N kl kf kn g1 g2 ke ko ks kk ka kL) (hG : Hist H rows) (h40 : H ≤ 40) (hr : rows.length ≤ 1000) (hT : Told υ jk H rows) (hjs : υ[js]? = some (.list ((lettersOf rows).map lv))) (hsum : sumTo f0 H ≤ 40040)
    {K : F × Loc → Store → Prop} (hK : ∀ o8 o9 jb ss f τ', LowAt H rows υ ss f jb τ' → Chain rows f0 ss f → Sound rows f → Below H rows f0 f → K (.next, lowEnv H jr jl jk js υ.length jb o8 o9) τ') {m : Nat} (hI : LowInv H rows f0 υ jr jl jk js m ρ τ) :
    Ok (evE ns G (callF ns G P N (d + 3)) ρ (.cmp .NotEq (.var 7) (.list .nil)) τ) (fun v σ1 => (v = .bool true ∧ 0 < m ∧ Ok (exSs ns G (callF ns G P N (d + 3)) N (B.lowered_s1 ka ks kk) ρ σ1) (Turn (fun ρ' σ' => ∃ k, k < m ∧ LowInv H rows f0 υ jr jl jk js k ρ' σ') K)) ∨ (v = .bool false ∧ K (.next, ρ) σ1)) := by
  obtain ⟨ss, f, o8, o9, jb, rfl, hss, hC, hB, L, rfl⟩ := hI
  have hnil := ne_nil_eq (τ := τ ++ [Cell.list []]) (at_app L.bad) at_end
  have htest : evE ns G (callF ns G P N (d + 3)) (lowEnv H jr jl jk js υ.length jb o8 o9) (.cmp .NotEq (.var 7) (.list .nil)) τ = .ok (.bool (!decide (straysOf (lettersOf rows) (far rows f) = []))) (τ ++ [Cell.list []]) := by
    rw [← Ok_R]
    simp only [lowEnv, Ok_seq, Then_next, Then_ret, Turn_next, Turn_ret, Back_next, Back_ret, Ok_ite, Ok_and, Ok_or, Ok_cmp2, Ok_bind, Ok_ok, ev_none, ev_bool, ev_int, ev_str, ev_var, ev_glob, ev_fn, ev_bin, ev_neg, ev_not, ev_cmp, ev_list, ev_tup, ev_dictS, ev_dictI, ev_idx, ev_sl, ev_slFrom, ev_slTo, ev_call, ev_len, ev_listOf, ev_listRange, ev_listRev, ev_isinst, ev_toInt, ev_max, ev_min, ev_sum, ev_nil, ev_cons, ex_assign, ex_setItem, ex_append, ex_clear, ex_expr, ex_ret, ex_nil, bind_ok, ofB_some, cm_Eq, cm_NotEq, cm_Lt, cm_LtE, cm_Gt, cm_GtE, cm_Is, cm_IsNot, cm_In, cm_NotIn, eq_ii, eq_ss, eq_bb, eq_rr, eq_tt, eq_nx, eq_in, no_none, no_int, no_ref, no_tup, ist_ii, ist_ib, ist_bb, ist_tt, ist_ss, V.bool.injEq, F.ret.injEq, reduceCtorEq, and_true, true_and, false_and, and_false, or_false, false_or, exists_eq_left', decide_eq_true_eq, decide_eq_false_iff_not, exists_false, exists_const, Option.some.injEq, Bool.not_eq_true', Bool.not_eq_false', Bool.true_eq_false, Bool.false_eq_true, beq_iff_eq, beq_eq_false_iff_ne, ne_eq, not_true_eq_false, not_false_eq_true, Option.map_some, Bool.not_true, Bool.not_false, beq_self_eq_true, List.map_cons, List.map_nil, List.replicate_succ, List.replicate_zero, List.cons_append, List.nil_append, List.getElem?_cons_zero, List.getElem?_cons_succ, List.set_cons_zero, List.set_cons_succ, Nat.reduceSub, Nat.reduceAdd, List.length_cons, List.length_nil, Nat.zero_add, Nat.reduceLeDiff, if_true, if_false, Ok_newL, Nat.zero_le, hnil]
  have L' : LowAt H rows υ ss f jb (τ ++ [Cell.list []]) := ⟨pre_app L.pre, at_app L.line, at_app L.steps, at_app L.bad⟩
  refine Ok.of htest ?_
  clear htest hnil L
  by_cases hbad0 : straysOf (lettersOf rows) (far rows f) = []
  · exact .inr ⟨by rw [decide_eq_true hbad0]; rfl, hK _ _ _ _ _ _ L' hC (sound_iff.mp hbad0) hB⟩
  · obtain ⟨k, r, hbad⟩ := List.exists_cons_of_ne_nil hbad0
    obtain ⟨l, hl, hstr, _⟩ := straysOf_head hbad
    obtain ⟨g, hg, hgf, hfr⟩ := strayL_iff.mp hstr
    have hlm := List.mem_of_getElem? hl
    have htH := (hG.letter hlm).2.1
    have hB' := hB.step hG hlm hg hgf hfr
    have hsl : sumTo (lower rows f l g) H < sumTo f H := sumTo_upd (f := f) (n := H) htH (lower_lt (hB.has _ htH) hgf)
    refine .inl ⟨by rw [decide_eq_false hbad0]; rfl, Nat.lt_of_le_of_lt (Nat.zero_le _) hsl, ?_⟩
    refine X.lturn hG h40 hr hT hjs L' hB'.has hbad hl hg htH (Nat.lt_of_le_of_lt (Nat.le_trans (Nat.le_add_right _ _) (Nat.le_trans hss hsum)) (by decide)) fun o8' o9' jb' τ' L2 => ?_
    refine ⟨_, hsl, _, _, _, _, _, rfl, ?_, hC.snoc hbad hl hg, hB', L2, rfl⟩
    rw [List.length_append, Nat.add_assoc]
    exact Nat.le_trans (Nat.add_le_add_left (by rw [Nat.add_comm]; exact hsl) _) hss

theorem Fall.lowered {d jr jl H : Nat} {rows : List Rw} {f0 : Nat → Nat} (X : Fall P G N kl kf kn g1 g2 ke ko ks kk ka kL) (hj : σ[jr]? = some (.list (rows.map rv))) (hL : σ[jl]? = some (.list ((lineOf H f0).map natV))) (hf0 : Has H rows f0) (hG : Hist H rows) (h1 : 1 ≤ H) (h40 : H ≤ 40) (hr : rows.length ≤ 1000) :
    Ok (callF ns G P N (d + 4) kL [.int (H : Int), .ref jr, .ref jl] σ) (fun v τ => ∃ jf jh ss f, v = .tup [.ref jf, .ref jh] ∧ σ <+: τ ∧ σ.length ≤ jf ∧ σ.length ≤ jh ∧ τ[jf]? = some (.list (ss.map stepV)) ∧ τ[jh]? = some (.list ((lineOf H f).map natV)) ∧ Chain rows f0 ss f ∧ Sound rows f ∧ Below H rows f0 f) := by
  refine ok_call X.low rfl ?_
  simp only [B.lowered, Ok_seq, Then_next, Then_ret, Turn_next, Turn_ret, Back_next, Back_ret, Ok_ite, Ok_and, Ok_or, Ok_cmp2, Ok_bind, Ok_ok, ev_none, ev_bool, ev_int, ev_str, ev_var, ev_glob, ev_fn, ev_bin, ev_neg, ev_not, ev_cmp, ev_list, ev_tup, ev_dictS, ev_dictI, ev_idx, ev_sl, ev_slFrom, ev_slTo, ev_call, ev_len, ev_listOf, ev_listRange, ev_listRev, ev_isinst, ev_toInt, ev_max, ev_min, ev_sum, ev_nil, ev_cons, ex_assign, ex_setItem, ex_append, ex_clear, ex_expr, ex_ret, ex_nil, bind_ok, ofB_some, cm_Eq, cm_NotEq, cm_Lt, cm_LtE, cm_Gt, cm_GtE, cm_Is, cm_IsNot, cm_In, cm_NotIn, eq_ii, eq_ss, eq_bb, eq_rr, eq_tt, eq_nx, eq_in, no_none, no_int, no_ref, no_tup, ist_ii, ist_ib, ist_bb, ist_tt, ist_ss, V.bool.injEq, F.ret.injEq, reduceCtorEq, and_true, true_and, false_and, and_false, or_false, false_or, exists_eq_left', decide_eq_true_eq, decide_eq_false_iff_not, exists_false, exists_const, Option.some.injEq, Bool.not_eq_true', Bool.not_eq_false', Bool.true_eq_false, Bool.false_eq_true, beq_iff_eq, beq_eq_false_iff_ne, ne_eq, not_true_eq_false, not_false_eq_true, Option.map_some, Bool.not_true, Bool.not_false, beq_self_eq_true, List.map_cons, List.map_nil, List.replicate_succ, List.replicate_zero, List.cons_append, List.nil_append, List.getElem?_cons_zero, List.getElem?_cons_succ, List.set_cons_zero, List.set_cons_succ, Nat.reduceSub, Nat.reduceAdd, List.length_cons, List.length_nil, Nat.zero_add, Nat.reduceLeDiff, if_true, if_false]
  refine (ends_ok (d := d) X.prj X.ends X.ends_of hj hG h1 h40 hr).mono fun v τ1 hv => ?_
  obtain ⟨jk, as, rfl, hM, hjk, hjk0, hjkn⟩ := hv
  have hT1 : Told τ1 jk H rows := ⟨as, hjk, hM.nl⟩
  refine (X.prj.ok (d := d + 1) (at_pre hj hM.pre) hG h1 h40 hr).mono fun v τ2 hv => ?_
  obtain ⟨js, rfl, p2, hjs0, hjs⟩ := hv
  have hT2 := hT1.pre p2
  have hL2 := at_pre (at_pre hL hM.pre) p2
  have p02 := hM.pre.trans p2
  clear hT1 hjk hjk0 hjkn
  have hsum2 : sumTo f0 H ≤ 40040 := Nat.le_trans hf0.sum (Nat.mul_le_mul h40 (Nat.add_le_add_right hr 1))
  simp only [Ok_seq, Then_next, Then_ret, Turn_next, Turn_ret, Back_next, Back_ret, Ok_ite, Ok_and, Ok_or, Ok_cmp2, Ok_bind, Ok_ok, ev_none, ev_bool, ev_int, ev_str, ev_var, ev_glob, ev_fn, ev_bin, ev_neg, ev_not, ev_cmp, ev_list, ev_tup, ev_dictS, ev_dictI, ev_idx, ev_sl, ev_slFrom, ev_slTo, ev_call, ev_len, ev_listOf, ev_listRange, ev_listRev, ev_isinst, ev_toInt, ev_max, ev_min, ev_sum, ev_nil, ev_cons, ex_assign, ex_setItem, ex_append, ex_clear, ex_expr, ex_ret, ex_nil, bind_ok, ofB_some, cm_Eq, cm_NotEq, cm_Lt, cm_LtE, cm_Gt, cm_GtE, cm_Is, cm_IsNot, cm_In, cm_NotIn, eq_ii, eq_ss, eq_bb, eq_rr, eq_tt, eq_nx, eq_in, no_none, no_int, no_ref, no_tup, ist_ii, ist_ib, ist_bb, ist_tt, ist_ss, V.bool.injEq, F.ret.injEq, reduceCtorEq, and_true, true_and, false_and, and_false, or_false, false_or, exists_eq_left', decide_eq_true_eq, decide_eq_false_iff_not, exists_false, exists_const, Option.some.injEq, Bool.not_eq_true', Bool.not_eq_false', Bool.true_eq_false, Bool.false_eq_true, beq_iff_eq, beq_eq_false_iff_ne, ne_eq, not_true_eq_false, not_false_eq_true, Option.map_some, Bool.not_true, Bool.not_false, beq_self_eq_true, List.map_cons, List.map_nil, List.replicate_succ, List.replicate_zero, List.cons_append, List.nil_append, List.getElem?_cons_zero, List.getElem?_cons_succ, List.set_cons_zero, List.set_cons_succ, Nat.reduceSub, Nat.reduceAdd, List.length_cons, List.length_nil, Nat.zero_add, Nat.reduceLeDiff, if_true, if_false, hL2, Ok_newL, List.length_map, lineOf_len, Nat.zero_le]
  refine ⟨Nat.le_trans h40 (by decide), ?_⟩
  have q0 : τ2 <+: τ2 ++ [Cell.list ((lineOf H f0).map natV)] ++ [Cell.list []] := pre_app (List.prefix_append _ _)
  have a5 : (τ2 ++ [Cell.list ((lineOf H f0).map natV)] ++ [Cell.list []])[τ2.length]? = some (.list ((lineOf H f0).map natV)) := at_app at_end
  have a6 : (τ2 ++ [Cell.list ((lineOf H f0).map natV)] ++ [Cell.list []])[τ2.length + 1]? = some (.list (([] : List (Nat × Nat × Nat)).map stepV)) := by simp
  rw [show (τ2 ++ [Cell.list ((lineOf H f0).map natV)]).length = τ2.length + 1 from List.length_append]
  refine X.bad (d := d + 2) (hT2.pre q0) a5 hf0 h40 (at_pre hjs q0) hG hr fun τ4 p4 hb4 hlt4 => ?_
  refine ok_while (LowInv H rows f0 τ2 jr jl jk js) (sumTo f0 H) (Nat.lt_of_le_of_lt hsum2 (Nat.lt_of_lt_of_le (by decide) X.fuel)) ⟨[], f0, _, _, τ4.length - 1, rfl, by rw [List.length_nil, Nat.zero_add]; exact Nat.le_refl _, .nil, .start hf0, ⟨q0.trans p4, at_pre a5 p4, at_pre a6 p4, hb4⟩, rfl⟩
    fun m ρ' τ hI => X.lloop (d := d) hG h40 hr hT2 hjs hsum2 (fun o8 o9 jb ss f τ' L hC hS hB => ?_) hI
  exact ⟨_, _, ss, f, rfl, p02.trans L.pre, Nat.le_succ_of_le (pre_len p02), pre_len p02, L.steps, L.line, hC, hS, hB⟩
end
end Mine

namespace Mine
open PySem

section
variable {ns : List Int} {G : List Int} {P : List Fn} {C : Nat → List V → Store → R V} {N : Nat} {σ τ : Store} {ρ : Loc}

theorem ends_by_ok {d k j H : Nat} {rows : List Rw} (hp : P[k]? = some B.L_ends_by) (hj : σ[j]? = some (.list (rows.map rv))) (hG : Hist H rows) (h40 : H ≤ 40) (hr : rows.length ≤ 1000) :
    Ok (callF ns G P N (d + 1) k [.ref j, .int (H : Int)] σ) (fun v τ => ∃ jr as, v = .ref jr ∧ Mk σ τ as (known H rows) ∧ τ[jr]? = some (.list (as.map .ref)) ∧ σ.length ≤ jr ∧ jr ∉ as) := by
  refine ok_call hp rfl ?_
  simp only [B.L_ends_by, Ok_seq, Then_next, Then_ret, Turn_next, Turn_ret, Back_next, Back_ret, Ok_ite, Ok_and, Ok_or, Ok_cmp2, Ok_bind, Ok_ok, ev_none, ev_bool, ev_int, ev_str, ev_var, ev_glob, ev_fn, ev_bin, ev_neg, ev_not, ev_cmp, ev_list, ev_tup, ev_dictS, ev_dictI, ev_idx, ev_sl, ev_slFrom, ev_slTo, ev_call, ev_len, ev_listOf, ev_listRange, ev_listRev, ev_isinst, ev_toInt, ev_max, ev_min, ev_sum, ev_nil, ev_cons, ex_assign, ex_setItem, ex_append, ex_clear, ex_expr, ex_ret, ex_nil, bind_ok, ofB_some, cm_Eq, cm_NotEq, cm_Lt, cm_LtE, cm_Gt, cm_GtE, cm_Is, cm_IsNot, cm_In, cm_NotIn, eq_ii, eq_ss, eq_bb, eq_rr, eq_tt, eq_nx, eq_in, no_none, no_int, no_ref, no_tup, ist_ii, ist_ib, ist_bb, ist_tt, ist_ss, V.bool.injEq, F.ret.injEq, reduceCtorEq, and_true, true_and, false_and, and_false, or_false, false_or, exists_eq_left', decide_eq_true_eq, decide_eq_false_iff_not, exists_false, exists_const, Option.some.injEq, Bool.not_eq_true', Bool.not_eq_false', Bool.true_eq_false, Bool.false_eq_true, beq_iff_eq, beq_eq_false_iff_ne, ne_eq, not_true_eq_false, not_false_eq_true, Option.map_some, Bool.not_true, Bool.not_false, beq_self_eq_true, List.map_cons, List.map_nil, List.replicate_succ, List.replicate_zero, List.cons_append, List.nil_append, List.getElem?_cons_zero, List.getElem?_cons_succ, List.set_cons_zero, List.set_cons_succ, Nat.reduceSub, Nat.reduceAdd, List.length_cons, List.length_nil, Nat.zero_add, Nat.reduceLeDiff, if_true, if_false]
  refine ok_comp_rng (n := H) (by simp only [Ok_seq, Then_next, Then_ret, Turn_next, Turn_ret, Back_next, Back_ret, Ok_ite, Ok_and, Ok_or, Ok_cmp2, Ok_bind, Ok_ok, ev_none, ev_bool, ev_int, ev_str, ev_var, ev_glob, ev_fn, ev_bin, ev_neg, ev_not, ev_cmp, ev_list, ev_tup, ev_dictS, ev_dictI, ev_idx, ev_sl, ev_slFrom, ev_slTo, ev_call, ev_len, ev_listOf, ev_listRange, ev_listRev, ev_isinst, ev_toInt, ev_max, ev_min, ev_sum, ev_nil, ev_cons, ex_assign, ex_setItem, ex_append, ex_clear, ex_expr, ex_ret, ex_nil, bind_ok, ofB_some, cm_Eq, cm_NotEq, cm_Lt, cm_LtE, cm_Gt, cm_GtE, cm_Is, cm_IsNot, cm_In, cm_NotIn, eq_ii, eq_ss, eq_bb, eq_rr, eq_tt, eq_nx, eq_in, no_none, no_int, no_ref, no_tup, ist_ii, ist_ib, ist_bb, ist_tt, ist_ss, V.bool.injEq, F.ret.injEq, reduceCtorEq, and_true, true_and, false_and, and_false, or_false, false_or, exists_eq_left', decide_eq_true_eq, decide_eq_false_iff_not, exists_false, exists_const, Option.some.injEq, Bool.not_eq_true', Bool.not_eq_false', Bool.true_eq_false, Bool.false_eq_true, beq_iff_eq, beq_eq_false_iff_ne, ne_eq, not_true_eq_false, not_false_eq_true, Option.map_some, Bool.not_true, Bool.not_false, beq_self_eq_true, List.map_cons, List.map_nil, List.replicate_succ, List.replicate_zero, List.cons_append, List.nil_append, List.getElem?_cons_zero, List.getElem?_cons_succ, List.set_cons_zero, List.set_cons_succ, Nat.reduceSub, Nat.reduceAdd, List.length_cons, List.length_nil, Nat.zero_add, Nat.reduceLeDiff, if_true, if_false]) (by rw [sizeMax_eq]; omega) (fun i acc τ => ∃ as, acc = as.map .ref ∧ Mk σ τ as (List.replicate i [0])) ⟨[], rfl, .start⟩ ?_ ?_
  · rintro i acc τ hi ⟨as, rfl, hM⟩
    simp only [Ok_seq, Then_next, Then_ret, Turn_next, Turn_ret, Back_next, Back_ret, Ok_ite, Ok_and, Ok_or, Ok_cmp2, Ok_bind, Ok_ok, ev_none, ev_bool, ev_int, ev_str, ev_var, ev_glob, ev_fn, ev_bin, ev_neg, ev_not, ev_cmp, ev_list, ev_tup, ev_dictS, ev_dictI, ev_idx, ev_sl, ev_slFrom, ev_slTo, ev_call, ev_len, ev_listOf, ev_listRange, ev_listRev, ev_isinst, ev_toInt, ev_max, ev_min, ev_sum, ev_nil, ev_cons, ex_assign, ex_setItem, ex_append, ex_clear, ex_expr, ex_ret, ex_nil, bind_ok, ofB_some, cm_Eq, cm_NotEq, cm_Lt, cm_LtE, cm_Gt, cm_GtE, cm_Is, cm_IsNot, cm_In, cm_NotIn, eq_ii, eq_ss, eq_bb, eq_rr, eq_tt, eq_nx, eq_in, no_none, no_int, no_ref, no_tup, ist_ii, ist_ib, ist_bb, ist_tt, ist_ss, V.bool.injEq, F.ret.injEq, reduceCtorEq, and_true, true_and, false_and, and_false, or_false, false_or, exists_eq_left', decide_eq_true_eq, decide_eq_false_iff_not, exists_false, exists_const, Option.some.injEq, Bool.not_eq_true', Bool.not_eq_false', Bool.true_eq_false, Bool.false_eq_true, beq_iff_eq, beq_eq_false_iff_ne, ne_eq, not_true_eq_false, not_false_eq_true, Option.map_some, Bool.not_true, Bool.not_false, beq_self_eq_true, List.map_cons, List.map_nil, List.replicate_succ, List.replicate_zero, List.cons_append, List.nil_append, List.getElem?_cons_zero, List.getElem?_cons_succ, List.set_cons_zero, List.set_cons_succ, Nat.reduceSub, Nat.reduceAdd, List.length_cons, List.length_nil, Nat.zero_add, Nat.reduceLeDiff, if_true, if_false, Ok_newL]
    refine ⟨by rw [sizeMax_eq]; omega, as ++ [τ.length], by simp, ?_⟩
    rw [show [0] :: List.replicate i [0] = List.replicate i [0] ++ [[0]] from by rw [← List.replicate_succ, List.replicate_succ']]
    exact hM.snoc (List.prefix_append _ _) (Nat.le_refl _) at_end
  · rintro r τ0 ⟨as, rfl, hM0⟩
    have hasl := hM0.nl.len
    rw [List.length_replicate] at hasl
    refine ⟨by rw [List.length_map, sizeMax_eq]; omega, ?_⟩
    have hM := hM0.app (List.prefix_append τ0 [Cell.list (as.map .ref)])
    have hnot : τ0.length ∉ as := fun h => by have := hM0.nl.lt h; omega
    have hlen : evE ns G (callF ns G P N d) [some (V.ref j), some (V.int (H : Int)), some (V.ref τ0.length), none, none, none] (.len (.var 0)) (τ0 ++ [Cell.list (as.map .ref)]) = .ok (.int (rows.length : Int)) (τ0 ++ [Cell.list (as.map .ref)]) := by
      simp only [Ok_seq, Then_next, Then_ret, Turn_next, Turn_ret, Back_next, Back_ret, Ok_ite, Ok_and, Ok_or, Ok_cmp2, Ok_bind, Ok_ok, ev_none, ev_bool, ev_int, ev_str, ev_var, ev_glob, ev_fn, ev_bin, ev_neg, ev_not, ev_cmp, ev_list, ev_tup, ev_dictS, ev_dictI, ev_idx, ev_sl, ev_slFrom, ev_slTo, ev_call, ev_len, ev_listOf, ev_listRange, ev_listRev, ev_isinst, ev_toInt, ev_max, ev_min, ev_sum, ev_nil, ev_cons, ex_assign, ex_setItem, ex_append, ex_clear, ex_expr, ex_ret, ex_nil, bind_ok, ofB_some, cm_Eq, cm_NotEq, cm_Lt, cm_LtE, cm_Gt, cm_GtE, cm_Is, cm_IsNot, cm_In, cm_NotIn, eq_ii, eq_ss, eq_bb, eq_rr, eq_tt, eq_nx, eq_in, no_none, no_int, no_ref, no_tup, ist_ii, ist_ib, ist_bb, ist_tt, ist_ss, V.bool.injEq, F.ret.injEq, reduceCtorEq, and_true, true_and, false_and, and_false, or_false, false_or, exists_eq_left', decide_eq_true_eq, decide_eq_false_iff_not, exists_false, exists_const, Option.some.injEq, Bool.not_eq_true', Bool.not_eq_false', Bool.true_eq_false, Bool.false_eq_true, beq_iff_eq, beq_eq_false_iff_ne, ne_eq, not_true_eq_false, not_false_eq_true, Option.map_some, Bool.not_true, Bool.not_false, beq_self_eq_true, List.map_cons, List.map_nil, List.replicate_succ, List.replicate_zero, List.cons_append, List.nil_append, List.getElem?_cons_zero, List.getElem?_cons_succ, List.set_cons_zero, List.set_cons_succ, Nat.reduceSub, Nat.reduceAdd, List.length_cons, List.length_nil, Nat.zero_add, Nat.reduceLeDiff, if_true, if_false]; rw [len_map (at_pre hj hM.pre)]
    refine ok_for_range (n := rows.length) hlen (by rw [sizeMax_eq]; omega) (fun i ρ' τ => Mk σ τ as ((List.range H).map fun h => ownOf rows h i) ∧ τ[τ0.length]? = some (.list (as.map .ref)) ∧ ∃ o, ρ' = [some (V.ref j), some (V.int (H : Int)), some (V.ref τ0.length), o, none, none]) ⟨?_, at_end, _, rfl⟩ ?_ ?_
    · have : (List.range H).map (fun h => ownOf rows h 0) = List.replicate H [0] := by
        rw [List.eq_replicate_iff]
        refine ⟨by simp, fun b hb => ?_⟩
        simp only [List.mem_map] at hb
        obtain ⟨h, _, rfl⟩ := hb
        rfl
      rw [this]; exact hM
    · rintro i ρ' τ hi ⟨hM, hjf, o, rfl⟩
      have hri : rows[i]? = some rows[i] := List.getElem?_eq_getElem hi
      have hrow := hG i _ hri
      generalize rows[i] = r at *
      have hjt := at_pre hj hM.pre
      have hrd := idx_map (ns := ns) hjt hri
      have same : (∀ h, noteAt rows h i = false) → (List.range H).map (fun h => ownOf rows h (i + 1)) = (List.range H).map (fun h => ownOf rows h i) := fun hn => by
        apply List.map_congr_left
        intro h _
        simp only [ownOf]; rw [nends_step, hn h]; simp
      cases r with
      | send a b =>
        simp only [rv] at hrd
        simp only [Ok_seq, Then_next, Then_ret, Turn_next, Turn_ret, Back_next, Back_ret, Ok_ite, Ok_and, Ok_or, Ok_cmp2, Ok_bind, Ok_ok, ev_none, ev_bool, ev_int, ev_str, ev_var, ev_glob, ev_fn, ev_bin, ev_neg, ev_not, ev_cmp, ev_list, ev_tup, ev_dictS, ev_dictI, ev_idx, ev_sl, ev_slFrom, ev_slTo, ev_call, ev_len, ev_listOf, ev_listRange, ev_listRev, ev_isinst, ev_toInt, ev_max, ev_min, ev_sum, ev_nil, ev_cons, ex_assign, ex_setItem, ex_append, ex_clear, ex_expr, ex_ret, ex_nil, bind_ok, ofB_some, cm_Eq, cm_NotEq, cm_Lt, cm_LtE, cm_Gt, cm_GtE, cm_Is, cm_IsNot, cm_In, cm_NotIn, eq_ii, eq_ss, eq_bb, eq_rr, eq_tt, eq_nx, eq_in, no_none, no_int, no_ref, no_tup, ist_ii, ist_ib, ist_bb, ist_tt, ist_ss, V.bool.injEq, F.ret.injEq, reduceCtorEq, and_true, true_and, false_and, and_false, or_false, false_or, exists_eq_left', decide_eq_true_eq, decide_eq_false_iff_not, exists_false, exists_const, Option.some.injEq, Bool.not_eq_true', Bool.not_eq_false', Bool.true_eq_false, Bool.false_eq_true, beq_iff_eq, beq_eq_false_iff_ne, ne_eq, not_true_eq_false, not_false_eq_true, Option.map_some, Bool.not_true, Bool.not_false, beq_self_eq_true, List.map_cons, List.map_nil, List.replicate_succ, List.replicate_zero, List.cons_append, List.nil_append, List.getElem?_cons_zero, List.getElem?_cons_succ, List.set_cons_zero, List.set_cons_succ, Nat.reduceSub, Nat.reduceAdd, List.length_cons, List.length_nil, Nat.zero_add, Nat.reduceLeDiff, if_true, if_false, rv, ov, lv, idx_tup0, idx_tup1, idx_tup2, idx_tup3, ne_ns, ne_ng, ne_sn, ne_sg, ne_gn, ne_gs, len_tup2, len_tup3, len_tup4, hrd]
        refine ⟨?_, hjf, _, rfl⟩
        rw [same fun h => by simp [noteAt, hri]]
        exact hM
      | got a b =>
        simp only [rv] at hrd
        simp only [Ok_seq, Then_next, Then_ret, Turn_next, Turn_ret, Back_next, Back_ret, Ok_ite, Ok_and, Ok_or, Ok_cmp2, Ok_bind, Ok_ok, ev_none, ev_bool, ev_int, ev_str, ev_var, ev_glob, ev_fn, ev_bin, ev_neg, ev_not, ev_cmp, ev_list, ev_tup, ev_dictS, ev_dictI, ev_idx, ev_sl, ev_slFrom, ev_slTo, ev_call, ev_len, ev_listOf, ev_listRange, ev_listRev, ev_isinst, ev_toInt, ev_max, ev_min, ev_sum, ev_nil, ev_cons, ex_assign, ex_setItem, ex_append, ex_clear, ex_expr, ex_ret, ex_nil, bind_ok, ofB_some, cm_Eq, cm_NotEq, cm_Lt, cm_LtE, cm_Gt, cm_GtE, cm_Is, cm_IsNot, cm_In, cm_NotIn, eq_ii, eq_ss, eq_bb, eq_rr, eq_tt, eq_nx, eq_in, no_none, no_int, no_ref, no_tup, ist_ii, ist_ib, ist_bb, ist_tt, ist_ss, V.bool.injEq, F.ret.injEq, reduceCtorEq, and_true, true_and, false_and, and_false, or_false, false_or, exists_eq_left', decide_eq_true_eq, decide_eq_false_iff_not, exists_false, exists_const, Option.some.injEq, Bool.not_eq_true', Bool.not_eq_false', Bool.true_eq_false, Bool.false_eq_true, beq_iff_eq, beq_eq_false_iff_ne, ne_eq, not_true_eq_false, not_false_eq_true, Option.map_some, Bool.not_true, Bool.not_false, beq_self_eq_true, List.map_cons, List.map_nil, List.replicate_succ, List.replicate_zero, List.cons_append, List.nil_append, List.getElem?_cons_zero, List.getElem?_cons_succ, List.set_cons_zero, List.set_cons_succ, Nat.reduceSub, Nat.reduceAdd, List.length_cons, List.length_nil, Nat.zero_add, Nat.reduceLeDiff, if_true, if_false, rv, ov, lv, idx_tup0, idx_tup1, idx_tup2, idx_tup3, ne_ns, ne_ng, ne_sn, ne_sg, ne_gn, ne_gs, len_tup2, len_tup3, len_tup4, hrd]
        refine ⟨?_, hjf, _, rfl⟩
        rw [same fun h => by simp [noteAt, hri]]
        exact hM
      | note h =>
        have hh : h < H := hrow
        simp only [rv] at hrd
        obtain ⟨a, ha, hax⟩ := hM.nl.get (k := h) (xs := ownOf rows h i) (by simp [List.getElem?_map, List.getElem?_range hh])
        have hz : (List.map natV (ownOf rows h i)).length < sizeMax := by
          have := nends_len (rows := rows) (h := h) (i := i)
          rw [List.length_map, ownOf, List.length_cons, sizeMax_eq]; omega
        have e2 : List.map natV (ownOf rows h i) ++ [V.int ((i : Int) + 1)] = List.map natV (ownOf rows h (i + 1)) := by
          simp only [ownOf]
          rw [nends_step]
          simp [noteAt, hri, natV]
        have e1 := app_list (v := V.int ((i : Int) + 1)) hax hz
        rw [e2] at e1
        simp only [Ok_seq, Then_next, Then_ret, Turn_next, Turn_ret, Back_next, Back_ret, Ok_ite, Ok_and, Ok_or, Ok_cmp2, Ok_bind, Ok_ok, ev_none, ev_bool, ev_int, ev_str, ev_var, ev_glob, ev_fn, ev_bin, ev_neg, ev_not, ev_cmp, ev_list, ev_tup, ev_dictS, ev_dictI, ev_idx, ev_sl, ev_slFrom, ev_slTo, ev_call, ev_len, ev_listOf, ev_listRange, ev_listRev, ev_isinst, ev_toInt, ev_max, ev_min, ev_sum, ev_nil, ev_cons, ex_assign, ex_setItem, ex_append, ex_clear, ex_expr, ex_ret, ex_nil, bind_ok, ofB_some, cm_Eq, cm_NotEq, cm_Lt, cm_LtE, cm_Gt, cm_GtE, cm_Is, cm_IsNot, cm_In, cm_NotIn, eq_ii, eq_ss, eq_bb, eq_rr, eq_tt, eq_nx, eq_in, no_none, no_int, no_ref, no_tup, ist_ii, ist_ib, ist_bb, ist_tt, ist_ss, V.bool.injEq, F.ret.injEq, reduceCtorEq, and_true, true_and, false_and, and_false, or_false, false_or, exists_eq_left', decide_eq_true_eq, decide_eq_false_iff_not, exists_false, exists_const, Option.some.injEq, Bool.not_eq_true', Bool.not_eq_false', Bool.true_eq_false, Bool.false_eq_true, beq_iff_eq, beq_eq_false_iff_ne, ne_eq, not_true_eq_false, not_false_eq_true, Option.map_some, Bool.not_true, Bool.not_false, beq_self_eq_true, List.map_cons, List.map_nil, List.replicate_succ, List.replicate_zero, List.cons_append, List.nil_append, List.getElem?_cons_zero, List.getElem?_cons_succ, List.set_cons_zero, List.set_cons_succ, Nat.reduceSub, Nat.reduceAdd, List.length_cons, List.length_nil, Nat.zero_add, Nat.reduceLeDiff, if_true, if_false, rv, ov, lv, idx_tup0, idx_tup1, idx_tup2, idx_tup3, ne_ns, ne_ng, ne_sn, ne_sg, ne_gn, ne_gs, len_tup2, len_tup3, len_tup4, hrd, idx_map (f := V.ref) hjf ha, isL_list hax, bin_add, e1]
        have e3 : (List.range H).map (fun h => ownOf rows h (i + 1)) = ((List.range H).map (fun h => ownOf rows h i)).set h (ownOf rows h (i + 1)) := by
          apply List.ext_getElem?
          intro m
          rw [List.getElem?_set]
          by_cases hm : h = m
          · subst hm
            simp [hh]
          · simp only [hm, if_false, List.getElem?_map]
            by_cases hmH : m < H
            · simp only [List.getElem?_range hmH, Option.map_some]
              simp only [ownOf]
              rw [nends_step]
              have : noteAt rows m i = false := by simp [noteAt, hri, hm]
              simp [this]
            · simp [hmH]
        rw [e3]
        refine ⟨⟨pre_set hM.pre (hM.lo a (List.mem_of_getElem? ha)), hM.nl.set hM.dist ha, hM.lo, hM.dist⟩, at_set_ne hjf ?_, _, rfl⟩
        exact fun e => hnot (e ▸ List.mem_of_getElem? ha)
    · rintro ρ' τ ⟨hM, hjf, o, rfl⟩
      simp only [Ok_seq, Then_next, Then_ret, Turn_next, Turn_ret, Back_next, Back_ret, Ok_ite, Ok_and, Ok_or, Ok_cmp2, Ok_bind, Ok_ok, ev_none, ev_bool, ev_int, ev_str, ev_var, ev_glob, ev_fn, ev_bin, ev_neg, ev_not, ev_cmp, ev_list, ev_tup, ev_dictS, ev_dictI, ev_idx, ev_sl, ev_slFrom, ev_slTo, ev_call, ev_len, ev_listOf, ev_listRange, ev_listRev, ev_isinst, ev_toInt, ev_max, ev_min, ev_sum, ev_nil, ev_cons, ex_assign, ex_setItem, ex_append, ex_clear, ex_expr, ex_ret, ex_nil, bind_ok, ofB_some, cm_Eq, cm_NotEq, cm_Lt, cm_LtE, cm_Gt, cm_GtE, cm_Is, cm_IsNot, cm_In, cm_NotIn, eq_ii, eq_ss, eq_bb, eq_rr, eq_tt, eq_nx, eq_in, no_none, no_int, no_ref, no_tup, ist_ii, ist_ib, ist_bb, ist_tt, ist_ss, V.bool.injEq, F.ret.injEq, reduceCtorEq, and_true, true_and, false_and, and_false, or_false, false_or, exists_eq_left', decide_eq_true_eq, decide_eq_false_iff_not, exists_false, exists_const, Option.some.injEq, Bool.not_eq_true', Bool.not_eq_false', Bool.true_eq_false, Bool.false_eq_true, beq_iff_eq, beq_eq_false_iff_ne, ne_eq, not_true_eq_false, not_false_eq_true, Option.map_some, Bool.not_true, Bool.not_false, beq_self_eq_true, List.map_cons, List.map_nil, List.replicate_succ, List.replicate_zero, List.cons_append, List.nil_append, List.getElem?_cons_zero, List.getElem?_cons_succ, List.set_cons_zero, List.set_cons_succ, Nat.reduceSub, Nat.reduceAdd, List.length_cons, List.length_nil, Nat.zero_add, Nat.reduceLeDiff, if_true, if_false]
      refine ok_comp_seq (xs := as.map .ref) (j := τ0.length) (by simp only [Ok_seq, Then_next, Then_ret, Turn_next, Turn_ret, Back_next, Back_ret, Ok_ite, Ok_and, Ok_or, Ok_cmp2, Ok_bind, Ok_ok, ev_none, ev_bool, ev_int, ev_str, ev_var, ev_glob, ev_fn, ev_bin, ev_neg, ev_not, ev_cmp, ev_list, ev_tup, ev_dictS, ev_dictI, ev_idx, ev_sl, ev_slFrom, ev_slTo, ev_call, ev_len, ev_listOf, ev_listRange, ev_listRev, ev_isinst, ev_toInt, ev_max, ev_min, ev_sum, ev_nil, ev_cons, ex_assign, ex_setItem, ex_append, ex_clear, ex_expr, ex_ret, ex_nil, bind_ok, ofB_some, cm_Eq, cm_NotEq, cm_Lt, cm_LtE, cm_Gt, cm_GtE, cm_Is, cm_IsNot, cm_In, cm_NotIn, eq_ii, eq_ss, eq_bb, eq_rr, eq_tt, eq_nx, eq_in, no_none, no_int, no_ref, no_tup, ist_ii, ist_ib, ist_bb, ist_tt, ist_ss, V.bool.injEq, F.ret.injEq, reduceCtorEq, and_true, true_and, false_and, and_false, or_false, false_or, exists_eq_left', decide_eq_true_eq, decide_eq_false_iff_not, exists_false, exists_const, Option.some.injEq, Bool.not_eq_true', Bool.not_eq_false', Bool.true_eq_false, Bool.false_eq_true, beq_iff_eq, beq_eq_false_iff_ne, ne_eq, not_true_eq_false, not_false_eq_true, Option.map_some, Bool.not_true, Bool.not_false, beq_self_eq_true, List.map_cons, List.map_nil, List.replicate_succ, List.replicate_zero, List.cons_append, List.nil_append, List.getElem?_cons_zero, List.getElem?_cons_succ, List.set_cons_zero, List.set_cons_succ, Nat.reduceSub, Nat.reduceAdd, List.length_cons, List.length_nil, Nat.zero_add, Nat.reduceLeDiff, if_true, if_false]) (fun i acc τ' => τ <+: τ' ∧ ∃ bs, acc = bs.map .ref ∧ Mk τ τ' bs ((List.range i).map (knownOf rows))) (fun i acc τ' h => at_pre hjf h.1) ⟨List.prefix_refl _, [], rfl, .start⟩ ?_ ?_
      · rintro i v acc τ' hv ⟨hpre, bs, rfl, hB⟩
        rw [List.getElem?_map] at hv
        cases hai : as[i]? with
        | none => rw [hai] at hv; cases hv
        | some a =>
          rw [hai] at hv; cases hv
          have hi := (List.getElem?_eq_some_iff.mp hai).1
          have hiH : i < H := by omega
          obtain ⟨a', ha', hax⟩ := hM.nl.get (k := i) (xs := ownOf rows i rows.length) (by simp [List.getElem?_map, List.getElem?_range hiH])
          rw [hai] at ha'; cases ha'
          have hjt := at_pre (at_pre hj hM.pre) hpre
          simp only [Ok_seq, Then_next, Then_ret, Turn_next, Turn_ret, Back_next, Back_ret, Ok_ite, Ok_and, Ok_or, Ok_cmp2, Ok_bind, Ok_ok, ev_none, ev_bool, ev_int, ev_str, ev_var, ev_glob, ev_fn, ev_bin, ev_neg, ev_not, ev_cmp, ev_list, ev_tup, ev_dictS, ev_dictI, ev_idx, ev_sl, ev_slFrom, ev_slTo, ev_call, ev_len, ev_listOf, ev_listRange, ev_listRev, ev_isinst, ev_toInt, ev_max, ev_min, ev_sum, ev_nil, ev_cons, ex_assign, ex_setItem, ex_append, ex_clear, ex_expr, ex_ret, ex_nil, bind_ok, ofB_some, cm_Eq, cm_NotEq, cm_Lt, cm_LtE, cm_Gt, cm_GtE, cm_Is, cm_IsNot, cm_In, cm_NotIn, eq_ii, eq_ss, eq_bb, eq_rr, eq_tt, eq_nx, eq_in, no_none, no_int, no_ref, no_tup, ist_ii, ist_ib, ist_bb, ist_tt, ist_ss, V.bool.injEq, F.ret.injEq, reduceCtorEq, and_true, true_and, false_and, and_false, or_false, false_or, exists_eq_left', decide_eq_true_eq, decide_eq_false_iff_not, exists_false, exists_const, Option.some.injEq, Bool.not_eq_true', Bool.not_eq_false', Bool.true_eq_false, Bool.false_eq_true, beq_iff_eq, beq_eq_false_iff_ne, ne_eq, not_true_eq_false, not_false_eq_true, Option.map_some, Bool.not_true, Bool.not_false, beq_self_eq_true, List.map_cons, List.map_nil, List.replicate_succ, List.replicate_zero, List.cons_append, List.nil_append, List.getElem?_cons_zero, List.getElem?_cons_succ, List.set_cons_zero, List.set_cons_succ, Nat.reduceSub, Nat.reduceAdd, List.length_cons, List.length_nil, Nat.zero_add, Nat.reduceLeDiff, if_true, if_false, len_map hjt, Ok_newL]
          refine ⟨by rw [sizeMax_eq]; omega, ?_⟩
          have := nends_len (rows := rows) (h := i) (i := rows.length)
          refine bin_app (at_app (at_pre hax hpre)) at_end (by rw [List.length_map, ownOf, List.length_cons, sizeMax_eq]; simp; omega) ?_
          refine ⟨pre_app (pre_app hpre), bs ++ [τ'.length + 1], by simp, ?_⟩
          rw [List.range_succ, List.map_append]
          refine hB.snoc (pre_app (List.prefix_append _ _)) (by omega) ?_
          simp [knownOf, ownOf, natV]
      · rintro r τ' ⟨hpre, bs, rfl, hB⟩
        have e0 : (List.range (as.map V.ref).length).map (knownOf rows) = known H rows := by simp [known, hasl]
        rw [e0] at hB
        have hbl := hB.nl.len
        rw [known_len] at hbl
        refine ⟨by rw [List.length_map, sizeMax_eq]; omega, ?_⟩
        have hp0 := pre_len hM.pre
        have hp1 := pre_len hpre
        refine ⟨τ'.length, bs, rfl, ⟨hM.pre.trans (pre_app hB.pre), (hB.app (List.prefix_append _ _)).nl, fun a ha => by have := hB.lo a ha; omega, hB.dist⟩, at_end, by omega, fun h => ?_⟩
        have := hB.nl.lt h
        omega
end
end Mine

namespace Mine
open PySem
section
variable {ns : List Int} {G : List Int} {P : List Fn} {C : Nat → List V → Store → R V} {N : Nat} {σ τ : Store} {ρ : Loc}

/-- how most laws begin: hands and a history -/
theorem law_start {d kc kh ky kr fc : Nat} {rest : Ss} {Q : F × Loc → Store → Prop} (S : Start P kc kh ky kr) (hns : ns.length ≤ 63)
    (hQ : ∀ (H jr : Nat) (rows : List Rw) (τ : Store), 1 ≤ H → H ≤ 40 → Hist H rows → rows.length ≤ 1000 → τ[jr]? = some (.list (rows.map rv)) → Ok (exSs ns G (callF ns G P N (d + 2)) N rest (some .scr :: some (.int (H : Int)) :: some (.ref jr) :: ρ) τ) Q) :
    Ok (exSs ns G (callF ns G P N (d + 2)) N (.cons (.assign 1 (.call kh (.cons (.call kc (.cons (.var 0) (.cons (.int 0) .nil))) .nil))) (.cons (.assign 2 (.call kr (.cons (.call ky (.cons (.var 0) (.cons (.int (fc : Int)) .nil))) (.cons (.var 1) .nil)))) rest)) (some .scr :: Option.none :: Option.none :: ρ) σ) Q := by
  have cell : callF ns G P N (d + 2) kc [.scr, .int 0] σ = .ok (.int (cellAt ns 0)) σ := cell_at_ok S.cell (by omega)
  obtain ⟨H, h1, h40, hH⟩ := hands_ok (ns := ns) (G := G) (N := N) (σ := σ) (d := d + 1) (c := cellAt ns 0) S.hands
  simp only [Ok_seq, Then_next, Then_ret, Turn_next, Turn_ret, Back_next, Back_ret, Ok_ite, Ok_and, Ok_or, Ok_cmp2, Ok_bind, Ok_ok, ev_none, ev_bool, ev_int, ev_str, ev_var, ev_glob, ev_fn, ev_bin, ev_neg, ev_not, ev_cmp, ev_list, ev_tup, ev_dictS, ev_dictI, ev_idx, ev_sl, ev_slFrom, ev_slTo, ev_call, ev_len, ev_listOf, ev_listRange, ev_listRev, ev_isinst, ev_toInt, ev_max, ev_min, ev_sum, ev_nil, ev_cons, ex_assign, ex_setItem, ex_append, ex_clear, ex_expr, ex_ret, ex_nil, bind_ok, ofB_some, cm_Eq, cm_NotEq, cm_Lt, cm_LtE, cm_Gt, cm_GtE, cm_Is, cm_IsNot, cm_In, cm_NotIn, eq_ii, eq_ss, eq_bb, eq_rr, eq_tt, eq_nx, eq_in, no_none, no_int, no_ref, no_tup, ist_ii, ist_ib, ist_bb, ist_tt, ist_ss, V.bool.injEq, F.ret.injEq, reduceCtorEq, and_true, true_and, false_and, and_false, or_false, false_or, exists_eq_left', decide_eq_true_eq, decide_eq_false_iff_not, exists_false, exists_const, Option.some.injEq, Bool.not_eq_true', Bool.not_eq_false', Bool.true_eq_false, Bool.false_eq_true, beq_iff_eq, beq_eq_false_iff_ne, ne_eq, not_true_eq_false, not_false_eq_true, Option.map_some, Bool.not_true, Bool.not_false, beq_self_eq_true, List.map_cons, List.map_nil, List.replicate_succ, List.replicate_zero, List.cons_append, List.nil_append, List.getElem?_cons_zero, List.getElem?_cons_succ, List.set_cons_zero, List.set_cons_succ, Nat.reduceSub, Nat.reduceAdd, List.length_cons, List.length_nil, Nat.zero_add, Nat.reduceLeDiff, if_true, if_false, cell, hH]
  refine (cells_ok (σ := σ) (f := fc) (d := d) S.cells S.cell hns).mono fun v τ1 hv => ?_
  obtain ⟨jc, cells, rfl, p1, hjc, hcl⟩ := hv
  refine (rows_ok (σ := τ1) (d := d + 1) S.rows hjc h1 h40 hcl).mono fun v τ2 hv => ?_
  obtain ⟨jr, rows, rfl, p2, hjr, hG, hrl⟩ := hv
  exact hQ H jr rows τ2 h1 h40 hG (by omega) hjr
end
end Mine

namespace Mine
open PySem

section
variable {ns : List Int} {G : List Int} {P : List Fn} {C : Nat → List V → Store → R V} {N : Nat} {σ τ : Store} {ρ : Loc}

end
end Mine

namespace Mine
open PySem
/-- the line to begin with: all of those that stay, the last note of those that fall -/
noncomputable def topFor (rows : List Rw) (fs : List Nat) (h : Nat) : Nat := (knownOf rows h).length - 1 - (if h ∈ fs then 1 else 0)
theorem topFor_has {H : Nat} {rows : List Rw} {fs : List Nat} : Has H rows (topFor rows fs) := fun h _ => by have := knownOf_two (rows := rows) (h := h); unfold topFor; omega
section
variable {ns : List Int} {G : List Int} {P : List Fn} {C : Nat → List V → Store → R V} {N : Nat} {σ τ : Store} {ρ : Loc}

theorem in_nats {j h : Nat} {fs : List Nat} (hj : σ[j]? = some (.list (fs.map natV))) : inV σ (.int (h : Int)) (.ref j) = some (decide (h ∈ fs)) := by
  have e := den_nats hj
  simp only [inV, hj, den_int, e]
  congr 1
  rw [List.any_map]
  clear e hj
  induction fs with
  | nil => simp
  | cons x xs ih =>
    simp only [List.any_cons, Function.comp, PyData.eqv, List.mem_cons]
    by_cases c : x = h
    · subst c; simp
    · have c1 : ((x : Int) == (h : Int)) = false := by simp; omega
      rw [c1]
      rw [Bool.false_or]
      refine Eq.trans ih ?_
      simp [Ne.symm c]

theorem top_line_ok {d kt jr jf H kl kf kn g1 g2 ke ko : Nat} {rows : List Rw} {fs : List Nat} (X : Prj P G kl kf kn g1 g2) (he : P[ke]? = some (B.ends kl ko)) (ho : P[ko]? = some B.ends_of) (hp : P[kt]? = some (B.top_line ke kn)) (hj : σ[jr]? = some (.list (rows.map rv))) (hjf : σ[jf]? = some (.list (fs.map natV))) (hfs : ∀ x ∈ fs, x < H) (hG : Hist H rows) (h1 : 1 ≤ H) (h40 : H ≤ 40) (hr : rows.length ≤ 1000) :
    Ok (callF ns G P N (d + 4) kt [.int (H : Int), .ref jr, .ref jf] σ) (fun v τ => ∃ jt, v = .ref jt ∧ σ <+: τ ∧ τ[jt]? = some (.list ((lineOf H (topFor rows fs)).map natV))) := by
  refine ok_call hp rfl ?_
  simp only [B.top_line, Ok_seq, Then_next, Then_ret, Turn_next, Turn_ret, Back_next, Back_ret, Ok_ite, Ok_and, Ok_or, Ok_cmp2, Ok_bind, Ok_ok, ev_none, ev_bool, ev_int, ev_str, ev_var, ev_glob, ev_fn, ev_bin, ev_neg, ev_not, ev_cmp, ev_list, ev_tup, ev_dictS, ev_dictI, ev_idx, ev_sl, ev_slFrom, ev_slTo, ev_call, ev_len, ev_listOf, ev_listRange, ev_listRev, ev_isinst, ev_toInt, ev_max, ev_min, ev_sum, ev_nil, ev_cons, ex_assign, ex_setItem, ex_append, ex_clear, ex_expr, ex_ret, ex_nil, bind_ok, ofB_some, cm_Eq, cm_NotEq, cm_Lt, cm_LtE, cm_Gt, cm_GtE, cm_Is, cm_IsNot, cm_In, cm_NotIn, eq_ii, eq_ss, eq_bb, eq_rr, eq_tt, eq_nx, eq_in, no_none, no_int, no_ref, no_tup, ist_ii, ist_ib, ist_bb, ist_tt, ist_ss, V.bool.injEq, F.ret.injEq, reduceCtorEq, and_true, true_and, false_and, and_false, or_false, false_or, exists_eq_left', decide_eq_true_eq, decide_eq_false_iff_not, exists_false, exists_const, Option.some.injEq, Bool.not_eq_true', Bool.not_eq_false', Bool.true_eq_false, Bool.false_eq_true, beq_iff_eq, beq_eq_false_iff_ne, ne_eq, not_true_eq_false, not_false_eq_true, Option.map_some, Bool.not_true, Bool.not_false, beq_self_eq_true, List.map_cons, List.map_nil, List.replicate_succ, List.replicate_zero, List.cons_append, List.nil_append, List.getElem?_cons_zero, List.getElem?_cons_succ, List.set_cons_zero, List.set_cons_succ, Nat.reduceSub, Nat.reduceAdd, List.length_cons, List.length_nil, Nat.zero_add, Nat.reduceLeDiff, if_true, if_false]
  refine (ends_ok (d := d) X he ho hj hG h1 h40 hr).mono fun v τ1 hv => ?_
  obtain ⟨jk, as, rfl, hM, hjk, hjk0, hjkn⟩ := hv
  have hT : Told τ1 jk H rows := ⟨as, hjk, hM.nl⟩
  have hf1 := at_pre hjf hM.pre
  refine ok_for_seq (fs.map natV) (j := jf) (by simp only [Ok_seq, Then_next, Then_ret, Turn_next, Turn_ret, Back_next, Back_ret, Ok_ite, Ok_and, Ok_or, Ok_cmp2, Ok_bind, Ok_ok, ev_none, ev_bool, ev_int, ev_str, ev_var, ev_glob, ev_fn, ev_bin, ev_neg, ev_not, ev_cmp, ev_list, ev_tup, ev_dictS, ev_dictI, ev_idx, ev_sl, ev_slFrom, ev_slTo, ev_call, ev_len, ev_listOf, ev_listRange, ev_listRev, ev_isinst, ev_toInt, ev_max, ev_min, ev_sum, ev_nil, ev_cons, ex_assign, ex_setItem, ex_append, ex_clear, ex_expr, ex_ret, ex_nil, bind_ok, ofB_some, cm_Eq, cm_NotEq, cm_Lt, cm_LtE, cm_Gt, cm_GtE, cm_Is, cm_IsNot, cm_In, cm_NotIn, eq_ii, eq_ss, eq_bb, eq_rr, eq_tt, eq_nx, eq_in, no_none, no_int, no_ref, no_tup, ist_ii, ist_ib, ist_bb, ist_tt, ist_ss, V.bool.injEq, F.ret.injEq, reduceCtorEq, and_true, true_and, false_and, and_false, or_false, false_or, exists_eq_left', decide_eq_true_eq, decide_eq_false_iff_not, exists_false, exists_const, Option.some.injEq, Bool.not_eq_true', Bool.not_eq_false', Bool.true_eq_false, Bool.false_eq_true, beq_iff_eq, beq_eq_false_iff_ne, ne_eq, not_true_eq_false, not_false_eq_true, Option.map_some, Bool.not_true, Bool.not_false, beq_self_eq_true, List.map_cons, List.map_nil, List.replicate_succ, List.replicate_zero, List.cons_append, List.nil_append, List.getElem?_cons_zero, List.getElem?_cons_succ, List.set_cons_zero, List.set_cons_succ, Nat.reduceSub, Nat.reduceAdd, List.length_cons, List.length_nil, Nat.zero_add, Nat.reduceLeDiff, if_true, if_false]) (fun i ρ' τ => τ = τ1 ∧ ∃ o, ρ' = [some (V.int (H : Int)), some (V.ref jr), some (V.ref jf), some (V.ref jk), o, none]) (fun i ρ' τ h => by rw [h.1]; exact hf1) ⟨rfl, _, rfl⟩ ?_ ?_
  · rintro i v ρ' τ hv ⟨rfl, o, rfl⟩
    rw [List.getElem?_map] at hv
    cases hfi : fs[i]? with
    | none => rw [hfi] at hv; cases hv
    | some x =>
      rw [hfi] at hv; cases hv
      have hx := hfs x (List.mem_of_getElem? hfi)
      have e1 : callF ns G P N (d + 3) kn [.int (H : Int), natV x] τ = .ok .none τ := need_hand_ok X.hand hx
      simp only [Ok_seq, Then_next, Then_ret, Turn_next, Turn_ret, Back_next, Back_ret, Ok_ite, Ok_and, Ok_or, Ok_cmp2, Ok_bind, Ok_ok, ev_none, ev_bool, ev_int, ev_str, ev_var, ev_glob, ev_fn, ev_bin, ev_neg, ev_not, ev_cmp, ev_list, ev_tup, ev_dictS, ev_dictI, ev_idx, ev_sl, ev_slFrom, ev_slTo, ev_call, ev_len, ev_listOf, ev_listRange, ev_listRev, ev_isinst, ev_toInt, ev_max, ev_min, ev_sum, ev_nil, ev_cons, ex_assign, ex_setItem, ex_append, ex_clear, ex_expr, ex_ret, ex_nil, bind_ok, ofB_some, cm_Eq, cm_NotEq, cm_Lt, cm_LtE, cm_Gt, cm_GtE, cm_Is, cm_IsNot, cm_In, cm_NotIn, eq_ii, eq_ss, eq_bb, eq_rr, eq_tt, eq_nx, eq_in, no_none, no_int, no_ref, no_tup, ist_ii, ist_ib, ist_bb, ist_tt, ist_ss, V.bool.injEq, F.ret.injEq, reduceCtorEq, and_true, true_and, false_and, and_false, or_false, false_or, exists_eq_left', decide_eq_true_eq, decide_eq_false_iff_not, exists_false, exists_const, Option.some.injEq, Bool.not_eq_true', Bool.not_eq_false', Bool.true_eq_false, Bool.false_eq_true, beq_iff_eq, beq_eq_false_iff_ne, ne_eq, not_true_eq_false, not_false_eq_true, Option.map_some, Bool.not_true, Bool.not_false, beq_self_eq_true, List.map_cons, List.map_nil, List.replicate_succ, List.replicate_zero, List.cons_append, List.nil_append, List.getElem?_cons_zero, List.getElem?_cons_succ, List.set_cons_zero, List.set_cons_succ, Nat.reduceSub, Nat.reduceAdd, List.length_cons, List.length_nil, Nat.zero_add, Nat.reduceLeDiff, if_true, if_false, e1]
      exact ⟨_, rfl⟩
  · rintro ρ' τ ⟨rfl, o, rfl⟩
    simp only [Ok_seq, Then_next, Then_ret, Turn_next, Turn_ret, Back_next, Back_ret, Ok_ite, Ok_and, Ok_or, Ok_cmp2, Ok_bind, Ok_ok, ev_none, ev_bool, ev_int, ev_str, ev_var, ev_glob, ev_fn, ev_bin, ev_neg, ev_not, ev_cmp, ev_list, ev_tup, ev_dictS, ev_dictI, ev_idx, ev_sl, ev_slFrom, ev_slTo, ev_call, ev_len, ev_listOf, ev_listRange, ev_listRev, ev_isinst, ev_toInt, ev_max, ev_min, ev_sum, ev_nil, ev_cons, ex_assign, ex_setItem, ex_append, ex_clear, ex_expr, ex_ret, ex_nil, bind_ok, ofB_some, cm_Eq, cm_NotEq, cm_Lt, cm_LtE, cm_Gt, cm_GtE, cm_Is, cm_IsNot, cm_In, cm_NotIn, eq_ii, eq_ss, eq_bb, eq_rr, eq_tt, eq_nx, eq_in, no_none, no_int, no_ref, no_tup, ist_ii, ist_ib, ist_bb, ist_tt, ist_ss, V.bool.injEq, F.ret.injEq, reduceCtorEq, and_true, true_and, false_and, and_false, or_false, false_or, exists_eq_left', decide_eq_true_eq, decide_eq_false_iff_not, exists_false, exists_const, Option.some.injEq, Bool.not_eq_true', Bool.not_eq_false', Bool.true_eq_false, Bool.false_eq_true, beq_iff_eq, beq_eq_false_iff_ne, ne_eq, not_true_eq_false, not_false_eq_true, Option.map_some, Bool.not_true, Bool.not_false, beq_self_eq_true, List.map_cons, List.map_nil, List.replicate_succ, List.replicate_zero, List.cons_append, List.nil_append, List.getElem?_cons_zero, List.getElem?_cons_succ, List.set_cons_zero, List.set_cons_succ, Nat.reduceSub, Nat.reduceAdd, List.length_cons, List.length_nil, Nat.zero_add, Nat.reduceLeDiff, if_true, if_false, Ok_newL, Nat.zero_le]
    refine ok_for_range (n := H) (by simp only [Ok_seq, Then_next, Then_ret, Turn_next, Turn_ret, Back_next, Back_ret, Ok_ite, Ok_and, Ok_or, Ok_cmp2, Ok_bind, Ok_ok, ev_none, ev_bool, ev_int, ev_str, ev_var, ev_glob, ev_fn, ev_bin, ev_neg, ev_not, ev_cmp, ev_list, ev_tup, ev_dictS, ev_dictI, ev_idx, ev_sl, ev_slFrom, ev_slTo, ev_call, ev_len, ev_listOf, ev_listRange, ev_listRev, ev_isinst, ev_toInt, ev_max, ev_min, ev_sum, ev_nil, ev_cons, ex_assign, ex_setItem, ex_append, ex_clear, ex_expr, ex_ret, ex_nil, bind_ok, ofB_some, cm_Eq, cm_NotEq, cm_Lt, cm_LtE, cm_Gt, cm_GtE, cm_Is, cm_IsNot, cm_In, cm_NotIn, eq_ii, eq_ss, eq_bb, eq_rr, eq_tt, eq_nx, eq_in, no_none, no_int, no_ref, no_tup, ist_ii, ist_ib, ist_bb, ist_tt, ist_ss, V.bool.injEq, F.ret.injEq, reduceCtorEq, and_true, true_and, false_and, and_false, or_false, false_or, exists_eq_left', decide_eq_true_eq, decide_eq_false_iff_not, exists_false, exists_const, Option.some.injEq, Bool.not_eq_true', Bool.not_eq_false', Bool.true_eq_false, Bool.false_eq_true, beq_iff_eq, beq_eq_false_iff_ne, ne_eq, not_true_eq_false, not_false_eq_true, Option.map_some, Bool.not_true, Bool.not_false, beq_self_eq_true, List.map_cons, List.map_nil, List.replicate_succ, List.replicate_zero, List.cons_append, List.nil_append, List.getElem?_cons_zero, List.getElem?_cons_succ, List.set_cons_zero, List.set_cons_succ, Nat.reduceSub, Nat.reduceAdd, List.length_cons, List.length_nil, Nat.zero_add, Nat.reduceLeDiff, if_true, if_false]) (by rw [sizeMax_eq]; omega) (fun i ρ' τ' => τ' = τ ++ [.list (((List.range i).map (topFor rows fs)).map natV)] ∧ ∃ o, ρ' = [some (V.int (H : Int)), some (V.ref jr), some (V.ref jf), some (V.ref jk), o, some (V.ref τ.length)]) ⟨rfl, _, rfl⟩ ?_ ?_
    · rintro i ρ' τ' hi ⟨rfl, o, rfl⟩
      have hfa := at_app (τ := [Cell.list (((List.range i).map (topFor rows fs)).map natV)]) hf1
      obtain ⟨a, y1, hax⟩ := (hT.pre (List.prefix_append _ [Cell.list (((List.range i).map (topFor rows fs)).map natV)])).idx (ns := ns) hi
      have h2 := knownOf_two (rows := rows) (h := i)
      have nx : ((List.range (i + 1)).map (topFor rows fs)).map natV = ((List.range i).map (topFor rows fs)).map natV ++ [natV (topFor rows fs i)] := by rw [List.range_succ]; simp
      rw [nx]
      have hlen : (((List.range i).map (topFor rows fs)).map natV).length = i := by simp
      generalize ((List.range i).map (topFor rows fs)).map natV = vs at *
      have e3 := app_list (v := natV (topFor rows fs i)) (τ := τ ++ [Cell.list vs]) at_end (by rw [hlen, sizeMax_eq]; omega)
      rw [set_end] at e3
      have hend := isL_list (τ := τ ++ [Cell.list vs]) at_end
      simp only [Ok_seq, Then_next, Then_ret, Turn_next, Turn_ret, Back_next, Back_ret, Ok_ite, Ok_and, Ok_or, Ok_cmp2, Ok_bind, Ok_ok, ev_none, ev_bool, ev_int, ev_str, ev_var, ev_glob, ev_fn, ev_bin, ev_neg, ev_not, ev_cmp, ev_list, ev_tup, ev_dictS, ev_dictI, ev_idx, ev_sl, ev_slFrom, ev_slTo, ev_call, ev_len, ev_listOf, ev_listRange, ev_listRev, ev_isinst, ev_toInt, ev_max, ev_min, ev_sum, ev_nil, ev_cons, ex_assign, ex_setItem, ex_append, ex_clear, ex_expr, ex_ret, ex_nil, bind_ok, ofB_some, cm_Eq, cm_NotEq, cm_Lt, cm_LtE, cm_Gt, cm_GtE, cm_Is, cm_IsNot, cm_In, cm_NotIn, eq_ii, eq_ss, eq_bb, eq_rr, eq_tt, eq_nx, eq_in, no_none, no_int, no_ref, no_tup, ist_ii, ist_ib, ist_bb, ist_tt, ist_ss, V.bool.injEq, F.ret.injEq, reduceCtorEq, and_true, true_and, false_and, and_false, or_false, false_or, exists_eq_left', decide_eq_true_eq, decide_eq_false_iff_not, exists_false, exists_const, Option.some.injEq, Bool.not_eq_true', Bool.not_eq_false', Bool.true_eq_false, Bool.false_eq_true, beq_iff_eq, beq_eq_false_iff_ne, ne_eq, not_true_eq_false, not_false_eq_true, Option.map_some, Bool.not_true, Bool.not_false, beq_self_eq_true, List.map_cons, List.map_nil, List.replicate_succ, List.replicate_zero, List.cons_append, List.nil_append, List.getElem?_cons_zero, List.getElem?_cons_succ, List.set_cons_zero, List.set_cons_succ, Nat.reduceSub, Nat.reduceAdd, List.length_cons, List.length_nil, Nat.zero_add, Nat.reduceLeDiff, if_true, if_false, in_nats hfa]
      by_cases c : i ∈ fs
      · have e4 : ((knownOf rows i).length : Int) - 2 = ((topFor rows fs i : Nat) : Int) := by unfold topFor; rw [if_pos c]; omega
        have e5 : V.int ((topFor rows fs i : Nat) : Int) = natV (topFor rows fs i) := rfl
        simp only [Ok_seq, Then_next, Then_ret, Turn_next, Turn_ret, Back_next, Back_ret, Ok_ite, Ok_and, Ok_or, Ok_cmp2, Ok_bind, Ok_ok, ev_none, ev_bool, ev_int, ev_str, ev_var, ev_glob, ev_fn, ev_bin, ev_neg, ev_not, ev_cmp, ev_list, ev_tup, ev_dictS, ev_dictI, ev_idx, ev_sl, ev_slFrom, ev_slTo, ev_call, ev_len, ev_listOf, ev_listRange, ev_listRev, ev_isinst, ev_toInt, ev_max, ev_min, ev_sum, ev_nil, ev_cons, ex_assign, ex_setItem, ex_append, ex_clear, ex_expr, ex_ret, ex_nil, bind_ok, ofB_some, cm_Eq, cm_NotEq, cm_Lt, cm_LtE, cm_Gt, cm_GtE, cm_Is, cm_IsNot, cm_In, cm_NotIn, eq_ii, eq_ss, eq_bb, eq_rr, eq_tt, eq_nx, eq_in, no_none, no_int, no_ref, no_tup, ist_ii, ist_ib, ist_bb, ist_tt, ist_ss, V.bool.injEq, F.ret.injEq, reduceCtorEq, and_true, true_and, false_and, and_false, or_false, false_or, exists_eq_left', decide_eq_true_eq, decide_eq_false_iff_not, exists_false, exists_const, Option.some.injEq, Bool.not_eq_true', Bool.not_eq_false', Bool.true_eq_false, Bool.false_eq_true, beq_iff_eq, beq_eq_false_iff_ne, ne_eq, not_true_eq_false, not_false_eq_true, Option.map_some, Bool.not_true, Bool.not_false, beq_self_eq_true, List.map_cons, List.map_nil, List.replicate_succ, List.replicate_zero, List.cons_append, List.nil_append, List.getElem?_cons_zero, List.getElem?_cons_succ, List.set_cons_zero, List.set_cons_succ, Nat.reduceSub, Nat.reduceAdd, List.length_cons, List.length_nil, Nat.zero_add, Nat.reduceLeDiff, if_true, if_false, c, y1, len_map hax, bin_sub, e4, e5, hend, e3, decide_true]
        exact ⟨_, rfl⟩
      · have e4 : ((knownOf rows i).length : Int) - 1 = ((topFor rows fs i : Nat) : Int) := by unfold topFor; rw [if_neg c]; omega
        have e5 : V.int ((topFor rows fs i : Nat) : Int) = natV (topFor rows fs i) := rfl
        simp only [Ok_seq, Then_next, Then_ret, Turn_next, Turn_ret, Back_next, Back_ret, Ok_ite, Ok_and, Ok_or, Ok_cmp2, Ok_bind, Ok_ok, ev_none, ev_bool, ev_int, ev_str, ev_var, ev_glob, ev_fn, ev_bin, ev_neg, ev_not, ev_cmp, ev_list, ev_tup, ev_dictS, ev_dictI, ev_idx, ev_sl, ev_slFrom, ev_slTo, ev_call, ev_len, ev_listOf, ev_listRange, ev_listRev, ev_isinst, ev_toInt, ev_max, ev_min, ev_sum, ev_nil, ev_cons, ex_assign, ex_setItem, ex_append, ex_clear, ex_expr, ex_ret, ex_nil, bind_ok, ofB_some, cm_Eq, cm_NotEq, cm_Lt, cm_LtE, cm_Gt, cm_GtE, cm_Is, cm_IsNot, cm_In, cm_NotIn, eq_ii, eq_ss, eq_bb, eq_rr, eq_tt, eq_nx, eq_in, no_none, no_int, no_ref, no_tup, ist_ii, ist_ib, ist_bb, ist_tt, ist_ss, V.bool.injEq, F.ret.injEq, reduceCtorEq, and_true, true_and, false_and, and_false, or_false, false_or, exists_eq_left', decide_eq_true_eq, decide_eq_false_iff_not, exists_false, exists_const, Option.some.injEq, Bool.not_eq_true', Bool.not_eq_false', Bool.true_eq_false, Bool.false_eq_true, beq_iff_eq, beq_eq_false_iff_ne, ne_eq, not_true_eq_false, not_false_eq_true, Option.map_some, Bool.not_true, Bool.not_false, beq_self_eq_true, List.map_cons, List.map_nil, List.replicate_succ, List.replicate_zero, List.cons_append, List.nil_append, List.getElem?_cons_zero, List.getElem?_cons_succ, List.set_cons_zero, List.set_cons_succ, Nat.reduceSub, Nat.reduceAdd, List.length_cons, List.length_nil, Nat.zero_add, Nat.reduceLeDiff, if_true, if_false, c, y1, len_map hax, bin_sub, e4, e5, hend, e3, decide_false]
        exact ⟨_, rfl⟩
    · rintro ρ' τ' ⟨rfl, o, rfl⟩
      simp only [Ok_seq, Then_next, Then_ret, Turn_next, Turn_ret, Back_next, Back_ret, Ok_ite, Ok_and, Ok_or, Ok_cmp2, Ok_bind, Ok_ok, ev_none, ev_bool, ev_int, ev_str, ev_var, ev_glob, ev_fn, ev_bin, ev_neg, ev_not, ev_cmp, ev_list, ev_tup, ev_dictS, ev_dictI, ev_idx, ev_sl, ev_slFrom, ev_slTo, ev_call, ev_len, ev_listOf, ev_listRange, ev_listRev, ev_isinst, ev_toInt, ev_max, ev_min, ev_sum, ev_nil, ev_cons, ex_assign, ex_setItem, ex_append, ex_clear, ex_expr, ex_ret, ex_nil, bind_ok, ofB_some, cm_Eq, cm_NotEq, cm_Lt, cm_LtE, cm_Gt, cm_GtE, cm_Is, cm_IsNot, cm_In, cm_NotIn, eq_ii, eq_ss, eq_bb, eq_rr, eq_tt, eq_nx, eq_in, no_none, no_int, no_ref, no_tup, ist_ii, ist_ib, ist_bb, ist_tt, ist_ss, V.bool.injEq, F.ret.injEq, reduceCtorEq, and_true, true_and, false_and, and_false, or_false, false_or, exists_eq_left', decide_eq_true_eq, decide_eq_false_iff_not, exists_false, exists_const, Option.some.injEq, Bool.not_eq_true', Bool.not_eq_false', Bool.true_eq_false, Bool.false_eq_true, beq_iff_eq, beq_eq_false_iff_ne, ne_eq, not_true_eq_false, not_false_eq_true, Option.map_some, Bool.not_true, Bool.not_false, beq_self_eq_true, List.map_cons, List.map_nil, List.replicate_succ, List.replicate_zero, List.cons_append, List.nil_append, List.getElem?_cons_zero, List.getElem?_cons_succ, List.set_cons_zero, List.set_cons_succ, Nat.reduceSub, Nat.reduceAdd, List.length_cons, List.length_nil, Nat.zero_add, Nat.reduceLeDiff, if_true, if_false]
      exact ⟨_, rfl, pre_app hM.pre, at_end⟩

variable {kl kf kn g1 g2 ke ko ks kk ka kL : Nat}
theorem last_line_ok {d k kt jr jf H : Nat} {rows : List Rw} {fs : List Nat} (X : Fall P G N kl kf kn g1 g2 ke ko ks kk ka kL) (ht : P[kt]? = some (B.top_line ke kn)) (hp : P[k]? = some (B.last_line kL kt)) (hj : σ[jr]? = some (.list (rows.map rv))) (hjf : σ[jf]? = some (.list (fs.map natV))) (hfs : ∀ x ∈ fs, x < H) (hG : Hist H rows) (h1 : 1 ≤ H) (h40 : H ≤ 40) (hr : rows.length ≤ 1000) :
    Ok (callF ns G P N (d + 5) k [.int (H : Int), .ref jr, .ref jf] σ) (fun v τ => ∃ jh f, v = .ref jh ∧ σ <+: τ ∧ σ.length ≤ jh ∧ τ[jh]? = some (.list ((lineOf H f).map natV)) ∧ Sound rows f ∧ Below H rows (topFor rows fs) f) := by
  refine ok_call hp rfl ?_
  simp only [B.last_line, Ok_seq, Then_next, Then_ret, Turn_next, Turn_ret, Back_next, Back_ret, Ok_ite, Ok_and, Ok_or, Ok_cmp2, Ok_bind, Ok_ok, ev_none, ev_bool, ev_int, ev_str, ev_var, ev_glob, ev_fn, ev_bin, ev_neg, ev_not, ev_cmp, ev_list, ev_tup, ev_dictS, ev_dictI, ev_idx, ev_sl, ev_slFrom, ev_slTo, ev_call, ev_len, ev_listOf, ev_listRange, ev_listRev, ev_isinst, ev_toInt, ev_max, ev_min, ev_sum, ev_nil, ev_cons, ex_assign, ex_setItem, ex_append, ex_clear, ex_expr, ex_ret, ex_nil, bind_ok, ofB_some, cm_Eq, cm_NotEq, cm_Lt, cm_LtE, cm_Gt, cm_GtE, cm_Is, cm_IsNot, cm_In, cm_NotIn, eq_ii, eq_ss, eq_bb, eq_rr, eq_tt, eq_nx, eq_in, no_none, no_int, no_ref, no_tup, ist_ii, ist_ib, ist_bb, ist_tt, ist_ss, V.bool.injEq, F.ret.injEq, reduceCtorEq, and_true, true_and, false_and, and_false, or_false, false_or, exists_eq_left', decide_eq_true_eq, decide_eq_false_iff_not, exists_false, exists_const, Option.some.injEq, Bool.not_eq_true', Bool.not_eq_false', Bool.true_eq_false, Bool.false_eq_true, beq_iff_eq, beq_eq_false_iff_ne, ne_eq, not_true_eq_false, not_false_eq_true, Option.map_some, Bool.not_true, Bool.not_false, beq_self_eq_true, List.map_cons, List.map_nil, List.replicate_succ, List.replicate_zero, List.cons_append, List.nil_append, List.getElem?_cons_zero, List.getElem?_cons_succ, List.set_cons_zero, List.set_cons_succ, Nat.reduceSub, Nat.reduceAdd, List.length_cons, List.length_nil, Nat.zero_add, Nat.reduceLeDiff, if_true, if_false]
  refine (top_line_ok (d := d) X.prj X.ends X.ends_of ht hj hjf hfs hG h1 h40 hr).mono fun v τ1 hv => ?_
  obtain ⟨jt, rfl, p1, hjt⟩ := hv
  refine (X.lowered (d := d) (at_pre hj p1) hjt topFor_has hG h1 h40 hr).mono fun v τ2 hv => ?_
  obtain ⟨jf, jh, ss, f, rfl, p2, _, hjh0, _, hjh, hC, hS, hB⟩ := hv
  have := pre_len p1
  simp only [Ok_seq, Then_next, Then_ret, Turn_next, Turn_ret, Back_next, Back_ret, Ok_ite, Ok_and, Ok_or, Ok_cmp2, Ok_bind, Ok_ok, ev_none, ev_bool, ev_int, ev_str, ev_var, ev_glob, ev_fn, ev_bin, ev_neg, ev_not, ev_cmp, ev_list, ev_tup, ev_dictS, ev_dictI, ev_idx, ev_sl, ev_slFrom, ev_slTo, ev_call, ev_len, ev_listOf, ev_listRange, ev_listRev, ev_isinst, ev_toInt, ev_max, ev_min, ev_sum, ev_nil, ev_cons, ex_assign, ex_setItem, ex_append, ex_clear, ex_expr, ex_ret, ex_nil, bind_ok, ofB_some, cm_Eq, cm_NotEq, cm_Lt, cm_LtE, cm_Gt, cm_GtE, cm_Is, cm_IsNot, cm_In, cm_NotIn, eq_ii, eq_ss, eq_bb, eq_rr, eq_tt, eq_nx, eq_in, no_none, no_int, no_ref, no_tup, ist_ii, ist_ib, ist_bb, ist_tt, ist_ss, V.bool.injEq, F.ret.injEq, reduceCtorEq, and_true, true_and, false_and, and_false, or_false, false_or, exists_eq_left', decide_eq_true_eq, decide_eq_false_iff_not, exists_false, exists_const, Option.some.injEq, Bool.not_eq_true', Bool.not_eq_false', Bool.true_eq_false, Bool.false_eq_true, beq_iff_eq, beq_eq_false_iff_ne, ne_eq, not_true_eq_false, not_false_eq_true, Option.map_some, Bool.not_true, Bool.not_false, beq_self_eq_true, List.map_cons, List.map_nil, List.replicate_succ, List.replicate_zero, List.cons_append, List.nil_append, List.getElem?_cons_zero, List.getElem?_cons_succ, List.set_cons_zero, List.set_cons_succ, Nat.reduceSub, Nat.reduceAdd, List.length_cons, List.length_nil, Nat.zero_add, Nat.reduceLeDiff, if_true, if_false, idx_tup1]
  exact ⟨jh, f, rfl, p1.trans p2, by omega, hjh, hS, hB⟩
end
end Mine

namespace Mine
open PySem
section
variable {ns : List Int} {G : List Int} {P : List Fn} {C : Nat → List V → Store → R V} {N : Nat} {σ τ : Store} {ρ : Loc}

end
end Mine

namespace Mine
open PySem
section
variable {ns : List Int} {G : List Int} {P : List Fn} {C : Nat → List V → Store → R V} {N : Nat} {σ τ : Store} {ρ : Loc}
theorem rangeV_eq {n : Nat} : rangeV n = (List.range n).map natV := rfl
end
end Mine

namespace Mine
open PySem
section
variable {ns : List Int} {G : List Int} {P : List Fn} {C : Nat → List V → Store → R V} {N : Nat} {σ τ : Store} {ρ : Loc}

end
end Mine

namespace Mine
open PySem
section
variable {ns : List Int} {G : List Int} {P : List Fn} {C : Nat → List V → Store → R V} {N : Nat} {σ τ : Store} {ρ : Loc}

theorem st_let {i : Nat} {e : E} {r : Ss} {Q : F × Loc → Store → Prop} (k : Ok (evE ns G C ρ e σ) fun v σ' => Ok (exSs ns G C N r (ρ.set i (some v)) σ') Q) : Ok (exSs ns G C N (.cons (.assign i e) r) ρ σ) Q := by
  rw [Ok_seq, ex_assign, Ok_bind]; exact k
theorem st_from {i : Nat} {e : E} {r : Ss} {Q1 : V → Store → Prop} {Q : F × Loc → Store → Prop} (he : Ok (evE ns G C ρ e σ) Q1) (k : ∀ v σ', Q1 v σ' → Ok (exSs ns G C N r (ρ.set i (some v)) σ') Q) : Ok (exSs ns G C N (.cons (.assign i e) r) ρ σ) Q :=
  st_let (he.mono k)
variable {kl kf kn g1 g2 ke ko ks kk ka kL : Nat}
/-- lesser starts have lesser last lines -/
theorem Below.mono {H : Nat} {rows : List Rw} {t u f g : Nat → Nat} (hf : Below H rows t f) (sf : Sound rows f) (hg : Below H rows u g) (h : ∀ h, h < H → t h ≤ u h) : ∀ h, h < H → f h ≤ g h :=
  hg.ub f hf.has (fun k hk => Nat.le_trans (hf.le k hk) (h k hk)) sf
structure At11 (τ : Store) (H jr jf jh : Nat) (rows : List Rw) (fs : List Nat) : Prop where
  r : τ[jr]? = some (.list (rows.map rv))
  f : τ[jf]? = some (.list (fs.map natV))
  h : τ[jh]? = some (.list (rows.map rv))
theorem At11.pre {H jr jf jh : Nat} {rows : List Rw} {fs : List Nat} (a : At11 σ H jr jf jh rows fs) (p : σ <+: τ) : At11 τ H jr jf jh rows fs := ⟨at_pre a.r p, at_pre a.f p, at_pre a.h p⟩
/-- a line at its place -/
structure LineAt (τ : Store) (H j : Nat) (rows : List Rw) (t f : Nat → Nat) : Prop where
  at0 : τ[j]? = some (.list ((lineOf H f).map natV))
  sound : Sound rows f
  below : Below H rows t f
theorem LineAt.pre {H j : Nat} {rows : List Rw} {t f : Nat → Nat} (a : LineAt σ H j rows t f) (p : σ <+: τ) : LineAt τ H j rows t f := ⟨at_pre a.at0 p, a.sound, a.below⟩

end
end Mine

namespace Mine
open PySem

section
variable {ns : List Int} {G : List Int} {P : List Fn} {C : Nat → List V → Store → R V} {N : Nat} {σ τ : Store} {ρ : Loc}

noncomputable def lvm (M : Nat) (l : Lt) : List V := [.int (l.fr : Int), .int (l.to : Int), .int (l.at0 : Int), .int ((l.got.getD M : Nat) : Int)]

structure SendInv (σ : Store) (rows : List Rw) (ls : List Lt) (τ : Store) : Prop where
  pre : σ <+: τ
  ex : ∃ as : List Nat, τ[σ.length]? = some (.list (as.map .ref)) ∧ as.length = ls.length ∧ (∀ (k : Nat) l, ls[k]? = some l → ∃ a, as[k]? = some a ∧ τ[a]? = some (.list (lvm rows.length l))) ∧ (∀ a ∈ as, σ.length < a) ∧ as.Nodup

theorem sendings_ok {d k j : Nat} {H : Nat} {rows : List Rw} (hp : P[k]? = some B.L_letters_by_8606) (hj : σ[j]? = some (.list (rows.map rv))) (hG : Hist H rows) (hr : rows.length ≤ 1000) :
    Ok (callF ns G P N (d + 1) k [.ref j] σ) (fun v σ' => v = .ref σ.length ∧ SendInv σ rows (lettersOf rows) σ') := by
  refine ok_call hp rfl ?_
  simp only [B.L_letters_by_8606, Ok_seq, Then_next, Then_ret, Turn_next, Turn_ret, Back_next, Back_ret, Ok_ite, Ok_and, Ok_or, Ok_cmp2, Ok_bind, Ok_ok, ev_none, ev_bool, ev_int, ev_str, ev_var, ev_glob, ev_fn, ev_bin, ev_neg, ev_not, ev_cmp, ev_list, ev_tup, ev_dictS, ev_dictI, ev_idx, ev_sl, ev_slFrom, ev_slTo, ev_call, ev_len, ev_listOf, ev_listRange, ev_listRev, ev_isinst, ev_toInt, ev_max, ev_min, ev_sum, ev_nil, ev_cons, ex_assign, ex_setItem, ex_append, ex_clear, ex_expr, ex_ret, ex_nil, bind_ok, ofB_some, cm_Eq, cm_NotEq, cm_Lt, cm_LtE, cm_Gt, cm_GtE, cm_Is, cm_IsNot, cm_In, cm_NotIn, eq_ii, eq_ss, eq_bb, eq_rr, eq_tt, eq_nx, eq_in, no_none, no_int, no_ref, no_tup, ist_ii, ist_ib, ist_bb, ist_tt, ist_ss, V.bool.injEq, F.ret.injEq, reduceCtorEq, and_true, true_and, false_and, and_false, or_false, false_or, exists_eq_left', decide_eq_true_eq, decide_eq_false_iff_not, exists_false, exists_const, Option.some.injEq, Bool.not_eq_true', Bool.not_eq_false', Bool.true_eq_false, Bool.false_eq_true, beq_iff_eq, beq_eq_false_iff_ne, ne_eq, not_true_eq_false, not_false_eq_true, Option.map_some, Bool.not_true, Bool.not_false, beq_self_eq_true, List.map_cons, List.map_nil, List.replicate_succ, List.replicate_zero, List.cons_append, List.nil_append, List.getElem?_cons_zero, List.getElem?_cons_succ, List.set_cons_zero, List.set_cons_succ, Nat.reduceSub, Nat.reduceAdd, List.length_cons, List.length_nil, Nat.zero_add, Nat.reduceLeDiff, if_true, if_false, Ok_newL, Nat.zero_le]
  have hlen : evE ns G (callF ns G P N d) [some (V.ref j), some (V.ref σ.length), none] (.len (.var 0)) (σ ++ [Cell.list []]) = .ok (.int (rows.length : Int)) (σ ++ [Cell.list []]) := by
    simp only [Ok_seq, Then_next, Then_ret, Turn_next, Turn_ret, Back_next, Back_ret, Ok_ite, Ok_and, Ok_or, Ok_cmp2, Ok_bind, Ok_ok, ev_none, ev_bool, ev_int, ev_str, ev_var, ev_glob, ev_fn, ev_bin, ev_neg, ev_not, ev_cmp, ev_list, ev_tup, ev_dictS, ev_dictI, ev_idx, ev_sl, ev_slFrom, ev_slTo, ev_call, ev_len, ev_listOf, ev_listRange, ev_listRev, ev_isinst, ev_toInt, ev_max, ev_min, ev_sum, ev_nil, ev_cons, ex_assign, ex_setItem, ex_append, ex_clear, ex_expr, ex_ret, ex_nil, bind_ok, ofB_some, cm_Eq, cm_NotEq, cm_Lt, cm_LtE, cm_Gt, cm_GtE, cm_Is, cm_IsNot, cm_In, cm_NotIn, eq_ii, eq_ss, eq_bb, eq_rr, eq_tt, eq_nx, eq_in, no_none, no_int, no_ref, no_tup, ist_ii, ist_ib, ist_bb, ist_tt, ist_ss, V.bool.injEq, F.ret.injEq, reduceCtorEq, and_true, true_and, false_and, and_false, or_false, false_or, exists_eq_left', decide_eq_true_eq, decide_eq_false_iff_not, exists_false, exists_const, Option.some.injEq, Bool.not_eq_true', Bool.not_eq_false', Bool.true_eq_false, Bool.false_eq_true, beq_iff_eq, beq_eq_false_iff_ne, ne_eq, not_true_eq_false, not_false_eq_true, Option.map_some, Bool.not_true, Bool.not_false, beq_self_eq_true, List.map_cons, List.map_nil, List.replicate_succ, List.replicate_zero, List.cons_append, List.nil_append, List.getElem?_cons_zero, List.getElem?_cons_succ, List.set_cons_zero, List.set_cons_succ, Nat.reduceSub, Nat.reduceAdd, List.length_cons, List.length_nil, Nat.zero_add, Nat.reduceLeDiff, if_true, if_false]; rw [len_map (at_app hj)]
  refine ok_for_range (n := rows.length) hlen (by rw [sizeMax_eq]; omega) (fun i ρ' τ => SendInv σ rows (lettersOf (rows.take i)) τ ∧ ∃ o, ρ' = [some (V.ref j), some (V.ref σ.length), o])
    ⟨⟨List.prefix_append _ _, [], at_end, rfl, fun k l h => by simp [lettersOf, lettersFrom] at h, fun a h => by simp at h, .nil⟩, _, rfl⟩ ?_ ?_
  · rintro i ρ' τ hi ⟨⟨hpre, as, hjf, hal, hat, hab, hnd⟩, o, rfl⟩
    have hri : rows[i]? = some rows[i] := List.getElem?_eq_getElem hi
    have hrow := hG i _ hri
    have hst := letters_take hri
    have hll := letters_len (rows.take i)
    have hll2 : (rows.take i).length ≤ i := by simp; omega
    generalize rows[i] = r at *
    have hjt := at_pre hj hpre
    have hlt := at_lt hjf
    have hjl := at_lt hj
    have hrd := idx_map (ns := ns) hjt hri
    cases r with
    | note h =>
      simp only [rv] at hrd
      simp only [B.L_letters_by_8606_s1, Ok_seq, Then_next, Then_ret, Turn_next, Turn_ret, Back_next, Back_ret, Ok_ite, Ok_and, Ok_or, Ok_cmp2, Ok_bind, Ok_ok, ev_none, ev_bool, ev_int, ev_str, ev_var, ev_glob, ev_fn, ev_bin, ev_neg, ev_not, ev_cmp, ev_list, ev_tup, ev_dictS, ev_dictI, ev_idx, ev_sl, ev_slFrom, ev_slTo, ev_call, ev_len, ev_listOf, ev_listRange, ev_listRev, ev_isinst, ev_toInt, ev_max, ev_min, ev_sum, ev_nil, ev_cons, ex_assign, ex_setItem, ex_append, ex_clear, ex_expr, ex_ret, ex_nil, bind_ok, ofB_some, cm_Eq, cm_NotEq, cm_Lt, cm_LtE, cm_Gt, cm_GtE, cm_Is, cm_IsNot, cm_In, cm_NotIn, eq_ii, eq_ss, eq_bb, eq_rr, eq_tt, eq_nx, eq_in, no_none, no_int, no_ref, no_tup, ist_ii, ist_ib, ist_bb, ist_tt, ist_ss, V.bool.injEq, F.ret.injEq, reduceCtorEq, and_true, true_and, false_and, and_false, or_false, false_or, exists_eq_left', decide_eq_true_eq, decide_eq_false_iff_not, exists_false, exists_const, Option.some.injEq, Bool.not_eq_true', Bool.not_eq_false', Bool.true_eq_false, Bool.false_eq_true, beq_iff_eq, beq_eq_false_iff_ne, ne_eq, not_true_eq_false, not_false_eq_true, Option.map_some, Bool.not_true, Bool.not_false, beq_self_eq_true, List.map_cons, List.map_nil, List.replicate_succ, List.replicate_zero, List.cons_append, List.nil_append, List.getElem?_cons_zero, List.getElem?_cons_succ, List.set_cons_zero, List.set_cons_succ, Nat.reduceSub, Nat.reduceAdd, List.length_cons, List.length_nil, Nat.zero_add, Nat.reduceLeDiff, if_true, if_false, rv, ov, lv, idx_tup0, idx_tup1, idx_tup2, idx_tup3, ne_ns, ne_ng, ne_sn, ne_sg, ne_gn, ne_gs, len_tup2, len_tup3, len_tup4, hrd]
      exact ⟨⟨hpre, as, hjf, by rw [hst]; exact hal, by rw [hst]; exact hat, hab, hnd⟩, _, rfl⟩
    | send a b =>
      simp only [rv] at hrd
      have hrd1 := idx_map (ns := ns) (at_app (τ := [Cell.list [.int (a : Int), .int (b : Int), .int (i : Int), .int (rows.length : Int)]]) hjt) hri
      have hjf1 := at_app (τ := [Cell.list [.int (a : Int), .int (b : Int), .int (i : Int), .int (rows.length : Int)]]) hjf
      have e1 := app_list (v := V.ref τ.length) hjf1 (by rw [List.length_map, sizeMax_eq]; omega)
      simp only [rv] at hrd1
      have hfr : ∀ (c : Cell), idxV ns (V.ref j) (V.int (i : Int)) ((τ ++ [Cell.list [.int (a : Int), .int (b : Int), .int (i : Int), .int (rows.length : Int)]]).set σ.length c) = .ok (rv (.send a b)) _ := fun c => idx_map (at_set_ne (at_app hjt) (by omega)) hri
      simp only [rv] at hfr
      simp only [B.L_letters_by_8606_s1, Ok_seq, Then_next, Then_ret, Turn_next, Turn_ret, Back_next, Back_ret, Ok_ite, Ok_and, Ok_or, Ok_cmp2, Ok_bind, Ok_ok, ev_none, ev_bool, ev_int, ev_str, ev_var, ev_glob, ev_fn, ev_bin, ev_neg, ev_not, ev_cmp, ev_list, ev_tup, ev_dictS, ev_dictI, ev_idx, ev_sl, ev_slFrom, ev_slTo, ev_call, ev_len, ev_listOf, ev_listRange, ev_listRev, ev_isinst, ev_toInt, ev_max, ev_min, ev_sum, ev_nil, ev_cons, ex_assign, ex_setItem, ex_append, ex_clear, ex_expr, ex_ret, ex_nil, bind_ok, ofB_some, cm_Eq, cm_NotEq, cm_Lt, cm_LtE, cm_Gt, cm_GtE, cm_Is, cm_IsNot, cm_In, cm_NotIn, eq_ii, eq_ss, eq_bb, eq_rr, eq_tt, eq_nx, eq_in, no_none, no_int, no_ref, no_tup, ist_ii, ist_ib, ist_bb, ist_tt, ist_ss, V.bool.injEq, F.ret.injEq, reduceCtorEq, and_true, true_and, false_and, and_false, or_false, false_or, exists_eq_left', decide_eq_true_eq, decide_eq_false_iff_not, exists_false, exists_const, Option.some.injEq, Bool.not_eq_true', Bool.not_eq_false', Bool.true_eq_false, Bool.false_eq_true, beq_iff_eq, beq_eq_false_iff_ne, ne_eq, not_true_eq_false, not_false_eq_true, Option.map_some, Bool.not_true, Bool.not_false, beq_self_eq_true, List.map_cons, List.map_nil, List.replicate_succ, List.replicate_zero, List.cons_append, List.nil_append, List.getElem?_cons_zero, List.getElem?_cons_succ, List.set_cons_zero, List.set_cons_succ, Nat.reduceSub, Nat.reduceAdd, List.length_cons, List.length_nil, Nat.zero_add, Nat.reduceLeDiff, if_true, if_false, rv, ov, lv, idx_tup0, idx_tup1, idx_tup2, idx_tup3, ne_ns, ne_ng, ne_sn, ne_sg, ne_gn, ne_gs, len_tup2, len_tup3, len_tup4, hrd, isL_list hjf, len_map hjt, Ok_newL, newL, sizeMax_eq, e1, hrd1, hfr]
      refine ⟨⟨pre_set (pre_app hpre) (Nat.le_refl _), as ++ [τ.length], ?_, ?_, ?_, ?_, ?_⟩, _, rfl⟩
      · rw [at_set hjf1]; simp
      · rw [hst]; simp [stepL, hal]
      · intro k l hl
        rw [hst] at hl
        simp only [stepL] at hl
        by_cases hk : k < (lettersOf (rows.take i)).length
        · rw [List.getElem?_append_left hk] at hl
          obtain ⟨x, hx, hx2⟩ := hat k l hl
          have := hab x (List.mem_of_getElem? hx)
          exact ⟨x, by rw [List.getElem?_append_left (by omega)]; exact hx, at_set_ne (at_app hx2) (by omega)⟩
        · have hk2 := (List.getElem?_eq_some_iff.mp hl).1
          simp at hk2
          have : k = (lettersOf (rows.take i)).length := by omega
          subst this
          simp at hl
          subst hl
          refine ⟨τ.length, by rw [← hal]; simp, ?_⟩
          rw [List.getElem?_set_ne (by omega)]
          exact at_end
      · intro x hx
        rcases List.mem_append.mp hx with h | h
        · exact hab x h
        · simp at h; omega
      · rw [List.nodup_append]
        refine ⟨hnd, by simp, fun x hx y hy => ?_⟩
        simp at hy
        subst hy
        obtain ⟨k, hk, he⟩ := List.getElem_of_mem hx
        have hkl : k < (lettersOf (rows.take i)).length := by omega
        obtain ⟨x', hx', hx2⟩ := hat k _ (List.getElem?_eq_getElem hkl)
        rw [List.getElem?_eq_getElem hk, he] at hx'
        cases hx'
        have := at_lt hx2
        omega
    | got h m =>
      obtain ⟨hh', l, hl, hto, hg⟩ := hrow
      obtain ⟨x, hx, hx2⟩ := hat m l hl
      simp only [rv] at hrd
      have e0 := idx_map (ns := ns) (f := V.ref) hjf hx
      have e1 : setV (V.ref x) (.int 3) (.int (i : Int)) τ = _ := set_list (k := 3) (v := V.int (i : Int)) hx2 (by simp [lvm])
      simp only [B.L_letters_by_8606_s1, Ok_seq, Then_next, Then_ret, Turn_next, Turn_ret, Back_next, Back_ret, Ok_ite, Ok_and, Ok_or, Ok_cmp2, Ok_bind, Ok_ok, ev_none, ev_bool, ev_int, ev_str, ev_var, ev_glob, ev_fn, ev_bin, ev_neg, ev_not, ev_cmp, ev_list, ev_tup, ev_dictS, ev_dictI, ev_idx, ev_sl, ev_slFrom, ev_slTo, ev_call, ev_len, ev_listOf, ev_listRange, ev_listRev, ev_isinst, ev_toInt, ev_max, ev_min, ev_sum, ev_nil, ev_cons, ex_assign, ex_setItem, ex_append, ex_clear, ex_expr, ex_ret, ex_nil, bind_ok, ofB_some, cm_Eq, cm_NotEq, cm_Lt, cm_LtE, cm_Gt, cm_GtE, cm_Is, cm_IsNot, cm_In, cm_NotIn, eq_ii, eq_ss, eq_bb, eq_rr, eq_tt, eq_nx, eq_in, no_none, no_int, no_ref, no_tup, ist_ii, ist_ib, ist_bb, ist_tt, ist_ss, V.bool.injEq, F.ret.injEq, reduceCtorEq, and_true, true_and, false_and, and_false, or_false, false_or, exists_eq_left', decide_eq_true_eq, decide_eq_false_iff_not, exists_false, exists_const, Option.some.injEq, Bool.not_eq_true', Bool.not_eq_false', Bool.true_eq_false, Bool.false_eq_true, beq_iff_eq, beq_eq_false_iff_ne, ne_eq, not_true_eq_false, not_false_eq_true, Option.map_some, Bool.not_true, Bool.not_false, beq_self_eq_true, List.map_cons, List.map_nil, List.replicate_succ, List.replicate_zero, List.cons_append, List.nil_append, List.getElem?_cons_zero, List.getElem?_cons_succ, List.set_cons_zero, List.set_cons_succ, Nat.reduceSub, Nat.reduceAdd, List.length_cons, List.length_nil, Nat.zero_add, Nat.reduceLeDiff, if_true, if_false, rv, ov, lv, idx_tup0, idx_tup1, idx_tup2, idx_tup3, ne_ns, ne_ng, ne_sn, ne_sg, ne_gn, ne_gs, len_tup2, len_tup3, len_tup4, hrd, e0, e1]
      have hxl := hab x (List.mem_of_getElem? hx)
      refine ⟨⟨pre_set hpre (by omega), as, ?_, ?_, ?_, hab, hnd⟩, _, rfl⟩
      · exact at_set_ne hjf (by omega)
      · rw [hst]; simp [stepL, hal]
      · intro k l' hl'
        rw [hst] at hl'
        simp only [stepL] at hl'
        rw [List.getElem?_modify] at hl'
        by_cases hk : m = k
        · subst hk
          rw [hl] at hl'
          simp at hl'
          subst hl'
          refine ⟨x, hx, ?_⟩
          rw [at_set hx2]
          simp [lvm, gotAt, ov]
        · simp [hk] at hl'
          obtain ⟨y, hy, hy2⟩ := hat k l' hl'
          refine ⟨y, hy, at_set_ne hy2 ?_⟩
          intro e
          subst e
          exact hk (nodup_idx hnd hx hy)
  · rintro ρ' τ ⟨hI, o, rfl⟩
    rw [List.take_length] at hI
    simp only [Ok_seq, Then_next, Then_ret, Turn_next, Turn_ret, Back_next, Back_ret, Ok_ite, Ok_and, Ok_or, Ok_cmp2, Ok_bind, Ok_ok, ev_none, ev_bool, ev_int, ev_str, ev_var, ev_glob, ev_fn, ev_bin, ev_neg, ev_not, ev_cmp, ev_list, ev_tup, ev_dictS, ev_dictI, ev_idx, ev_sl, ev_slFrom, ev_slTo, ev_call, ev_len, ev_listOf, ev_listRange, ev_listRev, ev_isinst, ev_toInt, ev_max, ev_min, ev_sum, ev_nil, ev_cons, ex_assign, ex_setItem, ex_append, ex_clear, ex_expr, ex_ret, ex_nil, bind_ok, ofB_some, cm_Eq, cm_NotEq, cm_Lt, cm_LtE, cm_Gt, cm_GtE, cm_Is, cm_IsNot, cm_In, cm_NotIn, eq_ii, eq_ss, eq_bb, eq_rr, eq_tt, eq_nx, eq_in, no_none, no_int, no_ref, no_tup, ist_ii, ist_ib, ist_bb, ist_tt, ist_ss, V.bool.injEq, F.ret.injEq, reduceCtorEq, and_true, true_and, false_and, and_false, or_false, false_or, exists_eq_left', decide_eq_true_eq, decide_eq_false_iff_not, exists_false, exists_const, Option.some.injEq, Bool.not_eq_true', Bool.not_eq_false', Bool.true_eq_false, Bool.false_eq_true, beq_iff_eq, beq_eq_false_iff_ne, ne_eq, not_true_eq_false, not_false_eq_true, Option.map_some, Bool.not_true, Bool.not_false, beq_self_eq_true, List.map_cons, List.map_nil, List.replicate_succ, List.replicate_zero, List.cons_append, List.nil_append, List.getElem?_cons_zero, List.getElem?_cons_succ, List.set_cons_zero, List.set_cons_succ, Nat.reduceSub, Nat.reduceAdd, List.length_cons, List.length_nil, Nat.zero_add, Nat.reduceLeDiff, if_true, if_false]
    exact hI
end
end Mine

namespace Mine
open PySem

/-- a line behind some steps -/
noncomputable def after (f0 : Nat → Nat) (ss : List (Nat × Nat × Nat)) : Nat → Nat := ss.foldl (fun f s => upd f s.2.1 s.2.2) f0
theorem after_snoc {f0 : Nat → Nat} {ss : List (Nat × Nat × Nat)} {s : Nat × Nat × Nat} : after f0 (ss ++ [s]) = upd (after f0 ss) s.2.1 s.2.2 := by
  unfold after; rw [List.foldl_append]; rfl
theorem Chain.after {rows : List Rw} {f0 f : Nat → Nat} {ss : List (Nat × Nat × Nat)} (h : Chain rows f0 ss f) : f = after f0 ss := by
  induction h with
  | nil => rfl
  | snoc h hs hl hg ih => rw [after_snoc, ← ih]; rfl
theorem Chain.at {rows : List Rw} {f0 f : Nat → Nat} {ss : List (Nat × Nat × Nat)} (h : Chain rows f0 ss f) : ∀ (i : Nat) s, ss[i]? = some s → ∃ l g r, straysOf (lettersOf rows) (far rows (Mine.after f0 (ss.take i))) = s.1 :: r ∧ (lettersOf rows)[s.1]? = some l ∧ l.got = some g ∧ s.2.1 = l.to ∧ s.2.2 = numb (knownOf rows l.to) g := by
  induction h with
  | nil => intro i s h; simp at h
  | snoc h hs hl hg ih =>
    rename_i ss f k r l g
    intro i s hi
    by_cases c : i < ss.length
    · rw [List.getElem?_append_left c] at hi
      rw [List.take_append_of_le_length (Nat.le_of_lt c)]
      exact ih i s hi
    · have hlt := (List.getElem?_eq_some_iff.mp hi).1
      rw [List.length_append, List.length_singleton] at hlt
      have : i = ss.length := Nat.le_antisymm (Nat.le_of_lt_succ hlt) (Nat.le_of_not_lt c)
      subst this
      rw [List.getElem?_append_right (Nat.le_refl _), Nat.sub_self] at hi
      cases hi
      rw [List.take_left, ← h.after]
      exact ⟨l, g, r, hs, hl, hg, rfl, rfl⟩

section
variable {ns : List Int} {G : List Int} {P : List Fn} {C : Nat → List V → Store → R V} {N : Nat} {σ τ : Store} {ρ : Loc}

/-- the fallen hands stand at v -/
noncomputable def Fell (σ : Store) (H : Nat) (v : V) (τ : Store) : Prop := ∃ (j : Nat) (fs : List Nat), v = .ref j ∧ σ <+: τ ∧ τ[j]? = some (.list (fs.map natV)) ∧ (∀ x ∈ fs, x < H) ∧ fs.length ≤ 41
theorem fallen8_ok {d k H : Nat} {c : Int} (hp : P[k]? = some B.L_fallen_by_f2a7) (h40 : H ≤ 40) :
    Ok (callF ns G P N (d + 1) k [.int c, .int (H : Int)] σ) (Fell σ H) := by
  have szH : H ≤ sizeMax := Nat.le_trans h40 (by decide)
  refine ok_call hp rfl ?_
  have key : evE ns G (callF ns G P N d) [some (V.int c), some (V.int (H : Int)), none, none] (.compIf (.var 3) 3 (.range (.var 1)) (.cmp .Eq (.bin .Mod (.bin .Mod (.bin .Mult (.bin .Add (.var 0) (.bin .Mult (.int 7919) (.var 3))) (.int 48271)) (.int 2147483647)) (.int 3)) (.int 0))) σ = .ok (.ref σ.length) (σ ++ [.list (((List.range H).filter fun (h : Nat) => (((c + 7919 * (h : Int)) * 48271).fmod 2147483647).fmod 3 == 0).map natV)]) := by
    refine ev_compIf_range (n := H) (by simp only [Ok_seq, Then_next, Then_ret, Turn_next, Turn_ret, Back_next, Back_ret, Ok_ite, Ok_and, Ok_or, Ok_cmp2, Ok_bind, Ok_ok, ev_none, ev_bool, ev_int, ev_str, ev_var, ev_glob, ev_fn, ev_bin, ev_neg, ev_not, ev_cmp, ev_list, ev_tup, ev_dictS, ev_dictI, ev_idx, ev_sl, ev_slFrom, ev_slTo, ev_call, ev_len, ev_listOf, ev_listRange, ev_listRev, ev_isinst, ev_toInt, ev_max, ev_min, ev_sum, ev_nil, ev_cons, ex_assign, ex_setItem, ex_append, ex_clear, ex_expr, ex_ret, ex_nil, bind_ok, ofB_some, cm_Eq, cm_NotEq, cm_Lt, cm_LtE, cm_Gt, cm_GtE, cm_Is, cm_IsNot, cm_In, cm_NotIn, eq_ii, eq_ss, eq_bb, eq_rr, eq_tt, eq_nx, eq_in, no_none, no_int, no_ref, no_tup, ist_ii, ist_ib, ist_bb, ist_tt, ist_ss, V.bool.injEq, F.ret.injEq, reduceCtorEq, and_true, true_and, false_and, and_false, or_false, false_or, exists_eq_left', decide_eq_true_eq, decide_eq_false_iff_not, exists_false, exists_const, Option.some.injEq, Bool.not_eq_true', Bool.not_eq_false', Bool.true_eq_false, Bool.false_eq_true, beq_iff_eq, beq_eq_false_iff_ne, ne_eq, not_true_eq_false, not_false_eq_true, Option.map_some, Bool.not_true, Bool.not_false, beq_self_eq_true, List.map_cons, List.map_nil, List.replicate_succ, List.replicate_zero, List.cons_append, List.nil_append, List.getElem?_cons_zero, List.getElem?_cons_succ, List.set_cons_zero, List.set_cons_succ, Nat.reduceSub, Nat.reduceAdd, List.length_cons, List.length_nil, Nat.zero_add, Nat.reduceLeDiff, if_true, if_false]) szH (fun i hi => ?_) (fun i hi _ => ?_)
    · simp (disch := omega) only [Ok_seq, Then_next, Then_ret, Turn_next, Turn_ret, Back_next, Back_ret, Ok_ite, Ok_and, Ok_or, Ok_cmp2, Ok_bind, Ok_ok, ev_none, ev_bool, ev_int, ev_str, ev_var, ev_glob, ev_fn, ev_bin, ev_neg, ev_not, ev_cmp, ev_list, ev_tup, ev_dictS, ev_dictI, ev_idx, ev_sl, ev_slFrom, ev_slTo, ev_call, ev_len, ev_listOf, ev_listRange, ev_listRev, ev_isinst, ev_toInt, ev_max, ev_min, ev_sum, ev_nil, ev_cons, ex_assign, ex_setItem, ex_append, ex_clear, ex_expr, ex_ret, ex_nil, bind_ok, ofB_some, cm_Eq, cm_NotEq, cm_Lt, cm_LtE, cm_Gt, cm_GtE, cm_Is, cm_IsNot, cm_In, cm_NotIn, eq_ii, eq_ss, eq_bb, eq_rr, eq_tt, eq_nx, eq_in, no_none, no_int, no_ref, no_tup, ist_ii, ist_ib, ist_bb, ist_tt, ist_ss, V.bool.injEq, F.ret.injEq, reduceCtorEq, and_true, true_and, false_and, and_false, or_false, false_or, exists_eq_left', decide_eq_true_eq, decide_eq_false_iff_not, exists_false, exists_const, Option.some.injEq, Bool.not_eq_true', Bool.not_eq_false', Bool.true_eq_false, Bool.false_eq_true, beq_iff_eq, beq_eq_false_iff_ne, ne_eq, not_true_eq_false, not_false_eq_true, Option.map_some, Bool.not_true, Bool.not_false, beq_self_eq_true, List.map_cons, List.map_nil, List.replicate_succ, List.replicate_zero, List.cons_append, List.nil_append, List.getElem?_cons_zero, List.getElem?_cons_succ, List.set_cons_zero, List.set_cons_succ, Nat.reduceSub, Nat.reduceAdd, List.length_cons, List.length_nil, Nat.zero_add, Nat.reduceLeDiff, if_true, if_false, bin_add, bin_mulL, bin_mulR, bin_mod]
    · simp only [Ok_seq, Then_next, Then_ret, Turn_next, Turn_ret, Back_next, Back_ret, Ok_ite, Ok_and, Ok_or, Ok_cmp2, Ok_bind, Ok_ok, ev_none, ev_bool, ev_int, ev_str, ev_var, ev_glob, ev_fn, ev_bin, ev_neg, ev_not, ev_cmp, ev_list, ev_tup, ev_dictS, ev_dictI, ev_idx, ev_sl, ev_slFrom, ev_slTo, ev_call, ev_len, ev_listOf, ev_listRange, ev_listRev, ev_isinst, ev_toInt, ev_max, ev_min, ev_sum, ev_nil, ev_cons, ex_assign, ex_setItem, ex_append, ex_clear, ex_expr, ex_ret, ex_nil, bind_ok, ofB_some, cm_Eq, cm_NotEq, cm_Lt, cm_LtE, cm_Gt, cm_GtE, cm_Is, cm_IsNot, cm_In, cm_NotIn, eq_ii, eq_ss, eq_bb, eq_rr, eq_tt, eq_nx, eq_in, no_none, no_int, no_ref, no_tup, ist_ii, ist_ib, ist_bb, ist_tt, ist_ss, V.bool.injEq, F.ret.injEq, reduceCtorEq, and_true, true_and, false_and, and_false, or_false, false_or, exists_eq_left', decide_eq_true_eq, decide_eq_false_iff_not, exists_false, exists_const, Option.some.injEq, Bool.not_eq_true', Bool.not_eq_false', Bool.true_eq_false, Bool.false_eq_true, beq_iff_eq, beq_eq_false_iff_ne, ne_eq, not_true_eq_false, not_false_eq_true, Option.map_some, Bool.not_true, Bool.not_false, beq_self_eq_true, List.map_cons, List.map_nil, List.replicate_succ, List.replicate_zero, List.cons_append, List.nil_append, List.getElem?_cons_zero, List.getElem?_cons_succ, List.set_cons_zero, List.set_cons_succ, Nat.reduceSub, Nat.reduceAdd, List.length_cons, List.length_nil, Nat.zero_add, Nat.reduceLeDiff, if_true, if_false, natV]
  refine st_assign key ?_
  have I0 : ∃ fs : List Nat, (((List.range H).filter fun (h : Nat) => (((c + 7919 * (h : Int)) * 48271).fmod 2147483647).fmod 3 == 0)) = fs ∧ (∀ x ∈ fs, x < H) ∧ fs.length ≤ H := ⟨_, rfl, fun x hx => List.mem_range.mp (List.mem_filter.mp hx).1, by have := List.length_filter_le (fun (h : Nat) => (((c + 7919 * (h : Int)) * 48271).fmod 2147483647).fmod 3 == 0) (List.range H); rwa [List.length_range] at this⟩
  obtain ⟨fs, e, hfs, hfl⟩ := I0
  rw [e]
  clear e key
  -- what is known between the rows
  have go4 : ∀ (j : Nat) (τ : Store) (fs : List Nat), σ <+: τ → τ[j]? = some (.list (fs.map natV)) → (∀ x ∈ fs, x < H) → fs.length ≤ H →
      Ok (exSs ns G (callF ns G P N d) N (.cons (.ite (.cmp .Eq (.bin .Mod (.bin .FloorDiv (.var 0) (.int 14)) (.int 5)) (.int 1)) (.cons (.assign 2 (.bin .Add (.var 2) (.slTo (.var 2) (.int 1)))) .nil) .nil) (.cons (.ret (.var 2)) .nil)) [some (V.int c), some (V.int (H : Int)), some (V.ref j), none] τ) (Back (Fell σ H)) := fun j τ fs hpre hj hfs hfl => by
    by_cases c4 : (c.fdiv 14).fmod 5 = 1
    · refine st_then (σ' := τ) (by simp (disch := omega) only [Ok_seq, Then_next, Then_ret, Turn_next, Turn_ret, Back_next, Back_ret, Ok_ite, Ok_and, Ok_or, Ok_cmp2, Ok_bind, Ok_ok, ev_none, ev_bool, ev_int, ev_str, ev_var, ev_glob, ev_fn, ev_bin, ev_neg, ev_not, ev_cmp, ev_list, ev_tup, ev_dictS, ev_dictI, ev_idx, ev_sl, ev_slFrom, ev_slTo, ev_call, ev_len, ev_listOf, ev_listRange, ev_listRev, ev_isinst, ev_toInt, ev_max, ev_min, ev_sum, ev_nil, ev_cons, ex_assign, ex_setItem, ex_append, ex_clear, ex_expr, ex_ret, ex_nil, bind_ok, ofB_some, cm_Eq, cm_NotEq, cm_Lt, cm_LtE, cm_Gt, cm_GtE, cm_Is, cm_IsNot, cm_In, cm_NotIn, eq_ii, eq_ss, eq_bb, eq_rr, eq_tt, eq_nx, eq_in, no_none, no_int, no_ref, no_tup, ist_ii, ist_ib, ist_bb, ist_tt, ist_ss, V.bool.injEq, F.ret.injEq, reduceCtorEq, and_true, true_and, false_and, and_false, or_false, false_or, exists_eq_left', decide_eq_true_eq, decide_eq_false_iff_not, exists_false, exists_const, Option.some.injEq, Bool.not_eq_true', Bool.not_eq_false', Bool.true_eq_false, Bool.false_eq_true, beq_iff_eq, beq_eq_false_iff_ne, ne_eq, not_true_eq_false, not_false_eq_true, Option.map_some, Bool.not_true, Bool.not_false, beq_self_eq_true, List.map_cons, List.map_nil, List.replicate_succ, List.replicate_zero, List.cons_append, List.nil_append, List.getElem?_cons_zero, List.getElem?_cons_succ, List.set_cons_zero, List.set_cons_succ, Nat.reduceSub, Nat.reduceAdd, List.length_cons, List.length_nil, Nat.zero_add, Nat.reduceLeDiff, if_true, if_false, bin_mod, bin_fdiv, c4]) ?_
      have e1 : slV ns (.ref j) Option.none (some 1) τ = newL ((fs.take 1).map natV) τ := by
        simp only [slV, hj]
        rw [if_pos ⟨by decide, by decide⟩]
        simp only [cut, Option.getD_none]
        rw [List.map_take]; rfl
      have l1 : (fs.take 1).length ≤ 1 := by rw [List.length_take]; exact Nat.min_le_left _ _
      have e2 : evE ns G (callF ns G P N d) [some (V.int c), some (V.int (H : Int)), some (V.ref j), none] (.bin .Add (.var 2) (.slTo (.var 2) (.int 1))) τ = .ok (.ref (τ.length + 1)) (τ ++ [.list ((fs.take 1).map natV)] ++ [.list ((fs ++ fs.take 1).map natV)]) := by
        rw [← Ok_R]
        simp only [Ok_seq, Then_next, Then_ret, Turn_next, Turn_ret, Back_next, Back_ret, Ok_ite, Ok_and, Ok_or, Ok_cmp2, Ok_bind, Ok_ok, ev_none, ev_bool, ev_int, ev_str, ev_var, ev_glob, ev_fn, ev_bin, ev_neg, ev_not, ev_cmp, ev_list, ev_tup, ev_dictS, ev_dictI, ev_idx, ev_sl, ev_slFrom, ev_slTo, ev_call, ev_len, ev_listOf, ev_listRange, ev_listRev, ev_isinst, ev_toInt, ev_max, ev_min, ev_sum, ev_nil, ev_cons, ex_assign, ex_setItem, ex_append, ex_clear, ex_expr, ex_ret, ex_nil, bind_ok, ofB_some, cm_Eq, cm_NotEq, cm_Lt, cm_LtE, cm_Gt, cm_GtE, cm_Is, cm_IsNot, cm_In, cm_NotIn, eq_ii, eq_ss, eq_bb, eq_rr, eq_tt, eq_nx, eq_in, no_none, no_int, no_ref, no_tup, ist_ii, ist_ib, ist_bb, ist_tt, ist_ss, V.bool.injEq, F.ret.injEq, reduceCtorEq, and_true, true_and, false_and, and_false, or_false, false_or, exists_eq_left', decide_eq_true_eq, decide_eq_false_iff_not, exists_false, exists_const, Option.some.injEq, Bool.not_eq_true', Bool.not_eq_false', Bool.true_eq_false, Bool.false_eq_true, beq_iff_eq, beq_eq_false_iff_ne, ne_eq, not_true_eq_false, not_false_eq_true, Option.map_some, Bool.not_true, Bool.not_false, beq_self_eq_true, List.map_cons, List.map_nil, List.replicate_succ, List.replicate_zero, List.cons_append, List.nil_append, List.getElem?_cons_zero, List.getElem?_cons_succ, List.set_cons_zero, List.set_cons_succ, Nat.reduceSub, Nat.reduceAdd, List.length_cons, List.length_nil, Nat.zero_add, Nat.reduceLeDiff, if_true, if_false, e1, Ok_newL]
        refine ⟨by rw [List.length_map]; exact Nat.le_trans l1 (by decide), ?_⟩
        refine bin_app (at_app hj) at_end (by rw [List.length_map, List.length_map]; exact Nat.le_trans (Nat.add_le_add (Nat.le_trans hfl h40) l1) (by decide)) ?_
        rw [natsum, List.length_append]; exact ⟨rfl, rfl⟩
      refine st_assign e2 (st_nil (st_ret (v := .ref (τ.length + 1)) rfl ?_))
      refine ⟨τ.length + 1, fs ++ fs.take 1, rfl, pre_app (pre_app hpre), ?_, fun x hx => ?_, ?_⟩
      · have := at_end (σ := τ ++ [Cell.list ((fs.take 1).map natV)]) (c := .list ((fs ++ fs.take 1).map natV))
        rwa [List.length_append] at this
      · rcases List.mem_append.mp hx with h | h
        · exact hfs x h
        · exact hfs x (List.mem_of_mem_take h)
      · rw [List.length_append]; exact Nat.add_le_add (Nat.le_trans hfl h40) l1
    · refine st_skip (σ' := τ) (by simp (disch := omega) only [Ok_seq, Then_next, Then_ret, Turn_next, Turn_ret, Back_next, Back_ret, Ok_ite, Ok_and, Ok_or, Ok_cmp2, Ok_bind, Ok_ok, ev_none, ev_bool, ev_int, ev_str, ev_var, ev_glob, ev_fn, ev_bin, ev_neg, ev_not, ev_cmp, ev_list, ev_tup, ev_dictS, ev_dictI, ev_idx, ev_sl, ev_slFrom, ev_slTo, ev_call, ev_len, ev_listOf, ev_listRange, ev_listRev, ev_isinst, ev_toInt, ev_max, ev_min, ev_sum, ev_nil, ev_cons, ex_assign, ex_setItem, ex_append, ex_clear, ex_expr, ex_ret, ex_nil, bind_ok, ofB_some, cm_Eq, cm_NotEq, cm_Lt, cm_LtE, cm_Gt, cm_GtE, cm_Is, cm_IsNot, cm_In, cm_NotIn, eq_ii, eq_ss, eq_bb, eq_rr, eq_tt, eq_nx, eq_in, no_none, no_int, no_ref, no_tup, ist_ii, ist_ib, ist_bb, ist_tt, ist_ss, V.bool.injEq, F.ret.injEq, reduceCtorEq, and_true, true_and, false_and, and_false, or_false, false_or, exists_eq_left', decide_eq_true_eq, decide_eq_false_iff_not, exists_false, exists_const, Option.some.injEq, Bool.not_eq_true', Bool.not_eq_false', Bool.true_eq_false, Bool.false_eq_true, beq_iff_eq, beq_eq_false_iff_ne, ne_eq, not_true_eq_false, not_false_eq_true, Option.map_some, Bool.not_true, Bool.not_false, beq_self_eq_true, List.map_cons, List.map_nil, List.replicate_succ, List.replicate_zero, List.cons_append, List.nil_append, List.getElem?_cons_zero, List.getElem?_cons_succ, List.set_cons_zero, List.set_cons_succ, Nat.reduceSub, Nat.reduceAdd, List.length_cons, List.length_nil, Nat.zero_add, Nat.reduceLeDiff, if_true, if_false, bin_mod, bin_fdiv]; rw [beq_eq_false_iff_ne.mpr c4]) (st_ret (v := .ref j) rfl ?_)
      exact ⟨j, fs, rfl, hpre, hj, hfs, Nat.le_trans hfl (Nat.le_succ_of_le h40)⟩
  have go3 : ∀ (j : Nat) (τ : Store) (fs : List Nat), σ <+: τ → τ[j]? = some (.list (fs.map natV)) → (∀ x ∈ fs, x < H) → fs.length ≤ H →
      Ok (exSs ns G (callF ns G P N d) N (.cons (.ite (.cmp .Eq (.bin .Mod (.bin .FloorDiv (.var 0) (.int 7)) (.int 2)) (.int 1)) (.cons (.assign 2 (.listRev (.var 2))) .nil) .nil) (.cons (.ite (.cmp .Eq (.bin .Mod (.bin .FloorDiv (.var 0) (.int 14)) (.int 5)) (.int 1)) (.cons (.assign 2 (.bin .Add (.var 2) (.slTo (.var 2) (.int 1)))) .nil) .nil) (.cons (.ret (.var 2)) .nil))) [some (V.int c), some (V.int (H : Int)), some (V.ref j), none] τ) (Back (Fell σ H)) := fun j τ fs hpre hj hfs hfl => by
    by_cases c3 : (c.fdiv 7).fmod 2 = 1
    · refine st_then (σ' := τ) (by simp (disch := omega) only [Ok_seq, Then_next, Then_ret, Turn_next, Turn_ret, Back_next, Back_ret, Ok_ite, Ok_and, Ok_or, Ok_cmp2, Ok_bind, Ok_ok, ev_none, ev_bool, ev_int, ev_str, ev_var, ev_glob, ev_fn, ev_bin, ev_neg, ev_not, ev_cmp, ev_list, ev_tup, ev_dictS, ev_dictI, ev_idx, ev_sl, ev_slFrom, ev_slTo, ev_call, ev_len, ev_listOf, ev_listRange, ev_listRev, ev_isinst, ev_toInt, ev_max, ev_min, ev_sum, ev_nil, ev_cons, ex_assign, ex_setItem, ex_append, ex_clear, ex_expr, ex_ret, ex_nil, bind_ok, ofB_some, cm_Eq, cm_NotEq, cm_Lt, cm_LtE, cm_Gt, cm_GtE, cm_Is, cm_IsNot, cm_In, cm_NotIn, eq_ii, eq_ss, eq_bb, eq_rr, eq_tt, eq_nx, eq_in, no_none, no_int, no_ref, no_tup, ist_ii, ist_ib, ist_bb, ist_tt, ist_ss, V.bool.injEq, F.ret.injEq, reduceCtorEq, and_true, true_and, false_and, and_false, or_false, false_or, exists_eq_left', decide_eq_true_eq, decide_eq_false_iff_not, exists_false, exists_const, Option.some.injEq, Bool.not_eq_true', Bool.not_eq_false', Bool.true_eq_false, Bool.false_eq_true, beq_iff_eq, beq_eq_false_iff_ne, ne_eq, not_true_eq_false, not_false_eq_true, Option.map_some, Bool.not_true, Bool.not_false, beq_self_eq_true, List.map_cons, List.map_nil, List.replicate_succ, List.replicate_zero, List.cons_append, List.nil_append, List.getElem?_cons_zero, List.getElem?_cons_succ, List.set_cons_zero, List.set_cons_succ, Nat.reduceSub, Nat.reduceAdd, List.length_cons, List.length_nil, Nat.zero_add, Nat.reduceLeDiff, if_true, if_false, bin_mod, bin_fdiv, c3]) ?_
      refine st_assign (v := .ref τ.length) (σ' := τ ++ [.list (fs.reverse.map natV)]) (by rw [← Ok_R]; simp only [Ok_seq, Then_next, Then_ret, Turn_next, Turn_ret, Back_next, Back_ret, Ok_ite, Ok_and, Ok_or, Ok_cmp2, Ok_bind, Ok_ok, ev_none, ev_bool, ev_int, ev_str, ev_var, ev_glob, ev_fn, ev_bin, ev_neg, ev_not, ev_cmp, ev_list, ev_tup, ev_dictS, ev_dictI, ev_idx, ev_sl, ev_slFrom, ev_slTo, ev_call, ev_len, ev_listOf, ev_listRange, ev_listRev, ev_isinst, ev_toInt, ev_max, ev_min, ev_sum, ev_nil, ev_cons, ex_assign, ex_setItem, ex_append, ex_clear, ex_expr, ex_ret, ex_nil, bind_ok, ofB_some, cm_Eq, cm_NotEq, cm_Lt, cm_LtE, cm_Gt, cm_GtE, cm_Is, cm_IsNot, cm_In, cm_NotIn, eq_ii, eq_ss, eq_bb, eq_rr, eq_tt, eq_nx, eq_in, no_none, no_int, no_ref, no_tup, ist_ii, ist_ib, ist_bb, ist_tt, ist_ss, V.bool.injEq, F.ret.injEq, reduceCtorEq, and_true, true_and, false_and, and_false, or_false, false_or, exists_eq_left', decide_eq_true_eq, decide_eq_false_iff_not, exists_false, exists_const, Option.some.injEq, Bool.not_eq_true', Bool.not_eq_false', Bool.true_eq_false, Bool.false_eq_true, beq_iff_eq, beq_eq_false_iff_ne, ne_eq, not_true_eq_false, not_false_eq_true, Option.map_some, Bool.not_true, Bool.not_false, beq_self_eq_true, List.map_cons, List.map_nil, List.replicate_succ, List.replicate_zero, List.cons_append, List.nil_append, List.getElem?_cons_zero, List.getElem?_cons_succ, List.set_cons_zero, List.set_cons_succ, Nat.reduceSub, Nat.reduceAdd, List.length_cons, List.length_nil, Nat.zero_add, Nat.reduceLeDiff, if_true, if_false, hj, Ok_newL, List.length_reverse, List.length_map]; rw [List.map_reverse]; first | exact ⟨Nat.le_trans hfl szH, rfl, rfl⟩ | exact ⟨Nat.le_trans hfl szH, rfl⟩) (st_nil ?_)
      exact go4 _ _ fs.reverse (pre_app hpre) at_end (fun x hx => hfs x (List.mem_reverse.mp hx)) (by rw [List.length_reverse]; exact hfl)
    · exact st_skip (σ' := τ) (by simp (disch := omega) only [Ok_seq, Then_next, Then_ret, Turn_next, Turn_ret, Back_next, Back_ret, Ok_ite, Ok_and, Ok_or, Ok_cmp2, Ok_bind, Ok_ok, ev_none, ev_bool, ev_int, ev_str, ev_var, ev_glob, ev_fn, ev_bin, ev_neg, ev_not, ev_cmp, ev_list, ev_tup, ev_dictS, ev_dictI, ev_idx, ev_sl, ev_slFrom, ev_slTo, ev_call, ev_len, ev_listOf, ev_listRange, ev_listRev, ev_isinst, ev_toInt, ev_max, ev_min, ev_sum, ev_nil, ev_cons, ex_assign, ex_setItem, ex_append, ex_clear, ex_expr, ex_ret, ex_nil, bind_ok, ofB_some, cm_Eq, cm_NotEq, cm_Lt, cm_LtE, cm_Gt, cm_GtE, cm_Is, cm_IsNot, cm_In, cm_NotIn, eq_ii, eq_ss, eq_bb, eq_rr, eq_tt, eq_nx, eq_in, no_none, no_int, no_ref, no_tup, ist_ii, ist_ib, ist_bb, ist_tt, ist_ss, V.bool.injEq, F.ret.injEq, reduceCtorEq, and_true, true_and, false_and, and_false, or_false, false_or, exists_eq_left', decide_eq_true_eq, decide_eq_false_iff_not, exists_false, exists_const, Option.some.injEq, Bool.not_eq_true', Bool.not_eq_false', Bool.true_eq_false, Bool.false_eq_true, beq_iff_eq, beq_eq_false_iff_ne, ne_eq, not_true_eq_false, not_false_eq_true, Option.map_some, Bool.not_true, Bool.not_false, beq_self_eq_true, List.map_cons, List.map_nil, List.replicate_succ, List.replicate_zero, List.cons_append, List.nil_append, List.getElem?_cons_zero, List.getElem?_cons_succ, List.set_cons_zero, List.set_cons_succ, Nat.reduceSub, Nat.reduceAdd, List.length_cons, List.length_nil, Nat.zero_add, Nat.reduceLeDiff, if_true, if_false, bin_mod, bin_fdiv]; rw [beq_eq_false_iff_ne.mpr c3]) (go4 j τ fs hpre hj hfs hfl)
  by_cases c1 : c.fmod 7 = 1
  · refine st_then (by simp (disch := omega) only [Ok_seq, Then_next, Then_ret, Turn_next, Turn_ret, Back_next, Back_ret, Ok_ite, Ok_and, Ok_or, Ok_cmp2, Ok_bind, Ok_ok, ev_none, ev_bool, ev_int, ev_str, ev_var, ev_glob, ev_fn, ev_bin, ev_neg, ev_not, ev_cmp, ev_list, ev_tup, ev_dictS, ev_dictI, ev_idx, ev_sl, ev_slFrom, ev_slTo, ev_call, ev_len, ev_listOf, ev_listRange, ev_listRev, ev_isinst, ev_toInt, ev_max, ev_min, ev_sum, ev_nil, ev_cons, ex_assign, ex_setItem, ex_append, ex_clear, ex_expr, ex_ret, ex_nil, bind_ok, ofB_some, cm_Eq, cm_NotEq, cm_Lt, cm_LtE, cm_Gt, cm_GtE, cm_Is, cm_IsNot, cm_In, cm_NotIn, eq_ii, eq_ss, eq_bb, eq_rr, eq_tt, eq_nx, eq_in, no_none, no_int, no_ref, no_tup, ist_ii, ist_ib, ist_bb, ist_tt, ist_ss, V.bool.injEq, F.ret.injEq, reduceCtorEq, and_true, true_and, false_and, and_false, or_false, false_or, exists_eq_left', decide_eq_true_eq, decide_eq_false_iff_not, exists_false, exists_const, Option.some.injEq, Bool.not_eq_true', Bool.not_eq_false', Bool.true_eq_false, Bool.false_eq_true, beq_iff_eq, beq_eq_false_iff_ne, ne_eq, not_true_eq_false, not_false_eq_true, Option.map_some, Bool.not_true, Bool.not_false, beq_self_eq_true, List.map_cons, List.map_nil, List.replicate_succ, List.replicate_zero, List.cons_append, List.nil_append, List.getElem?_cons_zero, List.getElem?_cons_succ, List.set_cons_zero, List.set_cons_succ, Nat.reduceSub, Nat.reduceAdd, List.length_cons, List.length_nil, Nat.zero_add, Nat.reduceLeDiff, if_true, if_false, bin_mod, c1]; rfl) ?_
    refine st_assign (v := .ref (σ.length + 1)) (σ' := σ ++ [.list (fs.map natV)] ++ [.list ((List.range H).map natV)]) (by
      rw [← Ok_R]
      simp only [Ok_seq, Then_next, Then_ret, Turn_next, Turn_ret, Back_next, Back_ret, Ok_ite, Ok_and, Ok_or, Ok_cmp2, Ok_bind, Ok_ok, ev_none, ev_bool, ev_int, ev_str, ev_var, ev_glob, ev_fn, ev_bin, ev_neg, ev_not, ev_cmp, ev_list, ev_tup, ev_dictS, ev_dictI, ev_idx, ev_sl, ev_slFrom, ev_slTo, ev_call, ev_len, ev_listOf, ev_listRange, ev_listRev, ev_isinst, ev_toInt, ev_max, ev_min, ev_sum, ev_nil, ev_cons, ex_assign, ex_setItem, ex_append, ex_clear, ex_expr, ex_ret, ex_nil, bind_ok, ofB_some, cm_Eq, cm_NotEq, cm_Lt, cm_LtE, cm_Gt, cm_GtE, cm_Is, cm_IsNot, cm_In, cm_NotIn, eq_ii, eq_ss, eq_bb, eq_rr, eq_tt, eq_nx, eq_in, no_none, no_int, no_ref, no_tup, ist_ii, ist_ib, ist_bb, ist_tt, ist_ss, V.bool.injEq, F.ret.injEq, reduceCtorEq, and_true, true_and, false_and, and_false, or_false, false_or, exists_eq_left', decide_eq_true_eq, decide_eq_false_iff_not, exists_false, exists_const, Option.some.injEq, Bool.not_eq_true', Bool.not_eq_false', Bool.true_eq_false, Bool.false_eq_true, beq_iff_eq, beq_eq_false_iff_ne, ne_eq, not_true_eq_false, not_false_eq_true, Option.map_some, Bool.not_true, Bool.not_false, beq_self_eq_true, List.map_cons, List.map_nil, List.replicate_succ, List.replicate_zero, List.cons_append, List.nil_append, List.getElem?_cons_zero, List.getElem?_cons_succ, List.set_cons_zero, List.set_cons_succ, Nat.reduceSub, Nat.reduceAdd, List.length_cons, List.length_nil, Nat.zero_add, Nat.reduceLeDiff, if_true, if_false]
      rw [if_pos ⟨Int.natCast_nonneg _, Int.ofNat_le.mpr szH⟩]
      simp only [Ok_newL, Int.toNat_natCast, rangeV_eq, List.length_map, List.length_range, List.length_append, List.length_singleton]
      exact ⟨szH, trivial, trivial⟩) (st_nil ?_)
    refine st_skip (by simp (disch := omega) only [Ok_seq, Then_next, Then_ret, Turn_next, Turn_ret, Back_next, Back_ret, Ok_ite, Ok_and, Ok_or, Ok_cmp2, Ok_bind, Ok_ok, ev_none, ev_bool, ev_int, ev_str, ev_var, ev_glob, ev_fn, ev_bin, ev_neg, ev_not, ev_cmp, ev_list, ev_tup, ev_dictS, ev_dictI, ev_idx, ev_sl, ev_slFrom, ev_slTo, ev_call, ev_len, ev_listOf, ev_listRange, ev_listRev, ev_isinst, ev_toInt, ev_max, ev_min, ev_sum, ev_nil, ev_cons, ex_assign, ex_setItem, ex_append, ex_clear, ex_expr, ex_ret, ex_nil, bind_ok, ofB_some, cm_Eq, cm_NotEq, cm_Lt, cm_LtE, cm_Gt, cm_GtE, cm_Is, cm_IsNot, cm_In, cm_NotIn, eq_ii, eq_ss, eq_bb, eq_rr, eq_tt, eq_nx, eq_in, no_none, no_int, no_ref, no_tup, ist_ii, ist_ib, ist_bb, ist_tt, ist_ss, V.bool.injEq, F.ret.injEq, reduceCtorEq, and_true, true_and, false_and, and_false, or_false, false_or, exists_eq_left', decide_eq_true_eq, decide_eq_false_iff_not, exists_false, exists_const, Option.some.injEq, Bool.not_eq_true', Bool.not_eq_false', Bool.true_eq_false, Bool.false_eq_true, beq_iff_eq, beq_eq_false_iff_ne, ne_eq, not_true_eq_false, not_false_eq_true, Option.map_some, Bool.not_true, Bool.not_false, beq_self_eq_true, List.map_cons, List.map_nil, List.replicate_succ, List.replicate_zero, List.cons_append, List.nil_append, List.getElem?_cons_zero, List.getElem?_cons_succ, List.set_cons_zero, List.set_cons_succ, Nat.reduceSub, Nat.reduceAdd, List.length_cons, List.length_nil, Nat.zero_add, Nat.reduceLeDiff, if_true, if_false, bin_mod, c1]; rfl) ?_
    refine go3 _ _ (List.range H) (pre_app (List.prefix_append _ _)) ?_ (fun x hx => List.mem_range.mp hx) (by rw [List.length_range]; exact Nat.le_refl _)
    have := at_end (σ := σ ++ [Cell.list (fs.map natV)]) (c := .list ((List.range H).map natV))
    rwa [List.length_append] at this
  · refine st_skip (by simp (disch := omega) only [Ok_seq, Then_next, Then_ret, Turn_next, Turn_ret, Back_next, Back_ret, Ok_ite, Ok_and, Ok_or, Ok_cmp2, Ok_bind, Ok_ok, ev_none, ev_bool, ev_int, ev_str, ev_var, ev_glob, ev_fn, ev_bin, ev_neg, ev_not, ev_cmp, ev_list, ev_tup, ev_dictS, ev_dictI, ev_idx, ev_sl, ev_slFrom, ev_slTo, ev_call, ev_len, ev_listOf, ev_listRange, ev_listRev, ev_isinst, ev_toInt, ev_max, ev_min, ev_sum, ev_nil, ev_cons, ex_assign, ex_setItem, ex_append, ex_clear, ex_expr, ex_ret, ex_nil, bind_ok, ofB_some, cm_Eq, cm_NotEq, cm_Lt, cm_LtE, cm_Gt, cm_GtE, cm_Is, cm_IsNot, cm_In, cm_NotIn, eq_ii, eq_ss, eq_bb, eq_rr, eq_tt, eq_nx, eq_in, no_none, no_int, no_ref, no_tup, ist_ii, ist_ib, ist_bb, ist_tt, ist_ss, V.bool.injEq, F.ret.injEq, reduceCtorEq, and_true, true_and, false_and, and_false, or_false, false_or, exists_eq_left', decide_eq_true_eq, decide_eq_false_iff_not, exists_false, exists_const, Option.some.injEq, Bool.not_eq_true', Bool.not_eq_false', Bool.true_eq_false, Bool.false_eq_true, beq_iff_eq, beq_eq_false_iff_ne, ne_eq, not_true_eq_false, not_false_eq_true, Option.map_some, Bool.not_true, Bool.not_false, beq_self_eq_true, List.map_cons, List.map_nil, List.replicate_succ, List.replicate_zero, List.cons_append, List.nil_append, List.getElem?_cons_zero, List.getElem?_cons_succ, List.set_cons_zero, List.set_cons_succ, Nat.reduceSub, Nat.reduceAdd, List.length_cons, List.length_nil, Nat.zero_add, Nat.reduceLeDiff, if_true, if_false, bin_mod]; rw [beq_eq_false_iff_ne.mpr c1]) ?_
    by_cases c2 : c.fmod 7 = 2
    · refine st_then (by simp (disch := omega) only [Ok_seq, Then_next, Then_ret, Turn_next, Turn_ret, Back_next, Back_ret, Ok_ite, Ok_and, Ok_or, Ok_cmp2, Ok_bind, Ok_ok, ev_none, ev_bool, ev_int, ev_str, ev_var, ev_glob, ev_fn, ev_bin, ev_neg, ev_not, ev_cmp, ev_list, ev_tup, ev_dictS, ev_dictI, ev_idx, ev_sl, ev_slFrom, ev_slTo, ev_call, ev_len, ev_listOf, ev_listRange, ev_listRev, ev_isinst, ev_toInt, ev_max, ev_min, ev_sum, ev_nil, ev_cons, ex_assign, ex_setItem, ex_append, ex_clear, ex_expr, ex_ret, ex_nil, bind_ok, ofB_some, cm_Eq, cm_NotEq, cm_Lt, cm_LtE, cm_Gt, cm_GtE, cm_Is, cm_IsNot, cm_In, cm_NotIn, eq_ii, eq_ss, eq_bb, eq_rr, eq_tt, eq_nx, eq_in, no_none, no_int, no_ref, no_tup, ist_ii, ist_ib, ist_bb, ist_tt, ist_ss, V.bool.injEq, F.ret.injEq, reduceCtorEq, and_true, true_and, false_and, and_false, or_false, false_or, exists_eq_left', decide_eq_true_eq, decide_eq_false_iff_not, exists_false, exists_const, Option.some.injEq, Bool.not_eq_true', Bool.not_eq_false', Bool.true_eq_false, Bool.false_eq_true, beq_iff_eq, beq_eq_false_iff_ne, ne_eq, not_true_eq_false, not_false_eq_true, Option.map_some, Bool.not_true, Bool.not_false, beq_self_eq_true, List.map_cons, List.map_nil, List.replicate_succ, List.replicate_zero, List.cons_append, List.nil_append, List.getElem?_cons_zero, List.getElem?_cons_succ, List.set_cons_zero, List.set_cons_succ, Nat.reduceSub, Nat.reduceAdd, List.length_cons, List.length_nil, Nat.zero_add, Nat.reduceLeDiff, if_true, if_false, bin_mod, c2]; rfl) ?_
      refine st_assign (v := .ref (σ.length + 1)) (σ' := σ ++ [.list (fs.map natV)] ++ [.list (([] : List Nat).map natV)]) (by
        rw [← Ok_R]
        simp only [Ok_seq, Then_next, Then_ret, Turn_next, Turn_ret, Back_next, Back_ret, Ok_ite, Ok_and, Ok_or, Ok_cmp2, Ok_bind, Ok_ok, ev_none, ev_bool, ev_int, ev_str, ev_var, ev_glob, ev_fn, ev_bin, ev_neg, ev_not, ev_cmp, ev_list, ev_tup, ev_dictS, ev_dictI, ev_idx, ev_sl, ev_slFrom, ev_slTo, ev_call, ev_len, ev_listOf, ev_listRange, ev_listRev, ev_isinst, ev_toInt, ev_max, ev_min, ev_sum, ev_nil, ev_cons, ex_assign, ex_setItem, ex_append, ex_clear, ex_expr, ex_ret, ex_nil, bind_ok, ofB_some, cm_Eq, cm_NotEq, cm_Lt, cm_LtE, cm_Gt, cm_GtE, cm_Is, cm_IsNot, cm_In, cm_NotIn, eq_ii, eq_ss, eq_bb, eq_rr, eq_tt, eq_nx, eq_in, no_none, no_int, no_ref, no_tup, ist_ii, ist_ib, ist_bb, ist_tt, ist_ss, V.bool.injEq, F.ret.injEq, reduceCtorEq, and_true, true_and, false_and, and_false, or_false, false_or, exists_eq_left', decide_eq_true_eq, decide_eq_false_iff_not, exists_false, exists_const, Option.some.injEq, Bool.not_eq_true', Bool.not_eq_false', Bool.true_eq_false, Bool.false_eq_true, beq_iff_eq, beq_eq_false_iff_ne, ne_eq, not_true_eq_false, not_false_eq_true, Option.map_some, Bool.not_true, Bool.not_false, beq_self_eq_true, List.map_cons, List.map_nil, List.replicate_succ, List.replicate_zero, List.cons_append, List.nil_append, List.getElem?_cons_zero, List.getElem?_cons_succ, List.set_cons_zero, List.set_cons_succ, Nat.reduceSub, Nat.reduceAdd, List.length_cons, List.length_nil, Nat.zero_add, Nat.reduceLeDiff, if_true, if_false, Ok_newL, Nat.zero_le, List.length_append, List.length_singleton]) (st_nil ?_)
      refine go3 _ _ [] (pre_app (List.prefix_append _ _)) ?_ (fun x hx => by simp at hx) (Nat.zero_le _)
      have := at_end (σ := σ ++ [Cell.list (fs.map natV)]) (c := .list (([] : List Nat).map natV))
      rwa [List.length_append] at this
    · exact st_skip (by simp (disch := omega) only [Ok_seq, Then_next, Then_ret, Turn_next, Turn_ret, Back_next, Back_ret, Ok_ite, Ok_and, Ok_or, Ok_cmp2, Ok_bind, Ok_ok, ev_none, ev_bool, ev_int, ev_str, ev_var, ev_glob, ev_fn, ev_bin, ev_neg, ev_not, ev_cmp, ev_list, ev_tup, ev_dictS, ev_dictI, ev_idx, ev_sl, ev_slFrom, ev_slTo, ev_call, ev_len, ev_listOf, ev_listRange, ev_listRev, ev_isinst, ev_toInt, ev_max, ev_min, ev_sum, ev_nil, ev_cons, ex_assign, ex_setItem, ex_append, ex_clear, ex_expr, ex_ret, ex_nil, bind_ok, ofB_some, cm_Eq, cm_NotEq, cm_Lt, cm_LtE, cm_Gt, cm_GtE, cm_Is, cm_IsNot, cm_In, cm_NotIn, eq_ii, eq_ss, eq_bb, eq_rr, eq_tt, eq_nx, eq_in, no_none, no_int, no_ref, no_tup, ist_ii, ist_ib, ist_bb, ist_tt, ist_ss, V.bool.injEq, F.ret.injEq, reduceCtorEq, and_true, true_and, false_and, and_false, or_false, false_or, exists_eq_left', decide_eq_true_eq, decide_eq_false_iff_not, exists_false, exists_const, Option.some.injEq, Bool.not_eq_true', Bool.not_eq_false', Bool.true_eq_false, Bool.false_eq_true, beq_iff_eq, beq_eq_false_iff_ne, ne_eq, not_true_eq_false, not_false_eq_true, Option.map_some, Bool.not_true, Bool.not_false, beq_self_eq_true, List.map_cons, List.map_nil, List.replicate_succ, List.replicate_zero, List.cons_append, List.nil_append, List.getElem?_cons_zero, List.getElem?_cons_succ, List.set_cons_zero, List.set_cons_succ, Nat.reduceSub, Nat.reduceAdd, List.length_cons, List.length_nil, Nat.zero_add, Nat.reduceLeDiff, if_true, if_false, bin_mod]; rw [beq_eq_false_iff_ne.mpr c2]) (go3 _ _ fs (List.prefix_append _ _) at_end hfs hfl)
end
end Mine

namespace Mine
open PySem

/-- the law's own list of sendings -/
noncomputable def Sent (τ : Store) (j : Nat) (rows : List Rw) : Prop := ∃ as : List Nat, τ[j]? = some (.list (as.map .ref)) ∧ as.length = (lettersOf rows).length ∧ ∀ (k : Nat) l, (lettersOf rows)[k]? = some l → ∃ a, as[k]? = some a ∧ τ[a]? = some (.list (lvm rows.length l))

section
variable {ns : List Int} {G : List Int} {P : List Fn} {C : Nat → List V → Store → R V} {N : Nat} {σ τ : Store} {ρ : Loc}

theorem SendInv.sent {rows : List Rw} (h : SendInv σ rows (lettersOf rows) τ) : Sent τ σ.length rows := by
  obtain ⟨_, as, h1, h2, h3, _⟩ := h
  exact ⟨as, h1, h2, h3⟩
theorem Sent.pre {j : Nat} {rows : List Rw} (h : Sent σ j rows) (hp : σ <+: τ) : Sent τ j rows := by
  obtain ⟨as, h1, h2, h3⟩ := h
  exact ⟨as, at_pre h1 hp, h2, fun k l hl => by obtain ⟨a, x, y⟩ := h3 k l hl; exact ⟨a, x, at_pre y hp⟩⟩
theorem Sent.len {j : Nat} {rows : List Rw} (h : Sent τ j rows) : lenV ns (.ref j) τ = .ok (.int ((lettersOf rows).length : Int)) τ := by
  obtain ⟨as, h1, h2, _⟩ := h
  rw [len_map h1, h2]
theorem Sent.idx {j k : Nat} {rows : List Rw} {l : Lt} (h : Sent τ j rows) (hl : (lettersOf rows)[k]? = some l) : ∃ a, idxV ns (.ref j) (.int (k : Int)) τ = .ok (.ref a) τ ∧ τ[a]? = some (.list (lvm rows.length l)) := by
  obtain ⟨as, h1, _, h3⟩ := h
  obtain ⟨a, x, y⟩ := h3 k l hl
  exact ⟨a, idx_map (f := V.ref) h1 x, y⟩
theorem lvm0 {a M : Nat} {l : Lt} (h : τ[a]? = some (.list (lvm M l))) : idxV ns (.ref a) (.int 0) τ = .ok (.int (l.fr : Int)) τ := idx_list (k := 0) h rfl
theorem lvm1 {a M : Nat} {l : Lt} (h : τ[a]? = some (.list (lvm M l))) : idxV ns (.ref a) (.int 1) τ = .ok (.int (l.to : Int)) τ := idx_list (k := 1) h rfl
theorem lvm2 {a M : Nat} {l : Lt} (h : τ[a]? = some (.list (lvm M l))) : idxV ns (.ref a) (.int 2) τ = .ok (.int (l.at0 : Int)) τ := idx_list (k := 2) h rfl
theorem lvm3 {a M : Nat} {l : Lt} (h : τ[a]? = some (.list (lvm M l))) : idxV ns (.ref a) (.int 3) τ = .ok (.int ((l.got.getD M : Nat) : Int)) τ := idx_list (k := 3) h rfl

theorem strayL_get {F : Nat → Nat} {l : Lt} {M : Nat} (h : F l.to ≤ M) : strayL F l = (decide (l.got.getD M < F l.to) && decide (F l.fr ≤ l.at0)) := by
  unfold strayL
  cases l.got with
  | none => rw [Option.getD_none, decide_eq_false (Nat.not_lt.mpr h)]; rfl
  | some g => rfl

theorem head_none {ls : List Lt} {F : Nat → Nat} (h : ∀ k, k < ls.length → strayAt ls F k = false) : (straysOf ls F).head? = none := by
  have : straysOf ls F = [] := by
    unfold straysOf
    rw [List.filter_eq_nil_iff]
    intro k hk
    rw [h k (List.mem_range.mp hk)]; exact Bool.false_ne_true
  rw [this]; rfl
theorem head_some {ls : List Lt} {F : Nat → Nat} {k : Nat} (hk : k < ls.length) (h1 : strayAt ls F k = true) (h : ∀ m, m < k → strayAt ls F m = false) : (straysOf ls F).head? = some k := by
  have hm : k ∈ straysOf ls F := List.mem_filter.mpr ⟨List.mem_range.mpr hk, h1⟩
  cases e : straysOf ls F with
  | nil => rw [e] at hm; cases hm
  | cons x r =>
    obtain ⟨l, hl, hs, hlt⟩ := straysOf_head e
    have hx : strayAt ls F x = true := by rw [strayAt, hl]; exact hs
    have a1 : ¬ x < k := fun c => by rw [h x c] at hx; cases hx
    have a2 : ¬ k < x := fun c => by rw [hlt k c] at h1; cases h1
    rw [List.head?_cons]; congr 1; omega

theorem first_stray_ok {d k jl jk jn H : Nat} {rows : List Rw} {f : Nat → Nat} (hp : P[k]? = some B.L_first_stray) (hS : Sent σ jl rows) (hT : Told σ jk H rows) (hL : σ[jn]? = some (.list ((lineOf H f).map natV))) (hf : Has H rows f) (hG : Hist H rows) (h40 : H ≤ 40) (hr : rows.length ≤ 1000) :
    callF ns G P N (d + 1) k [.ref jl, .ref jk, .ref jn] σ = .ok (ov (straysOf (lettersOf rows) (far rows f)).head?) (σ ++ [.list ((lineOf H (far rows f)).map natV)]) := by
  have key : evE ns G (callF ns G P N d) [some (V.ref jl), some (V.ref jk), some (V.ref jn), none, none, none, none] (.comp (.idx (.idx (.var 1) (.var 6)) (.idx (.var 2) (.var 6))) 6 (.range (.len (.var 1)))) σ = .ok (.ref σ.length) (σ ++ [.list ((List.range H).map (fun h => natV (far rows f h)))]) := by
    refine ev_comp_range (n := H) (g := fun h => natV (far rows f h)) (by simp only [Ok_seq, Then_next, Then_ret, Turn_next, Turn_ret, Back_next, Back_ret, Ok_ite, Ok_and, Ok_or, Ok_cmp2, Ok_bind, Ok_ok, ev_none, ev_bool, ev_int, ev_str, ev_var, ev_glob, ev_fn, ev_bin, ev_neg, ev_not, ev_cmp, ev_list, ev_tup, ev_dictS, ev_dictI, ev_idx, ev_sl, ev_slFrom, ev_slTo, ev_call, ev_len, ev_listOf, ev_listRange, ev_listRev, ev_isinst, ev_toInt, ev_max, ev_min, ev_sum, ev_nil, ev_cons, ex_assign, ex_setItem, ex_append, ex_clear, ex_expr, ex_ret, ex_nil, bind_ok, ofB_some, cm_Eq, cm_NotEq, cm_Lt, cm_LtE, cm_Gt, cm_GtE, cm_Is, cm_IsNot, cm_In, cm_NotIn, eq_ii, eq_ss, eq_bb, eq_rr, eq_tt, eq_nx, eq_in, no_none, no_int, no_ref, no_tup, ist_ii, ist_ib, ist_bb, ist_tt, ist_ss, V.bool.injEq, F.ret.injEq, reduceCtorEq, and_true, true_and, false_and, and_false, or_false, false_or, exists_eq_left', decide_eq_true_eq, decide_eq_false_iff_not, exists_false, exists_const, Option.some.injEq, Bool.not_eq_true', Bool.not_eq_false', Bool.true_eq_false, Bool.false_eq_true, beq_iff_eq, beq_eq_false_iff_ne, ne_eq, not_true_eq_false, not_false_eq_true, Option.map_some, Bool.not_true, Bool.not_false, beq_self_eq_true, List.map_cons, List.map_nil, List.replicate_succ, List.replicate_zero, List.cons_append, List.nil_append, List.getElem?_cons_zero, List.getElem?_cons_succ, List.set_cons_zero, List.set_cons_succ, Nat.reduceSub, Nat.reduceAdd, List.length_cons, List.length_nil, Nat.zero_add, Nat.reduceLeDiff, if_true, if_false, hT.len]) (by rw [sizeMax_eq]; omega) (fun i hi => ?_)
    obtain ⟨a, ha, hx⟩ := hT.idx (ns := ns) hi
    have e1 := idx_nat (ns := ns) hL (lineOf_get hi)
    have e2 := idx_nat (ns := ns) hx (far_at (hf i hi))
    simp only [Ok_seq, Then_next, Then_ret, Turn_next, Turn_ret, Back_next, Back_ret, Ok_ite, Ok_and, Ok_or, Ok_cmp2, Ok_bind, Ok_ok, ev_none, ev_bool, ev_int, ev_str, ev_var, ev_glob, ev_fn, ev_bin, ev_neg, ev_not, ev_cmp, ev_list, ev_tup, ev_dictS, ev_dictI, ev_idx, ev_sl, ev_slFrom, ev_slTo, ev_call, ev_len, ev_listOf, ev_listRange, ev_listRev, ev_isinst, ev_toInt, ev_max, ev_min, ev_sum, ev_nil, ev_cons, ex_assign, ex_setItem, ex_append, ex_clear, ex_expr, ex_ret, ex_nil, bind_ok, ofB_some, cm_Eq, cm_NotEq, cm_Lt, cm_LtE, cm_Gt, cm_GtE, cm_Is, cm_IsNot, cm_In, cm_NotIn, eq_ii, eq_ss, eq_bb, eq_rr, eq_tt, eq_nx, eq_in, no_none, no_int, no_ref, no_tup, ist_ii, ist_ib, ist_bb, ist_tt, ist_ss, V.bool.injEq, F.ret.injEq, reduceCtorEq, and_true, true_and, false_and, and_false, or_false, false_or, exists_eq_left', decide_eq_true_eq, decide_eq_false_iff_not, exists_false, exists_const, Option.some.injEq, Bool.not_eq_true', Bool.not_eq_false', Bool.true_eq_false, Bool.false_eq_true, beq_iff_eq, beq_eq_false_iff_ne, ne_eq, not_true_eq_false, not_false_eq_true, Option.map_some, Bool.not_true, Bool.not_false, beq_self_eq_true, List.map_cons, List.map_nil, List.replicate_succ, List.replicate_zero, List.cons_append, List.nil_append, List.getElem?_cons_zero, List.getElem?_cons_succ, List.set_cons_zero, List.set_cons_succ, Nat.reduceSub, Nat.reduceAdd, List.length_cons, List.length_nil, Nat.zero_add, Nat.reduceLeDiff, if_true, if_false, ha, e1, e2, natV]
  rw [show (List.range H).map (fun h => natV (far rows f h)) = (lineOf H (far rows f)).map natV from by rw [lineOf, List.map_map]; rfl] at key
  rw [← Ok_R]
  refine ok_call hp rfl ?_
  refine st_assign key ?_
  have hS1 := hS.pre (List.prefix_append σ [.list ((lineOf H (far rows f)).map natV)])
  have hK1 : (σ ++ [Cell.list ((lineOf H (far rows f)).map natV)])[σ.length]? = some (.list ((lineOf H (far rows f)).map natV)) := at_end
  clear key hS hT hL
  have hll := letters_len rows
  generalize σ ++ [Cell.list ((lineOf H (far rows f)).map natV)] = τ at *
  rw [Ok_seq]
  refine ok_for_range (n := (lettersOf rows).length) (by simp only [Ok_seq, Then_next, Then_ret, Turn_next, Turn_ret, Back_next, Back_ret, Ok_ite, Ok_and, Ok_or, Ok_cmp2, Ok_bind, Ok_ok, ev_none, ev_bool, ev_int, ev_str, ev_var, ev_glob, ev_fn, ev_bin, ev_neg, ev_not, ev_cmp, ev_list, ev_tup, ev_dictS, ev_dictI, ev_idx, ev_sl, ev_slFrom, ev_slTo, ev_call, ev_len, ev_listOf, ev_listRange, ev_listRev, ev_isinst, ev_toInt, ev_max, ev_min, ev_sum, ev_nil, ev_cons, ex_assign, ex_setItem, ex_append, ex_clear, ex_expr, ex_ret, ex_nil, bind_ok, ofB_some, cm_Eq, cm_NotEq, cm_Lt, cm_LtE, cm_Gt, cm_GtE, cm_Is, cm_IsNot, cm_In, cm_NotIn, eq_ii, eq_ss, eq_bb, eq_rr, eq_tt, eq_nx, eq_in, no_none, no_int, no_ref, no_tup, ist_ii, ist_ib, ist_bb, ist_tt, ist_ss, V.bool.injEq, F.ret.injEq, reduceCtorEq, and_true, true_and, false_and, and_false, or_false, false_or, exists_eq_left', decide_eq_true_eq, decide_eq_false_iff_not, exists_false, exists_const, Option.some.injEq, Bool.not_eq_true', Bool.not_eq_false', Bool.true_eq_false, Bool.false_eq_true, beq_iff_eq, beq_eq_false_iff_ne, ne_eq, not_true_eq_false, not_false_eq_true, Option.map_some, Bool.not_true, Bool.not_false, beq_self_eq_true, List.map_cons, List.map_nil, List.replicate_succ, List.replicate_zero, List.cons_append, List.nil_append, List.getElem?_cons_zero, List.getElem?_cons_succ, List.set_cons_zero, List.set_cons_succ, Nat.reduceSub, Nat.reduceAdd, List.length_cons, List.length_nil, Nat.zero_add, Nat.reduceLeDiff, if_true, if_false, hS1.len]) (Nat.le_trans hll (Nat.le_trans hr (by decide))) (fun i ρ' τ' => τ' = τ ∧ (∀ m, m < i → strayAt (lettersOf rows) (far rows f) m = false) ∧ ∃ o4 o5, ρ' = [some (V.ref jl), some (V.ref jk), some (V.ref jn), some (V.ref σ.length), o4, o5, none]) ⟨rfl, fun m hm => absurd hm (Nat.not_lt_zero _), _, _, rfl⟩ ?_ ?_
  · rintro i ρ' τ' hi ⟨rfl, hlt, o4, o5, rfl⟩
    have hli := List.getElem?_eq_getElem hi
    obtain ⟨hfr, hto, _⟩ := hG.letter (List.getElem_mem hi)
    have hst : strayAt (lettersOf rows) (far rows f) i = strayL (far rows f) (lettersOf rows)[i] := by simp only [strayAt, hli]
    generalize (lettersOf rows)[i] = l at *
    obtain ⟨a, ha, hax⟩ := hS1.idx (ns := ns) hli
    have e1 := idx_nat (ns := ns) hK1 (lineOf_get hto)
    have e2 := idx_nat (ns := ns) hK1 (lineOf_get hfr)
    rw [strayL_get (M := rows.length) far_le] at hst
    unfold B.L_first_stray_s1
    refine st_assign (v := .ref a) ha ?_
    have cond : evE ns G (callF ns G P N d) [some (V.ref jl), some (V.ref jk), some (V.ref jn), some (V.ref σ.length), some (V.int (i : Int)), some (V.ref a), none] (.and (.cmp .Lt (.idx (.var 5) (.int 3)) (.idx (.var 3) (.idx (.var 5) (.int 1)))) (.cmp .GtE (.idx (.var 5) (.int 2)) (.idx (.var 3) (.idx (.var 5) (.int 0))))) τ' = .ok (.bool (strayAt (lettersOf rows) (far rows f) i)) τ' := by
      rw [← Ok_R, hst]
      simp only [Ok_seq, Then_next, Then_ret, Turn_next, Turn_ret, Back_next, Back_ret, Ok_ite, Ok_and, Ok_or, Ok_cmp2, Ok_bind, Ok_ok, ev_none, ev_bool, ev_int, ev_str, ev_var, ev_glob, ev_fn, ev_bin, ev_neg, ev_not, ev_cmp, ev_list, ev_tup, ev_dictS, ev_dictI, ev_idx, ev_sl, ev_slFrom, ev_slTo, ev_call, ev_len, ev_listOf, ev_listRange, ev_listRev, ev_isinst, ev_toInt, ev_max, ev_min, ev_sum, ev_nil, ev_cons, ex_assign, ex_setItem, ex_append, ex_clear, ex_expr, ex_ret, ex_nil, bind_ok, ofB_some, cm_Eq, cm_NotEq, cm_Lt, cm_LtE, cm_Gt, cm_GtE, cm_Is, cm_IsNot, cm_In, cm_NotIn, eq_ii, eq_ss, eq_bb, eq_rr, eq_tt, eq_nx, eq_in, no_none, no_int, no_ref, no_tup, ist_ii, ist_ib, ist_bb, ist_tt, ist_ss, V.bool.injEq, F.ret.injEq, reduceCtorEq, and_true, true_and, false_and, and_false, or_false, false_or, exists_eq_left', decide_eq_true_eq, decide_eq_false_iff_not, exists_false, exists_const, Option.some.injEq, Bool.not_eq_true', Bool.not_eq_false', Bool.true_eq_false, Bool.false_eq_true, beq_iff_eq, beq_eq_false_iff_ne, ne_eq, not_true_eq_false, not_false_eq_true, Option.map_some, Bool.not_true, Bool.not_false, beq_self_eq_true, List.map_cons, List.map_nil, List.replicate_succ, List.replicate_zero, List.cons_append, List.nil_append, List.getElem?_cons_zero, List.getElem?_cons_succ, List.set_cons_zero, List.set_cons_succ, Nat.reduceSub, Nat.reduceAdd, List.length_cons, List.length_nil, Nat.zero_add, Nat.reduceLeDiff, if_true, if_false, lvm0 hax, lvm1 hax, lvm2 hax, lvm3 hax, e1, e2]
      by_cases c1 : l.got.getD rows.length < far rows f l.to
      · refine .inl ⟨Int.ofNat_lt.mpr c1, ?_⟩
        rw [decide_eq_true c1, Bool.true_and]
        exact decide_eq_decide.mpr Int.ofNat_le
      · refine .inr ⟨fun h => c1 (Int.ofNat_lt.mp h), ?_⟩
        rw [decide_eq_false c1, Bool.false_and]
    cases hb : strayAt (lettersOf rows) (far rows f) i with
    | true =>
      rw [hb] at cond
      refine st_then cond (st_ret (v := .int (i : Int)) rfl ?_)
      simp only [Ok_seq, Then_next, Then_ret, Turn_next, Turn_ret, Back_next, Back_ret, Ok_ite, Ok_and, Ok_or, Ok_cmp2, Ok_bind, Ok_ok, ev_none, ev_bool, ev_int, ev_str, ev_var, ev_glob, ev_fn, ev_bin, ev_neg, ev_not, ev_cmp, ev_list, ev_tup, ev_dictS, ev_dictI, ev_idx, ev_sl, ev_slFrom, ev_slTo, ev_call, ev_len, ev_listOf, ev_listRange, ev_listRev, ev_isinst, ev_toInt, ev_max, ev_min, ev_sum, ev_nil, ev_cons, ex_assign, ex_setItem, ex_append, ex_clear, ex_expr, ex_ret, ex_nil, bind_ok, ofB_some, cm_Eq, cm_NotEq, cm_Lt, cm_LtE, cm_Gt, cm_GtE, cm_Is, cm_IsNot, cm_In, cm_NotIn, eq_ii, eq_ss, eq_bb, eq_rr, eq_tt, eq_nx, eq_in, no_none, no_int, no_ref, no_tup, ist_ii, ist_ib, ist_bb, ist_tt, ist_ss, V.bool.injEq, F.ret.injEq, reduceCtorEq, and_true, true_and, false_and, and_false, or_false, false_or, exists_eq_left', decide_eq_true_eq, decide_eq_false_iff_not, exists_false, exists_const, Option.some.injEq, Bool.not_eq_true', Bool.not_eq_false', Bool.true_eq_false, Bool.false_eq_true, beq_iff_eq, beq_eq_false_iff_ne, ne_eq, not_true_eq_false, not_false_eq_true, Option.map_some, Bool.not_true, Bool.not_false, beq_self_eq_true]
      rw [head_some hi hb hlt]
      first | exact ⟨rfl, rfl⟩ | rfl
    | false =>
      rw [hb] at cond
      refine st_skip cond ?_
      refine ⟨rfl, fun m hm => ?_, _, _, rfl⟩
      rcases Nat.lt_succ_iff_lt_or_eq.mp hm with h | h
      · exact hlt m h
      · rw [h]; exact hb
  · rintro ρ' τ' ⟨rfl, hlt, o4, o5, rfl⟩
    rw [head_none hlt]
    simp only [Ok_seq, Then_next, Then_ret, Turn_next, Turn_ret, Back_next, Back_ret, Ok_ite, Ok_and, Ok_or, Ok_cmp2, Ok_bind, Ok_ok, ev_none, ev_bool, ev_int, ev_str, ev_var, ev_glob, ev_fn, ev_bin, ev_neg, ev_not, ev_cmp, ev_list, ev_tup, ev_dictS, ev_dictI, ev_idx, ev_sl, ev_slFrom, ev_slTo, ev_call, ev_len, ev_listOf, ev_listRange, ev_listRev, ev_isinst, ev_toInt, ev_max, ev_min, ev_sum, ev_nil, ev_cons, ex_assign, ex_setItem, ex_append, ex_clear, ex_expr, ex_ret, ex_nil, bind_ok, ofB_some, cm_Eq, cm_NotEq, cm_Lt, cm_LtE, cm_Gt, cm_GtE, cm_Is, cm_IsNot, cm_In, cm_NotIn, eq_ii, eq_ss, eq_bb, eq_rr, eq_tt, eq_nx, eq_in, no_none, no_int, no_ref, no_tup, ist_ii, ist_ib, ist_bb, ist_tt, ist_ss, V.bool.injEq, F.ret.injEq, reduceCtorEq, and_true, true_and, false_and, and_false, or_false, false_or, exists_eq_left', decide_eq_true_eq, decide_eq_false_iff_not, exists_false, exists_const, Option.some.injEq, Bool.not_eq_true', Bool.not_eq_false', Bool.true_eq_false, Bool.false_eq_true, beq_iff_eq, beq_eq_false_iff_ne, ne_eq, not_true_eq_false, not_false_eq_true, Option.map_some, Bool.not_true, Bool.not_false, beq_self_eq_true, List.map_cons, List.map_nil, List.replicate_succ, List.replicate_zero, List.cons_append, List.nil_append, List.getElem?_cons_zero, List.getElem?_cons_succ, List.set_cons_zero, List.set_cons_succ, Nat.reduceSub, Nat.reduceAdd, List.length_cons, List.length_nil, Nat.zero_add, Nat.reduceLeDiff, if_true, if_false]
    first | exact ⟨rfl, rfl⟩ | rfl

theorem good_step_ok {d k kS kw jl jk jn H : Nat} {rows : List Rw} {f : Nat → Nat} {s : Nat × Nat × Nat} {l : Lt} {g : Nat} {r : List Nat} (hp : P[k]? = some (B.L_good_step kS kw)) (hF : P[kS]? = some B.L_first_stray) (hw : P[kw]? = some B.L_whole) (hS : Sent σ jl rows) (hT : Told σ jk H rows) (hL : σ[jn]? = some (.list ((lineOf H f).map natV))) (hf : Has H rows f) (hG : Hist H rows) (h40 : H ≤ 40) (hr : rows.length ≤ 1000)
    (hb : straysOf (lettersOf rows) (far rows f) = s.1 :: r) (hl : (lettersOf rows)[s.1]? = some l) (hg : l.got = some g) (h1 : s.2.1 = l.to) (h2 : s.2.2 = numb (knownOf rows l.to) g) :
    callF ns G P N (d + 2) k [stepV s, .ref jl, .ref jk, .ref jn] σ = .ok (.bool true) (σ ++ [.list ((lineOf H (far rows f)).map natV)]) := by
  obtain ⟨s1, s2, s3⟩ := s
  simp only at hb hl h1 h2
  subst h1
  have first := first_stray_ok (ns := ns) (G := G) (N := N) (d := d) hF hS hT hL hf hG h40 hr
  rw [hb, List.head?_cons] at first
  obtain ⟨l', hl', hstr, _⟩ := straysOf_head hb
  rw [hl] at hl'; cases hl'
  obtain ⟨g', hg', hgf, _⟩ := strayL_iff.mp hstr
  rw [hg] at hg'; cases hg'
  obtain ⟨hfr, hto, _⟩ := hG.letter (List.mem_of_getElem? hl)
  have hlow := lower_lt (hf _ hto) hgf
  have hfl := hf _ hto
  rw [← h2] at hlow
  have n1 : s3 + 1 < (knownOf rows l.to).length := Nat.lt_of_le_of_lt hlow hfl
  have n0 : s3 < (knownOf rows l.to).length := Nat.lt_of_succ_lt n1
  have x0 := List.getElem?_eq_getElem n0
  have x1 := List.getElem?_eq_getElem n1
  have i0 := numb_iff (g := g) knownOf_sorted knownOf_head x0
  have i1 := numb_iff (g := g) knownOf_sorted knownOf_head x1
  rw [← h2] at i0 i1
  generalize (knownOf rows l.to)[s3] = y0 at *
  generalize (knownOf rows l.to)[s3 + 1] = y1 at *
  have q0 : y0 ≤ g := i0.mpr (Nat.le_refl _)
  have q1 : g < y1 := Nat.lt_of_not_le fun c => absurd (i1.mp c) (Nat.not_succ_le_self _)
  have hS1 := hS.pre (List.prefix_append σ [.list ((lineOf H (far rows f)).map natV)])
  have hT1 := hT.pre (List.prefix_append σ [.list ((lineOf H (far rows f)).map natV)])
  rw [← Ok_R]
  refine ok_call hp rfl ?_
  change Ok (exSs ns G _ N _ [some (stepV (s1, l.to, s3)), some (V.ref jl), some (V.ref jk), some (V.ref jn), none, none] σ) _
  refine st_assign first ?_
  clear first i0 i1 hb hstr
  generalize σ ++ [Cell.list ((lineOf H (far rows f)).map natV)] = τ at *
  obtain ⟨a, ha, hax⟩ := hS1.idx (ns := ns) hl
  obtain ⟨b, hb, hbx⟩ := hT1.idx (ns := ns) hto
  have wh : ∀ i : Int, callF ns G P N (d + 1) kw [.int i] τ = .ok (.bool true) τ := fun i => whole_ok hw
  have e0 := idx_nat (ns := ns) hbx x0
  have e1 : idxV ns (.ref b) (.int ((s3 : Int) + 1)) τ = .ok (.int (y1 : Int)) τ := idx_nat (k := s3 + 1) hbx x1
  have e3 := lvm3 (ns := ns) hax
  rw [hg, Option.getD_some] at e3
  refine st_skip (σ' := τ) (by rw [← Ok_R]; simp only [Ok_seq, Then_next, Then_ret, Turn_next, Turn_ret, Back_next, Back_ret, Ok_ite, Ok_and, Ok_or, Ok_cmp2, Ok_bind, Ok_ok, ev_none, ev_bool, ev_int, ev_str, ev_var, ev_glob, ev_fn, ev_bin, ev_neg, ev_not, ev_cmp, ev_list, ev_tup, ev_dictS, ev_dictI, ev_idx, ev_sl, ev_slFrom, ev_slTo, ev_call, ev_len, ev_listOf, ev_listRange, ev_listRev, ev_isinst, ev_toInt, ev_max, ev_min, ev_sum, ev_nil, ev_cons, ex_assign, ex_setItem, ex_append, ex_clear, ex_expr, ex_ret, ex_nil, bind_ok, ofB_some, cm_Eq, cm_NotEq, cm_Lt, cm_LtE, cm_Gt, cm_GtE, cm_Is, cm_IsNot, cm_In, cm_NotIn, eq_ii, eq_ss, eq_bb, eq_rr, eq_tt, eq_nx, eq_in, no_none, no_int, no_ref, no_tup, ist_ii, ist_ib, ist_bb, ist_tt, ist_ss, V.bool.injEq, F.ret.injEq, reduceCtorEq, and_true, true_and, false_and, and_false, or_false, false_or, exists_eq_left', decide_eq_true_eq, decide_eq_false_iff_not, exists_false, exists_const, Option.some.injEq, Bool.not_eq_true', Bool.not_eq_false', Bool.true_eq_false, Bool.false_eq_true, beq_iff_eq, beq_eq_false_iff_ne, ne_eq, not_true_eq_false, not_false_eq_true, Option.map_some, Bool.not_true, Bool.not_false, beq_self_eq_true, List.map_cons, List.map_nil, List.replicate_succ, List.replicate_zero, List.cons_append, List.nil_append, List.getElem?_cons_zero, List.getElem?_cons_succ, List.set_cons_zero, List.set_cons_succ, Nat.reduceSub, Nat.reduceAdd, List.length_cons, List.length_nil, Nat.zero_add, Nat.reduceLeDiff, if_true, if_false, stepV, ov, len_tup3]) ?_
  refine st_skip (σ' := τ) (by rw [← Ok_R]; simp only [Ok_seq, Then_next, Then_ret, Turn_next, Turn_ret, Back_next, Back_ret, Ok_ite, Ok_and, Ok_or, Ok_cmp2, Ok_bind, Ok_ok, ev_none, ev_bool, ev_int, ev_str, ev_var, ev_glob, ev_fn, ev_bin, ev_neg, ev_not, ev_cmp, ev_list, ev_tup, ev_dictS, ev_dictI, ev_idx, ev_sl, ev_slFrom, ev_slTo, ev_call, ev_len, ev_listOf, ev_listRange, ev_listRev, ev_isinst, ev_toInt, ev_max, ev_min, ev_sum, ev_nil, ev_cons, ex_assign, ex_setItem, ex_append, ex_clear, ex_expr, ex_ret, ex_nil, bind_ok, ofB_some, cm_Eq, cm_NotEq, cm_Lt, cm_LtE, cm_Gt, cm_GtE, cm_Is, cm_IsNot, cm_In, cm_NotIn, eq_ii, eq_ss, eq_bb, eq_rr, eq_tt, eq_nx, eq_in, no_none, no_int, no_ref, no_tup, ist_ii, ist_ib, ist_bb, ist_tt, ist_ss, V.bool.injEq, F.ret.injEq, reduceCtorEq, and_true, true_and, false_and, and_false, or_false, false_or, exists_eq_left', decide_eq_true_eq, decide_eq_false_iff_not, exists_false, exists_const, Option.some.injEq, Bool.not_eq_true', Bool.not_eq_false', Bool.true_eq_false, Bool.false_eq_true, beq_iff_eq, beq_eq_false_iff_ne, ne_eq, not_true_eq_false, not_false_eq_true, Option.map_some, Bool.not_true, Bool.not_false, beq_self_eq_true, List.map_cons, List.map_nil, List.replicate_succ, List.replicate_zero, List.cons_append, List.nil_append, List.getElem?_cons_zero, List.getElem?_cons_succ, List.set_cons_zero, List.set_cons_succ, Nat.reduceSub, Nat.reduceAdd, List.length_cons, List.length_nil, Nat.zero_add, Nat.reduceLeDiff, if_true, if_false, stepV, idx_tup0, idx_tup1, idx_tup2, wh]) ?_
  refine st_skip (σ' := τ) (by rw [← Ok_R]; simp only [Ok_seq, Then_next, Then_ret, Turn_next, Turn_ret, Back_next, Back_ret, Ok_ite, Ok_and, Ok_or, Ok_cmp2, Ok_bind, Ok_ok, ev_none, ev_bool, ev_int, ev_str, ev_var, ev_glob, ev_fn, ev_bin, ev_neg, ev_not, ev_cmp, ev_list, ev_tup, ev_dictS, ev_dictI, ev_idx, ev_sl, ev_slFrom, ev_slTo, ev_call, ev_len, ev_listOf, ev_listRange, ev_listRev, ev_isinst, ev_toInt, ev_max, ev_min, ev_sum, ev_nil, ev_cons, ex_assign, ex_setItem, ex_append, ex_clear, ex_expr, ex_ret, ex_nil, bind_ok, ofB_some, cm_Eq, cm_NotEq, cm_Lt, cm_LtE, cm_Gt, cm_GtE, cm_Is, cm_IsNot, cm_In, cm_NotIn, eq_ii, eq_ss, eq_bb, eq_rr, eq_tt, eq_nx, eq_in, no_none, no_int, no_ref, no_tup, ist_ii, ist_ib, ist_bb, ist_tt, ist_ss, V.bool.injEq, F.ret.injEq, reduceCtorEq, and_true, true_and, false_and, and_false, or_false, false_or, exists_eq_left', decide_eq_true_eq, decide_eq_false_iff_not, exists_false, exists_const, Option.some.injEq, Bool.not_eq_true', Bool.not_eq_false', Bool.true_eq_false, Bool.false_eq_true, beq_iff_eq, beq_eq_false_iff_ne, ne_eq, not_true_eq_false, not_false_eq_true, Option.map_some, Bool.not_true, Bool.not_false, beq_self_eq_true, List.map_cons, List.map_nil, List.replicate_succ, List.replicate_zero, List.cons_append, List.nil_append, List.getElem?_cons_zero, List.getElem?_cons_succ, List.set_cons_zero, List.set_cons_succ, Nat.reduceSub, Nat.reduceAdd, List.length_cons, List.length_nil, Nat.zero_add, Nat.reduceLeDiff, if_true, if_false, stepV, ov, idx_tup0, idx_tup1, ha, lvm1 hax]) ?_
  refine st_assign (v := .ref b) (σ' := τ) (by simp only [Ok_seq, Then_next, Then_ret, Turn_next, Turn_ret, Back_next, Back_ret, Ok_ite, Ok_and, Ok_or, Ok_cmp2, Ok_bind, Ok_ok, ev_none, ev_bool, ev_int, ev_str, ev_var, ev_glob, ev_fn, ev_bin, ev_neg, ev_not, ev_cmp, ev_list, ev_tup, ev_dictS, ev_dictI, ev_idx, ev_sl, ev_slFrom, ev_slTo, ev_call, ev_len, ev_listOf, ev_listRange, ev_listRev, ev_isinst, ev_toInt, ev_max, ev_min, ev_sum, ev_nil, ev_cons, ex_assign, ex_setItem, ex_append, ex_clear, ex_expr, ex_ret, ex_nil, bind_ok, ofB_some, cm_Eq, cm_NotEq, cm_Lt, cm_LtE, cm_Gt, cm_GtE, cm_Is, cm_IsNot, cm_In, cm_NotIn, eq_ii, eq_ss, eq_bb, eq_rr, eq_tt, eq_nx, eq_in, no_none, no_int, no_ref, no_tup, ist_ii, ist_ib, ist_bb, ist_tt, ist_ss, V.bool.injEq, F.ret.injEq, reduceCtorEq, and_true, true_and, false_and, and_false, or_false, false_or, exists_eq_left', decide_eq_true_eq, decide_eq_false_iff_not, exists_false, exists_const, Option.some.injEq, Bool.not_eq_true', Bool.not_eq_false', Bool.true_eq_false, Bool.false_eq_true, beq_iff_eq, beq_eq_false_iff_ne, ne_eq, not_true_eq_false, not_false_eq_true, Option.map_some, Bool.not_true, Bool.not_false, beq_self_eq_true, List.map_cons, List.map_nil, List.replicate_succ, List.replicate_zero, List.cons_append, List.nil_append, List.getElem?_cons_zero, List.getElem?_cons_succ, List.set_cons_zero, List.set_cons_succ, Nat.reduceSub, Nat.reduceAdd, List.length_cons, List.length_nil, Nat.zero_add, Nat.reduceLeDiff, if_true, if_false, stepV, idx_tup1, hb]) ?_
  have c1 : ¬ (s3 : Int) < 0 := by omega
  have c2 : ¬ ((knownOf rows l.to).length : Int) ≤ (s3 : Int) + 1 := by omega
  have c3 : (y0 : Int) ≤ (g : Int) := Int.ofNat_le.mpr q0
  have c4 : (g : Int) < (y1 : Int) := Int.ofNat_lt.mpr q1
  refine st_skip (σ' := τ) (by rw [← Ok_R]; simp only [Ok_seq, Then_next, Then_ret, Turn_next, Turn_ret, Back_next, Back_ret, Ok_ite, Ok_and, Ok_or, Ok_cmp2, Ok_bind, Ok_ok, ev_none, ev_bool, ev_int, ev_str, ev_var, ev_glob, ev_fn, ev_bin, ev_neg, ev_not, ev_cmp, ev_list, ev_tup, ev_dictS, ev_dictI, ev_idx, ev_sl, ev_slFrom, ev_slTo, ev_call, ev_len, ev_listOf, ev_listRange, ev_listRev, ev_isinst, ev_toInt, ev_max, ev_min, ev_sum, ev_nil, ev_cons, ex_assign, ex_setItem, ex_append, ex_clear, ex_expr, ex_ret, ex_nil, bind_ok, ofB_some, cm_Eq, cm_NotEq, cm_Lt, cm_LtE, cm_Gt, cm_GtE, cm_Is, cm_IsNot, cm_In, cm_NotIn, eq_ii, eq_ss, eq_bb, eq_rr, eq_tt, eq_nx, eq_in, no_none, no_int, no_ref, no_tup, ist_ii, ist_ib, ist_bb, ist_tt, ist_ss, V.bool.injEq, F.ret.injEq, reduceCtorEq, and_true, true_and, false_and, and_false, or_false, false_or, exists_eq_left', decide_eq_true_eq, decide_eq_false_iff_not, exists_false, exists_const, Option.some.injEq, Bool.not_eq_true', Bool.not_eq_false', Bool.true_eq_false, Bool.false_eq_true, beq_iff_eq, beq_eq_false_iff_ne, ne_eq, not_true_eq_false, not_false_eq_true, Option.map_some, Bool.not_true, Bool.not_false, beq_self_eq_true, List.map_cons, List.map_nil, List.replicate_succ, List.replicate_zero, List.cons_append, List.nil_append, List.getElem?_cons_zero, List.getElem?_cons_succ, List.set_cons_zero, List.set_cons_succ, Nat.reduceSub, Nat.reduceAdd, List.length_cons, List.length_nil, Nat.zero_add, Nat.reduceLeDiff, if_true, if_false, stepV, idx_tup2, bin_add, len_map hbx, c1, c2, decide_false]) ?_
  refine st_ret (v := .bool true) (σ' := τ) (by rw [← Ok_R]; simp only [Ok_seq, Then_next, Then_ret, Turn_next, Turn_ret, Back_next, Back_ret, Ok_ite, Ok_and, Ok_or, Ok_cmp2, Ok_bind, Ok_ok, ev_none, ev_bool, ev_int, ev_str, ev_var, ev_glob, ev_fn, ev_bin, ev_neg, ev_not, ev_cmp, ev_list, ev_tup, ev_dictS, ev_dictI, ev_idx, ev_sl, ev_slFrom, ev_slTo, ev_call, ev_len, ev_listOf, ev_listRange, ev_listRev, ev_isinst, ev_toInt, ev_max, ev_min, ev_sum, ev_nil, ev_cons, ex_assign, ex_setItem, ex_append, ex_clear, ex_expr, ex_ret, ex_nil, bind_ok, ofB_some, cm_Eq, cm_NotEq, cm_Lt, cm_LtE, cm_Gt, cm_GtE, cm_Is, cm_IsNot, cm_In, cm_NotIn, eq_ii, eq_ss, eq_bb, eq_rr, eq_tt, eq_nx, eq_in, no_none, no_int, no_ref, no_tup, ist_ii, ist_ib, ist_bb, ist_tt, ist_ss, V.bool.injEq, F.ret.injEq, reduceCtorEq, and_true, true_and, false_and, and_false, or_false, false_or, exists_eq_left', decide_eq_true_eq, decide_eq_false_iff_not, exists_false, exists_const, Option.some.injEq, Bool.not_eq_true', Bool.not_eq_false', Bool.true_eq_false, Bool.false_eq_true, beq_iff_eq, beq_eq_false_iff_ne, ne_eq, not_true_eq_false, not_false_eq_true, Option.map_some, Bool.not_true, Bool.not_false, beq_self_eq_true, List.map_cons, List.map_nil, List.replicate_succ, List.replicate_zero, List.cons_append, List.nil_append, List.getElem?_cons_zero, List.getElem?_cons_succ, List.set_cons_zero, List.set_cons_succ, Nat.reduceSub, Nat.reduceAdd, List.length_cons, List.length_nil, Nat.zero_add, Nat.reduceLeDiff, if_true, if_false, stepV, ov, idx_tup2, bin_add, e0, e1, ha, e3, c3, c4, decide_true]) ?_
  exact ⟨rfl, rfl⟩

variable {kl kf kn g1 g2 ke ko ks kk ka kL : Nat}
theorem steps_ok {d k kt jr jf H : Nat} {rows : List Rw} {fs : List Nat} (X : Fall P G N kl kf kn g1 g2 ke ko ks kk ka kL) (ht : P[kt]? = some (B.top_line ke kn)) (hp : P[k]? = some (B.steps kL kt)) (hj : σ[jr]? = some (.list (rows.map rv))) (hjf : σ[jf]? = some (.list (fs.map natV))) (hfs : ∀ x ∈ fs, x < H) (hG : Hist H rows) (h1 : 1 ≤ H) (h40 : H ≤ 40) (hr : rows.length ≤ 1000) :
    Ok (callF ns G P N (d + 5) k [.int (H : Int), .ref jr, .ref jf] σ) (fun v τ => ∃ jh ss f, v = .ref jh ∧ σ <+: τ ∧ σ.length ≤ jh ∧ τ[jh]? = some (.list (ss.map stepV)) ∧ Chain rows (topFor rows fs) ss f ∧ Sound rows f ∧ Below H rows (topFor rows fs) f) := by
  refine ok_call hp rfl ?_
  simp only [B.steps, Ok_seq, Then_next, Then_ret, Turn_next, Turn_ret, Back_next, Back_ret, Ok_ite, Ok_and, Ok_or, Ok_cmp2, Ok_bind, Ok_ok, ev_none, ev_bool, ev_int, ev_str, ev_var, ev_glob, ev_fn, ev_bin, ev_neg, ev_not, ev_cmp, ev_list, ev_tup, ev_dictS, ev_dictI, ev_idx, ev_sl, ev_slFrom, ev_slTo, ev_call, ev_len, ev_listOf, ev_listRange, ev_listRev, ev_isinst, ev_toInt, ev_max, ev_min, ev_sum, ev_nil, ev_cons, ex_assign, ex_setItem, ex_append, ex_clear, ex_expr, ex_ret, ex_nil, bind_ok, ofB_some, cm_Eq, cm_NotEq, cm_Lt, cm_LtE, cm_Gt, cm_GtE, cm_Is, cm_IsNot, cm_In, cm_NotIn, eq_ii, eq_ss, eq_bb, eq_rr, eq_tt, eq_nx, eq_in, no_none, no_int, no_ref, no_tup, ist_ii, ist_ib, ist_bb, ist_tt, ist_ss, V.bool.injEq, F.ret.injEq, reduceCtorEq, and_true, true_and, false_and, and_false, or_false, false_or, exists_eq_left', decide_eq_true_eq, decide_eq_false_iff_not, exists_false, exists_const, Option.some.injEq, Bool.not_eq_true', Bool.not_eq_false', Bool.true_eq_false, Bool.false_eq_true, beq_iff_eq, beq_eq_false_iff_ne, ne_eq, not_true_eq_false, not_false_eq_true, Option.map_some, Bool.not_true, Bool.not_false, beq_self_eq_true, List.map_cons, List.map_nil, List.replicate_succ, List.replicate_zero, List.cons_append, List.nil_append, List.getElem?_cons_zero, List.getElem?_cons_succ, List.set_cons_zero, List.set_cons_succ, Nat.reduceSub, Nat.reduceAdd, List.length_cons, List.length_nil, Nat.zero_add, Nat.reduceLeDiff, if_true, if_false]
  refine (top_line_ok (d := d) X.prj X.ends X.ends_of ht hj hjf hfs hG h1 h40 hr).mono fun v τ1 hv => ?_
  obtain ⟨jt, rfl, p1, hjt⟩ := hv
  refine (X.lowered (d := d) (at_pre hj p1) hjt topFor_has hG h1 h40 hr).mono fun v τ2 hv => ?_
  obtain ⟨jf, jh, ss, f, rfl, p2, hjf0, _, hjf, _, hC, hS, hB⟩ := hv
  have := pre_len p1
  simp only [Ok_seq, Then_next, Then_ret, Turn_next, Turn_ret, Back_next, Back_ret, Ok_ite, Ok_and, Ok_or, Ok_cmp2, Ok_bind, Ok_ok, ev_none, ev_bool, ev_int, ev_str, ev_var, ev_glob, ev_fn, ev_bin, ev_neg, ev_not, ev_cmp, ev_list, ev_tup, ev_dictS, ev_dictI, ev_idx, ev_sl, ev_slFrom, ev_slTo, ev_call, ev_len, ev_listOf, ev_listRange, ev_listRev, ev_isinst, ev_toInt, ev_max, ev_min, ev_sum, ev_nil, ev_cons, ex_assign, ex_setItem, ex_append, ex_clear, ex_expr, ex_ret, ex_nil, bind_ok, ofB_some, cm_Eq, cm_NotEq, cm_Lt, cm_LtE, cm_Gt, cm_GtE, cm_Is, cm_IsNot, cm_In, cm_NotIn, eq_ii, eq_ss, eq_bb, eq_rr, eq_tt, eq_nx, eq_in, no_none, no_int, no_ref, no_tup, ist_ii, ist_ib, ist_bb, ist_tt, ist_ss, V.bool.injEq, F.ret.injEq, reduceCtorEq, and_true, true_and, false_and, and_false, or_false, false_or, exists_eq_left', decide_eq_true_eq, decide_eq_false_iff_not, exists_false, exists_const, Option.some.injEq, Bool.not_eq_true', Bool.not_eq_false', Bool.true_eq_false, Bool.false_eq_true, beq_iff_eq, beq_eq_false_iff_ne, ne_eq, not_true_eq_false, not_false_eq_true, Option.map_some, Bool.not_true, Bool.not_false, beq_self_eq_true, List.map_cons, List.map_nil, List.replicate_succ, List.replicate_zero, List.cons_append, List.nil_append, List.getElem?_cons_zero, List.getElem?_cons_succ, List.set_cons_zero, List.set_cons_succ, Nat.reduceSub, Nat.reduceAdd, List.length_cons, List.length_nil, Nat.zero_add, Nat.reduceLeDiff, if_true, if_false, idx_tup0]
  exact ⟨jf, ss, f, rfl, p1.trans p2, by omega, hjf, hC, hS, hB⟩
end
end Mine

namespace Mine
open PySem
section
variable {ns : List Int} {G : List Int} {P : List Fn} {C : Nat → List V → Store → R V} {N : Nat} {σ τ : Store} {ρ : Loc}
variable {kl kf kn g1 g2 ke ko ks kk ka kL : Nat}

/-- what stands before the line of law 08 is made -/
structure At08 (υ : Store) (H jr jf jt js : Nat) (rows : List Rw) (fs : List Nat) : Prop where
  r : υ[jr]? = some (.list (rows.map rv))
  f : υ[jf]? = some (.list (fs.map natV))
  t : Told υ jt H rows
  s : Sent υ js rows
theorem At08.pre {H jr jf jt js : Nat} {rows : List Rw} {fs : List Nat} (a : At08 σ H jr jf jt js rows fs) (p : σ <+: τ) : At08 τ H jr jf jt js rows fs :=
  ⟨at_pre a.r p, at_pre a.f p, a.t.pre p, a.s.pre p⟩
/-- what stands behind: the line, the copies, the steps -/
structure Mid (υ τ : Store) (H jc : Nat) (rows : List Rw) (fs : List Nat) (ss : List (Nat × Nat × Nat)) (f : Nat → Nat) : Prop where
  pre : υ <+: τ
  line : τ[υ.length]? = some (.list ((lineOf H f).map natV))
  h : τ[υ.length + 1]? = some (.list (rows.map rv))
  g : τ[υ.length + 2]? = some (.list (fs.map natV))
  c : τ[jc]? = some (.list (ss.map stepV))
  lt : υ.length < jc
theorem Mid.app {υ τ' : Store} {H jc : Nat} {rows : List Rw} {fs : List Nat} {ss : List (Nat × Nat × Nat)} {f : Nat → Nat} (m : Mid υ τ H jc rows fs ss f) (p : τ <+: τ') : Mid υ τ' H jc rows fs ss f :=
  ⟨m.pre.trans p, at_pre m.line p, at_pre m.h p, at_pre m.g p, at_pre m.c p, m.lt⟩
theorem Mid.put {υ : Store} {H jc x v : Nat} {rows : List Rw} {fs : List Nat} {ss : List (Nat × Nat × Nat)} {f : Nat → Nat} (m : Mid υ τ H jc rows fs ss f) (hx : x < H) :
    setV (.ref υ.length) (.int (x : Int)) (.int (v : Int)) τ = .ok () (τ.set υ.length (.list ((lineOf H (upd f x v)).map natV))) ∧ Mid υ (τ.set υ.length (.list ((lineOf H (upd f x v)).map natV))) H jc rows fs ss (upd f x v) := by
  refine ⟨?_, pre_set m.pre (Nat.le_refl _), at_set m.line, at_set_ne m.h (Nat.ne_of_lt (Nat.lt_succ_self _)), at_set_ne m.g (Nat.ne_of_lt (Nat.lt_succ_of_lt (Nat.lt_succ_self _))), at_set_ne m.c (Nat.ne_of_lt m.lt), m.lt⟩
  rw [set_list m.line (by rw [List.length_map, lineOf_len]; exact hx), ← lineOf_set hx, List.map_set]
  rfl

/-- the part of law 08 behind the steps -/
noncomputable def rest08 (kG kS kW kz : Nat) : Ss := (.cons (.for 10 (.seq (.var 9)) (B.law_99ac_s1 kG))
  (.cons (.ite (.cmp .IsNot (.call kS (.cons (.var 5) (.cons (.var 4) (.cons (.var 6) .nil)))) .none) (.cons (.ret (.bool false))
  .nil) .nil)
  (.cons (.ret (.and (.call kW (.cons (.call kz (.cons (.var 1) (.cons (.var 7) (.cons (.var 8) .nil)))) (.cons (.var 6) .nil))) (.and (.cmp .Eq (.var 7) (.var 2)) (.cmp .Eq (.var 8) (.var 3)))))
  .nil)))

theorem law08_end {d kG kS kW kw kt kz jr jf jt js jc H : Nat} {rows : List Rw} {fs : List Nat} {ss : List (Nat × Nat × Nat)} {f : Nat → Nat} {υ : Store} (X : Fall P G N kl kf kn g1 g2 ke ko ks kk ka kL) (hw : P[kw]? = some B.L_whole) (hW : P[kW]? = some (B.L_wholes kw)) (ht : P[kt]? = some (B.top_line ke kn)) (hz : P[kz]? = some (B.last_line kL kt)) (hG2 : P[kG]? = some (B.L_good_step kS kw)) (hS2 : P[kS]? = some B.L_first_stray)
    (A : At08 υ H jr jf jt js rows fs) (M : Mid υ τ H jc rows fs ss (topFor rows fs)) (hC : Chain rows (topFor rows fs) ss f) (hSo : Sound rows f) (hB : Below H rows (topFor rows fs) f) (hfs : ∀ x ∈ fs, x < H) (hG : Hist H rows) (h1 : 1 ≤ H) (h40 : H ≤ 40) (hr : rows.length ≤ 1000) :
    Ok (exSs ns G (callF ns G P N (d + 5)) N (rest08 kG kS kW kz) [some V.scr, some (V.int (H : Int)), some (V.ref jr), some (V.ref jf), some (V.ref jt), some (V.ref js), some (V.ref υ.length), some (V.ref (υ.length + 1)), some (V.ref (υ.length + 2)), some (V.ref jc), none, none] τ) (Back fun v _ => v = .bool true) := by
  have szH : H ≤ sizeMax := Nat.le_trans h40 (by decide)
  unfold rest08
  rw [Ok_seq]
  refine ok_for_seq (ss.map stepV) (j := jc) (by simp only [Ok_seq, Then_next, Then_ret, Turn_next, Turn_ret, Back_next, Back_ret, Ok_ite, Ok_and, Ok_or, Ok_cmp2, Ok_bind, Ok_ok, ev_none, ev_bool, ev_int, ev_str, ev_var, ev_glob, ev_fn, ev_bin, ev_neg, ev_not, ev_cmp, ev_list, ev_tup, ev_dictS, ev_dictI, ev_idx, ev_sl, ev_slFrom, ev_slTo, ev_call, ev_len, ev_listOf, ev_listRange, ev_listRev, ev_isinst, ev_toInt, ev_max, ev_min, ev_sum, ev_nil, ev_cons, ex_assign, ex_setItem, ex_append, ex_clear, ex_expr, ex_ret, ex_nil, bind_ok, ofB_some, cm_Eq, cm_NotEq, cm_Lt, cm_LtE, cm_Gt, cm_GtE, cm_Is, cm_IsNot, cm_In, cm_NotIn, eq_ii, eq_ss, eq_bb, eq_rr, eq_tt, eq_nx, eq_in, no_none, no_int, no_ref, no_tup, ist_ii, ist_ib, ist_bb, ist_tt, ist_ss, V.bool.injEq, F.ret.injEq, reduceCtorEq, and_true, true_and, false_and, and_false, or_false, false_or, exists_eq_left', decide_eq_true_eq, decide_eq_false_iff_not, exists_false, exists_const, Option.some.injEq, Bool.not_eq_true', Bool.not_eq_false', Bool.true_eq_false, Bool.false_eq_true, beq_iff_eq, beq_eq_false_iff_ne, ne_eq, not_true_eq_false, not_false_eq_true, Option.map_some, Bool.not_true, Bool.not_false, beq_self_eq_true, List.map_cons, List.map_nil, List.replicate_succ, List.replicate_zero, List.cons_append, List.nil_append, List.getElem?_cons_zero, List.getElem?_cons_succ, List.set_cons_zero, List.set_cons_succ, Nat.reduceSub, Nat.reduceAdd, List.length_cons, List.length_nil, Nat.zero_add, Nat.reduceLeDiff, if_true, if_false]) (fun i ρ' τ' => Mid υ τ' H jc rows fs ss (after (topFor rows fs) (ss.take i)) ∧ Has H rows (after (topFor rows fs) (ss.take i)) ∧ ∃ o, ρ' = [some V.scr, some (V.int (H : Int)), some (V.ref jr), some (V.ref jf), some (V.ref jt), some (V.ref js), some (V.ref υ.length), some (V.ref (υ.length + 1)), some (V.ref (υ.length + 2)), some (V.ref jc), o, none])
    (fun i ρ' τ' h => h.1.c) ⟨M, topFor_has, _, rfl⟩ ?_ ?_
  · rintro i v ρ' τ' hv ⟨M, hf, o, rfl⟩
    rw [List.getElem?_map] at hv
    cases hsi : ss[i]? with
    | none => rw [hsi] at hv; cases hv
    | some s =>
      rw [hsi] at hv; cases hv
      obtain ⟨l, g, r, hb, hl, hg, e1, e2⟩ := hC.at i s hsi
      have hto := (hG.letter (List.mem_of_getElem? hl)).2.1
      have good := good_step_ok (ns := ns) (G := G) (N := N) (d := d + 3) hG2 hS2 hw (A.pre M.pre).s (A.pre M.pre).t M.line hf hG h40 hr hb hl hg e1 e2
      have nx : after (topFor rows fs) (ss.take (i + 1)) = upd (after (topFor rows fs) (ss.take i)) s.2.1 s.2.2 := by rw [List.take_add_one, hsi, Option.toList_some, after_snoc]
      have hlt : s.2.2 < (knownOf rows s.2.1).length := by rw [e1, e2]; exact numb_lt (Nat.lt_of_lt_of_le (by decide) knownOf_two)
      replace M := M.app (List.prefix_append τ' [.list ((lineOf H (far rows (after (topFor rows fs) (ss.take i)))).map natV)])
      obtain ⟨s5, M⟩ := M.put (x := s.2.1) (v := s.2.2) (by rw [e1]; exact hto)
      unfold B.law_99ac_s1
      refine st_skip (by rw [← Ok_R]; simp only [Ok_seq, Then_next, Then_ret, Turn_next, Turn_ret, Back_next, Back_ret, Ok_ite, Ok_and, Ok_or, Ok_cmp2, Ok_bind, Ok_ok, ev_none, ev_bool, ev_int, ev_str, ev_var, ev_glob, ev_fn, ev_bin, ev_neg, ev_not, ev_cmp, ev_list, ev_tup, ev_dictS, ev_dictI, ev_idx, ev_sl, ev_slFrom, ev_slTo, ev_call, ev_len, ev_listOf, ev_listRange, ev_listRev, ev_isinst, ev_toInt, ev_max, ev_min, ev_sum, ev_nil, ev_cons, ex_assign, ex_setItem, ex_append, ex_clear, ex_expr, ex_ret, ex_nil, bind_ok, ofB_some, cm_Eq, cm_NotEq, cm_Lt, cm_LtE, cm_Gt, cm_GtE, cm_Is, cm_IsNot, cm_In, cm_NotIn, eq_ii, eq_ss, eq_bb, eq_rr, eq_tt, eq_nx, eq_in, no_none, no_int, no_ref, no_tup, ist_ii, ist_ib, ist_bb, ist_tt, ist_ss, V.bool.injEq, F.ret.injEq, reduceCtorEq, and_true, true_and, false_and, and_false, or_false, false_or, exists_eq_left', decide_eq_true_eq, decide_eq_false_iff_not, exists_false, exists_const, Option.some.injEq, Bool.not_eq_true', Bool.not_eq_false', Bool.true_eq_false, Bool.false_eq_true, beq_iff_eq, beq_eq_false_iff_ne, ne_eq, not_true_eq_false, not_false_eq_true, Option.map_some, Bool.not_true, Bool.not_false, beq_self_eq_true, List.map_cons, List.map_nil, List.replicate_succ, List.replicate_zero, List.cons_append, List.nil_append, List.getElem?_cons_zero, List.getElem?_cons_succ, List.set_cons_zero, List.set_cons_succ, Nat.reduceSub, Nat.reduceAdd, List.length_cons, List.length_nil, Nat.zero_add, Nat.reduceLeDiff, if_true, if_false, good]; first | exact ⟨rfl, rfl⟩ | rfl) ?_
      refine st_set (v := .int (s.2.2 : Int)) (xv := .ref υ.length) (iv := .int (s.2.1 : Int)) (by simp only [Ok_seq, Then_next, Then_ret, Turn_next, Turn_ret, Back_next, Back_ret, Ok_ite, Ok_and, Ok_or, Ok_cmp2, Ok_bind, Ok_ok, ev_none, ev_bool, ev_int, ev_str, ev_var, ev_glob, ev_fn, ev_bin, ev_neg, ev_not, ev_cmp, ev_list, ev_tup, ev_dictS, ev_dictI, ev_idx, ev_sl, ev_slFrom, ev_slTo, ev_call, ev_len, ev_listOf, ev_listRange, ev_listRev, ev_isinst, ev_toInt, ev_max, ev_min, ev_sum, ev_nil, ev_cons, ex_assign, ex_setItem, ex_append, ex_clear, ex_expr, ex_ret, ex_nil, bind_ok, ofB_some, cm_Eq, cm_NotEq, cm_Lt, cm_LtE, cm_Gt, cm_GtE, cm_Is, cm_IsNot, cm_In, cm_NotIn, eq_ii, eq_ss, eq_bb, eq_rr, eq_tt, eq_nx, eq_in, no_none, no_int, no_ref, no_tup, ist_ii, ist_ib, ist_bb, ist_tt, ist_ss, V.bool.injEq, F.ret.injEq, reduceCtorEq, and_true, true_and, false_and, and_false, or_false, false_or, exists_eq_left', decide_eq_true_eq, decide_eq_false_iff_not, exists_false, exists_const, Option.some.injEq, Bool.not_eq_true', Bool.not_eq_false', Bool.true_eq_false, Bool.false_eq_true, beq_iff_eq, beq_eq_false_iff_ne, ne_eq, not_true_eq_false, not_false_eq_true, Option.map_some, Bool.not_true, Bool.not_false, beq_self_eq_true, List.map_cons, List.map_nil, List.replicate_succ, List.replicate_zero, List.cons_append, List.nil_append, List.getElem?_cons_zero, List.getElem?_cons_succ, List.set_cons_zero, List.set_cons_succ, Nat.reduceSub, Nat.reduceAdd, List.length_cons, List.length_nil, Nat.zero_add, Nat.reduceLeDiff, if_true, if_false, stepV, idx_tup2]; rfl) rfl (by simp only [Ok_seq, Then_next, Then_ret, Turn_next, Turn_ret, Back_next, Back_ret, Ok_ite, Ok_and, Ok_or, Ok_cmp2, Ok_bind, Ok_ok, ev_none, ev_bool, ev_int, ev_str, ev_var, ev_glob, ev_fn, ev_bin, ev_neg, ev_not, ev_cmp, ev_list, ev_tup, ev_dictS, ev_dictI, ev_idx, ev_sl, ev_slFrom, ev_slTo, ev_call, ev_len, ev_listOf, ev_listRange, ev_listRev, ev_isinst, ev_toInt, ev_max, ev_min, ev_sum, ev_nil, ev_cons, ex_assign, ex_setItem, ex_append, ex_clear, ex_expr, ex_ret, ex_nil, bind_ok, ofB_some, cm_Eq, cm_NotEq, cm_Lt, cm_LtE, cm_Gt, cm_GtE, cm_Is, cm_IsNot, cm_In, cm_NotIn, eq_ii, eq_ss, eq_bb, eq_rr, eq_tt, eq_nx, eq_in, no_none, no_int, no_ref, no_tup, ist_ii, ist_ib, ist_bb, ist_tt, ist_ss, V.bool.injEq, F.ret.injEq, reduceCtorEq, and_true, true_and, false_and, and_false, or_false, false_or, exists_eq_left', decide_eq_true_eq, decide_eq_false_iff_not, exists_false, exists_const, Option.some.injEq, Bool.not_eq_true', Bool.not_eq_false', Bool.true_eq_false, Bool.false_eq_true, beq_iff_eq, beq_eq_false_iff_ne, ne_eq, not_true_eq_false, not_false_eq_true, Option.map_some, Bool.not_true, Bool.not_false, beq_self_eq_true, List.map_cons, List.map_nil, List.replicate_succ, List.replicate_zero, List.cons_append, List.nil_append, List.getElem?_cons_zero, List.getElem?_cons_succ, List.set_cons_zero, List.set_cons_succ, Nat.reduceSub, Nat.reduceAdd, List.length_cons, List.length_nil, Nat.zero_add, Nat.reduceLeDiff, if_true, if_false, stepV, idx_tup1]) s5 ?_
      refine ⟨by rw [nx]; exact M, ?_, _, rfl⟩
      rw [nx]
      exact hf.upd hlt
  · rintro ρ' τ' ⟨M, hf, o, rfl⟩
    rw [List.length_map, List.take_length, ← hC.after] at M
    rw [List.length_map, List.take_length, ← hC.after] at hf
    have first := first_stray_ok (ns := ns) (G := G) (N := N) (d := d + 4) hS2 (A.pre M.pre).s (A.pre M.pre).t M.line hf hG h40 hr
    rw [sound_iff.mpr hSo] at first
    replace M := M.app (List.prefix_append τ' [.list ((lineOf H (far rows f)).map natV)])
    show Ok (exSs ns G (callF ns G P N (d + 5)) N _ _ τ') _
    refine st_skip (by rw [← Ok_R]; simp only [Ok_seq, Then_next, Then_ret, Turn_next, Turn_ret, Back_next, Back_ret, Ok_ite, Ok_and, Ok_or, Ok_cmp2, Ok_bind, Ok_ok, ev_none, ev_bool, ev_int, ev_str, ev_var, ev_glob, ev_fn, ev_bin, ev_neg, ev_not, ev_cmp, ev_list, ev_tup, ev_dictS, ev_dictI, ev_idx, ev_sl, ev_slFrom, ev_slTo, ev_call, ev_len, ev_listOf, ev_listRange, ev_listRev, ev_isinst, ev_toInt, ev_max, ev_min, ev_sum, ev_nil, ev_cons, ex_assign, ex_setItem, ex_append, ex_clear, ex_expr, ex_ret, ex_nil, bind_ok, ofB_some, cm_Eq, cm_NotEq, cm_Lt, cm_LtE, cm_Gt, cm_GtE, cm_Is, cm_IsNot, cm_In, cm_NotIn, eq_ii, eq_ss, eq_bb, eq_rr, eq_tt, eq_nx, eq_in, no_none, no_int, no_ref, no_tup, ist_ii, ist_ib, ist_bb, ist_tt, ist_ss, V.bool.injEq, F.ret.injEq, reduceCtorEq, and_true, true_and, false_and, and_false, or_false, false_or, exists_eq_left', decide_eq_true_eq, decide_eq_false_iff_not, exists_false, exists_const, Option.some.injEq, Bool.not_eq_true', Bool.not_eq_false', Bool.true_eq_false, Bool.false_eq_true, beq_iff_eq, beq_eq_false_iff_ne, ne_eq, not_true_eq_false, not_false_eq_true, Option.map_some, Bool.not_true, Bool.not_false, beq_self_eq_true, List.map_cons, List.map_nil, List.replicate_succ, List.replicate_zero, List.cons_append, List.nil_append, List.getElem?_cons_zero, List.getElem?_cons_succ, List.set_cons_zero, List.set_cons_succ, Nat.reduceSub, Nat.reduceAdd, List.length_cons, List.length_nil, Nat.zero_add, Nat.reduceLeDiff, if_true, if_false, first, List.head?_nil, ov]; first | exact ⟨rfl, rfl⟩ | rfl) ?_
    clear first
    generalize τ' ++ [Cell.list ((lineOf H (far rows f)).map natV)] = τ1 at *
    simp only [Ok_seq, Then_next, Then_ret, Turn_next, Turn_ret, Back_next, Back_ret, Ok_ite, Ok_and, Ok_or, Ok_cmp2, Ok_bind, Ok_ok, ev_none, ev_bool, ev_int, ev_str, ev_var, ev_glob, ev_fn, ev_bin, ev_neg, ev_not, ev_cmp, ev_list, ev_tup, ev_dictS, ev_dictI, ev_idx, ev_sl, ev_slFrom, ev_slTo, ev_call, ev_len, ev_listOf, ev_listRange, ev_listRev, ev_isinst, ev_toInt, ev_max, ev_min, ev_sum, ev_nil, ev_cons, ex_assign, ex_setItem, ex_append, ex_clear, ex_expr, ex_ret, ex_nil, bind_ok, ofB_some, cm_Eq, cm_NotEq, cm_Lt, cm_LtE, cm_Gt, cm_GtE, cm_Is, cm_IsNot, cm_In, cm_NotIn, eq_ii, eq_ss, eq_bb, eq_rr, eq_tt, eq_nx, eq_in, no_none, no_int, no_ref, no_tup, ist_ii, ist_ib, ist_bb, ist_tt, ist_ss, V.bool.injEq, F.ret.injEq, reduceCtorEq, and_true, true_and, false_and, and_false, or_false, false_or, exists_eq_left', decide_eq_true_eq, decide_eq_false_iff_not, exists_false, exists_const, Option.some.injEq, Bool.not_eq_true', Bool.not_eq_false', Bool.true_eq_false, Bool.false_eq_true, beq_iff_eq, beq_eq_false_iff_ne, ne_eq, not_true_eq_false, not_false_eq_true, Option.map_some, Bool.not_true, Bool.not_false, beq_self_eq_true, List.map_cons, List.map_nil, List.replicate_succ, List.replicate_zero, List.cons_append, List.nil_append, List.getElem?_cons_zero, List.getElem?_cons_succ, List.set_cons_zero, List.set_cons_succ, Nat.reduceSub, Nat.reduceAdd, List.length_cons, List.length_nil, Nat.zero_add, Nat.reduceLeDiff, if_true, if_false]
    refine (last_line_ok (d := d) X ht hz M.h M.g hfs hG h1 h40 hr).mono fun v τ2 hv => ?_
    obtain ⟨jh, f', rfl, p2, _, hjh, hS', hB'⟩ := hv
    have eqf : lineOf H f' = lineOf H f := lineOf_congr (hB'.unique hB hS' hSo)
    rw [eqf] at hjh
    replace M := M.app p2
    have A2 := A.pre M.pre
    rw [wholes_ok (d := d + 3) hW hw hjh M.line (by rw [lineOf_len]; exact szH)]
    simp only [Ok_seq, Then_next, Then_ret, Turn_next, Turn_ret, Back_next, Back_ret, Ok_ite, Ok_and, Ok_or, Ok_cmp2, Ok_bind, Ok_ok, ev_none, ev_bool, ev_int, ev_str, ev_var, ev_glob, ev_fn, ev_bin, ev_neg, ev_not, ev_cmp, ev_list, ev_tup, ev_dictS, ev_dictI, ev_idx, ev_sl, ev_slFrom, ev_slTo, ev_call, ev_len, ev_listOf, ev_listRange, ev_listRev, ev_isinst, ev_toInt, ev_max, ev_min, ev_sum, ev_nil, ev_cons, ex_assign, ex_setItem, ex_append, ex_clear, ex_expr, ex_ret, ex_nil, bind_ok, ofB_some, cm_Eq, cm_NotEq, cm_Lt, cm_LtE, cm_Gt, cm_GtE, cm_Is, cm_IsNot, cm_In, cm_NotIn, eq_ii, eq_ss, eq_bb, eq_rr, eq_tt, eq_nx, eq_in, no_none, no_int, no_ref, no_tup, ist_ii, ist_ib, ist_bb, ist_tt, ist_ss, V.bool.injEq, F.ret.injEq, reduceCtorEq, and_true, true_and, false_and, and_false, or_false, false_or, exists_eq_left', decide_eq_true_eq, decide_eq_false_iff_not, exists_false, exists_const, Option.some.injEq, Bool.not_eq_true', Bool.not_eq_false', Bool.true_eq_false, Bool.false_eq_true, beq_iff_eq, beq_eq_false_iff_ne, ne_eq, not_true_eq_false, not_false_eq_true, Option.map_some, Bool.not_true, Bool.not_false, beq_self_eq_true, List.map_cons, List.map_nil, List.replicate_succ, List.replicate_zero, List.cons_append, List.nil_append, List.getElem?_cons_zero, List.getElem?_cons_succ, List.set_cons_zero, List.set_cons_succ, Nat.reduceSub, Nat.reduceAdd, List.length_cons, List.length_nil, Nat.zero_add, Nat.reduceLeDiff, if_true, if_false, eq_rows M.h A2.r, eq_nats M.g A2.f, decide_true]

theorem law08_ok {d k kG kS kW kw kt kz kF kB kE kQ kc kh ky kr : Nat} (X : Fall P G N kl kf kn g1 g2 ke ko ks kk ka kL) (S : Start P kc kh ky kr) (hw : P[kw]? = some B.L_whole) (hW : P[kW]? = some (B.L_wholes kw)) (ht : P[kt]? = some (B.top_line ke kn)) (hz : P[kz]? = some (B.last_line kL kt)) (hQ : P[kQ]? = some (B.steps kL kt)) (hF : P[kF]? = some B.L_fallen_by_f2a7) (hB : P[kB]? = some B.L_ends_by) (hE : P[kE]? = some B.L_letters_by_8606) (hG2 : P[kG]? = some (B.L_good_step kS kw)) (hS2 : P[kS]? = some B.L_first_stray)
    (hp : P[k]? = some (B.law_99ac kh kc kr ky kF kB kE kW kt kQ kG kS kz)) (hns : ns.length ≤ 63) : Ok (callF ns G P N (d + 6) k [.scr] σ) (fun v _ => v = .bool true) := by
  refine ok_call hp rfl ?_
  refine law_start (d := d + 3) (fc := 3) S hns fun H jr rows τ2 h1 h40 hG hr hjr => ?_
  have cell : ∀ τ : Store, callF ns G P N (d + 5) kc [.scr, .int 2] τ = .ok (.int (cellAt ns 2)) τ := fun τ => cell_at_ok S.cell (by omega)
  have szH : H ≤ sizeMax := Nat.le_trans h40 (by decide)
  generalize cellAt ns 2 = c at *
  refine st_from (Q1 := Fell τ2 H) ?_ ?_
  · simp only [Ok_seq, Then_next, Then_ret, Turn_next, Turn_ret, Back_next, Back_ret, Ok_ite, Ok_and, Ok_or, Ok_cmp2, Ok_bind, Ok_ok, ev_none, ev_bool, ev_int, ev_str, ev_var, ev_glob, ev_fn, ev_bin, ev_neg, ev_not, ev_cmp, ev_list, ev_tup, ev_dictS, ev_dictI, ev_idx, ev_sl, ev_slFrom, ev_slTo, ev_call, ev_len, ev_listOf, ev_listRange, ev_listRev, ev_isinst, ev_toInt, ev_max, ev_min, ev_sum, ev_nil, ev_cons, ex_assign, ex_setItem, ex_append, ex_clear, ex_expr, ex_ret, ex_nil, bind_ok, ofB_some, cm_Eq, cm_NotEq, cm_Lt, cm_LtE, cm_Gt, cm_GtE, cm_Is, cm_IsNot, cm_In, cm_NotIn, eq_ii, eq_ss, eq_bb, eq_rr, eq_tt, eq_nx, eq_in, no_none, no_int, no_ref, no_tup, ist_ii, ist_ib, ist_bb, ist_tt, ist_ss, V.bool.injEq, F.ret.injEq, reduceCtorEq, and_true, true_and, false_and, and_false, or_false, false_or, exists_eq_left', decide_eq_true_eq, decide_eq_false_iff_not, exists_false, exists_const, Option.some.injEq, Bool.not_eq_true', Bool.not_eq_false', Bool.true_eq_false, Bool.false_eq_true, beq_iff_eq, beq_eq_false_iff_ne, ne_eq, not_true_eq_false, not_false_eq_true, Option.map_some, Bool.not_true, Bool.not_false, beq_self_eq_true, List.map_cons, List.map_nil, List.replicate_succ, List.replicate_zero, List.cons_append, List.nil_append, List.getElem?_cons_zero, List.getElem?_cons_succ, List.set_cons_zero, List.set_cons_succ, Nat.reduceSub, Nat.reduceAdd, List.length_cons, List.length_nil, Nat.zero_add, Nat.reduceLeDiff, if_true, if_false, cell]
    exact fallen8_ok hF h40
  rintro _ τ3 ⟨jf, fs, rfl, p3, hjf, hfs, hfl⟩
  replace hjr := at_pre hjr p3
  clear p3
  refine st_from (Q1 := fun v τ => ∃ jt, v = .ref jt ∧ τ3 <+: τ ∧ Told τ jt H rows) ?_ ?_
  · simp only [Ok_seq, Then_next, Then_ret, Turn_next, Turn_ret, Back_next, Back_ret, Ok_ite, Ok_and, Ok_or, Ok_cmp2, Ok_bind, Ok_ok, ev_none, ev_bool, ev_int, ev_str, ev_var, ev_glob, ev_fn, ev_bin, ev_neg, ev_not, ev_cmp, ev_list, ev_tup, ev_dictS, ev_dictI, ev_idx, ev_sl, ev_slFrom, ev_slTo, ev_call, ev_len, ev_listOf, ev_listRange, ev_listRev, ev_isinst, ev_toInt, ev_max, ev_min, ev_sum, ev_nil, ev_cons, ex_assign, ex_setItem, ex_append, ex_clear, ex_expr, ex_ret, ex_nil, bind_ok, ofB_some, cm_Eq, cm_NotEq, cm_Lt, cm_LtE, cm_Gt, cm_GtE, cm_Is, cm_IsNot, cm_In, cm_NotIn, eq_ii, eq_ss, eq_bb, eq_rr, eq_tt, eq_nx, eq_in, no_none, no_int, no_ref, no_tup, ist_ii, ist_ib, ist_bb, ist_tt, ist_ss, V.bool.injEq, F.ret.injEq, reduceCtorEq, and_true, true_and, false_and, and_false, or_false, false_or, exists_eq_left', decide_eq_true_eq, decide_eq_false_iff_not, exists_false, exists_const, Option.some.injEq, Bool.not_eq_true', Bool.not_eq_false', Bool.true_eq_false, Bool.false_eq_true, beq_iff_eq, beq_eq_false_iff_ne, ne_eq, not_true_eq_false, not_false_eq_true, Option.map_some, Bool.not_true, Bool.not_false, beq_self_eq_true, List.map_cons, List.map_nil, List.replicate_succ, List.replicate_zero, List.cons_append, List.nil_append, List.getElem?_cons_zero, List.getElem?_cons_succ, List.set_cons_zero, List.set_cons_succ, Nat.reduceSub, Nat.reduceAdd, List.length_cons, List.length_nil, Nat.zero_add, Nat.reduceLeDiff, if_true, if_false]
    refine (ends_by_ok (σ := τ3) (d := d + 4) hB hjr hG h40 hr).mono fun v τ4 hv => ?_
    obtain ⟨jk, as, rfl, hM, hjk, hjk0, hjkn⟩ := hv
    exact ⟨jk, rfl, hM.pre, as, hjk, hM.nl⟩
  rintro _ τ4 ⟨jt, rfl, p4, hT⟩
  replace hjr := at_pre hjr p4
  replace hjf := at_pre hjf p4
  clear p4
  refine st_from (Q1 := fun v τ => ∃ js, v = .ref js ∧ τ4 <+: τ ∧ Sent τ js rows) ?_ ?_
  · simp only [Ok_seq, Then_next, Then_ret, Turn_next, Turn_ret, Back_next, Back_ret, Ok_ite, Ok_and, Ok_or, Ok_cmp2, Ok_bind, Ok_ok, ev_none, ev_bool, ev_int, ev_str, ev_var, ev_glob, ev_fn, ev_bin, ev_neg, ev_not, ev_cmp, ev_list, ev_tup, ev_dictS, ev_dictI, ev_idx, ev_sl, ev_slFrom, ev_slTo, ev_call, ev_len, ev_listOf, ev_listRange, ev_listRev, ev_isinst, ev_toInt, ev_max, ev_min, ev_sum, ev_nil, ev_cons, ex_assign, ex_setItem, ex_append, ex_clear, ex_expr, ex_ret, ex_nil, bind_ok, ofB_some, cm_Eq, cm_NotEq, cm_Lt, cm_LtE, cm_Gt, cm_GtE, cm_Is, cm_IsNot, cm_In, cm_NotIn, eq_ii, eq_ss, eq_bb, eq_rr, eq_tt, eq_nx, eq_in, no_none, no_int, no_ref, no_tup, ist_ii, ist_ib, ist_bb, ist_tt, ist_ss, V.bool.injEq, F.ret.injEq, reduceCtorEq, and_true, true_and, false_and, and_false, or_false, false_or, exists_eq_left', decide_eq_true_eq, decide_eq_false_iff_not, exists_false, exists_const, Option.some.injEq, Bool.not_eq_true', Bool.not_eq_false', Bool.true_eq_false, Bool.false_eq_true, beq_iff_eq, beq_eq_false_iff_ne, ne_eq, not_true_eq_false, not_false_eq_true, Option.map_some, Bool.not_true, Bool.not_false, beq_self_eq_true, List.map_cons, List.map_nil, List.replicate_succ, List.replicate_zero, List.cons_append, List.nil_append, List.getElem?_cons_zero, List.getElem?_cons_succ, List.set_cons_zero, List.set_cons_succ, Nat.reduceSub, Nat.reduceAdd, List.length_cons, List.length_nil, Nat.zero_add, Nat.reduceLeDiff, if_true, if_false]
    refine (sendings_ok (σ := τ4) (d := d + 4) hE hjr hG hr).mono fun v τ5 hv => ?_
    exact ⟨_, hv.1, hv.2.pre, hv.2.sent⟩
  rintro _ υ ⟨js, rfl, p5, hSd⟩
  have A : At08 υ H jr jf jt js rows fs := ⟨at_pre hjr p5, at_pre hjf p5, hT.pre p5, hSd⟩
  clear p5 hjr hjf hT hSd
  have ktop : evE ns G (callF ns G P N (d + 5)) [some V.scr, some (V.int (H : Int)), some (V.ref jr), some (V.ref jf), some (V.ref jt), some (V.ref js), none, none, none, none, none, none] (.comp (.bin .Sub (.bin .Sub (.len (.idx (.var 4) (.var 11))) (.int 1)) (.toInt (.cmp .In (.var 11) (.var 3)))) 11 (.range (.var 1))) υ = .ok (.ref υ.length) (υ ++ [.list ((List.range H).map fun h => natV (topFor rows fs h))]) := by
    refine ev_comp_range (n := H) (by simp only [Ok_seq, Then_next, Then_ret, Turn_next, Turn_ret, Back_next, Back_ret, Ok_ite, Ok_and, Ok_or, Ok_cmp2, Ok_bind, Ok_ok, ev_none, ev_bool, ev_int, ev_str, ev_var, ev_glob, ev_fn, ev_bin, ev_neg, ev_not, ev_cmp, ev_list, ev_tup, ev_dictS, ev_dictI, ev_idx, ev_sl, ev_slFrom, ev_slTo, ev_call, ev_len, ev_listOf, ev_listRange, ev_listRev, ev_isinst, ev_toInt, ev_max, ev_min, ev_sum, ev_nil, ev_cons, ex_assign, ex_setItem, ex_append, ex_clear, ex_expr, ex_ret, ex_nil, bind_ok, ofB_some, cm_Eq, cm_NotEq, cm_Lt, cm_LtE, cm_Gt, cm_GtE, cm_Is, cm_IsNot, cm_In, cm_NotIn, eq_ii, eq_ss, eq_bb, eq_rr, eq_tt, eq_nx, eq_in, no_none, no_int, no_ref, no_tup, ist_ii, ist_ib, ist_bb, ist_tt, ist_ss, V.bool.injEq, F.ret.injEq, reduceCtorEq, and_true, true_and, false_and, and_false, or_false, false_or, exists_eq_left', decide_eq_true_eq, decide_eq_false_iff_not, exists_false, exists_const, Option.some.injEq, Bool.not_eq_true', Bool.not_eq_false', Bool.true_eq_false, Bool.false_eq_true, beq_iff_eq, beq_eq_false_iff_ne, ne_eq, not_true_eq_false, not_false_eq_true, Option.map_some, Bool.not_true, Bool.not_false, beq_self_eq_true, List.map_cons, List.map_nil, List.replicate_succ, List.replicate_zero, List.cons_append, List.nil_append, List.getElem?_cons_zero, List.getElem?_cons_succ, List.set_cons_zero, List.set_cons_succ, Nat.reduceSub, Nat.reduceAdd, List.length_cons, List.length_nil, Nat.zero_add, Nat.reduceLeDiff, if_true, if_false]) szH (fun i hi => ?_)
    obtain ⟨a, z1, hax⟩ := A.t.idx (ns := ns) hi
    have h2 := knownOf_two (rows := rows) (h := i)
    have e4 : ((knownOf rows i).length : Int) - 1 - (if decide (i ∈ fs) = true then 1 else 0) = ((topFor rows fs i : Nat) : Int) := by
      unfold topFor
      by_cases c : i ∈ fs
      · simp [c]; omega
      · simp [c]; omega
    simp only [Ok_seq, Then_next, Then_ret, Turn_next, Turn_ret, Back_next, Back_ret, Ok_ite, Ok_and, Ok_or, Ok_cmp2, Ok_bind, Ok_ok, ev_none, ev_bool, ev_int, ev_str, ev_var, ev_glob, ev_fn, ev_bin, ev_neg, ev_not, ev_cmp, ev_list, ev_tup, ev_dictS, ev_dictI, ev_idx, ev_sl, ev_slFrom, ev_slTo, ev_call, ev_len, ev_listOf, ev_listRange, ev_listRev, ev_isinst, ev_toInt, ev_max, ev_min, ev_sum, ev_nil, ev_cons, ex_assign, ex_setItem, ex_append, ex_clear, ex_expr, ex_ret, ex_nil, bind_ok, ofB_some, cm_Eq, cm_NotEq, cm_Lt, cm_LtE, cm_Gt, cm_GtE, cm_Is, cm_IsNot, cm_In, cm_NotIn, eq_ii, eq_ss, eq_bb, eq_rr, eq_tt, eq_nx, eq_in, no_none, no_int, no_ref, no_tup, ist_ii, ist_ib, ist_bb, ist_tt, ist_ss, V.bool.injEq, F.ret.injEq, reduceCtorEq, and_true, true_and, false_and, and_false, or_false, false_or, exists_eq_left', decide_eq_true_eq, decide_eq_false_iff_not, exists_false, exists_const, Option.some.injEq, Bool.not_eq_true', Bool.not_eq_false', Bool.true_eq_false, Bool.false_eq_true, beq_iff_eq, beq_eq_false_iff_ne, ne_eq, not_true_eq_false, not_false_eq_true, Option.map_some, Bool.not_true, Bool.not_false, beq_self_eq_true, List.map_cons, List.map_nil, List.replicate_succ, List.replicate_zero, List.cons_append, List.nil_append, List.getElem?_cons_zero, List.getElem?_cons_succ, List.set_cons_zero, List.set_cons_succ, Nat.reduceSub, Nat.reduceAdd, List.length_cons, List.length_nil, Nat.zero_add, Nat.reduceLeDiff, if_true, if_false, z1, len_map hax, bin_sub, in_nats A.f, natV]
    congr 2
    simpa using e4
  rw [show (List.range H).map (fun h => natV (topFor rows fs h)) = (lineOf H (topFor rows fs)).map natV from by rw [lineOf, List.map_map]; rfl] at ktop
  refine st_assign ktop ?_
  clear ktop
  have l6 : (υ ++ [Cell.list ((lineOf H (topFor rows fs)).map natV)])[υ.length]? = some (.list ((lineOf H (topFor rows fs)).map natV)) := at_end
  have A6 := A.pre (List.prefix_append υ [Cell.list ((lineOf H (topFor rows fs)).map natV)])
  have p6 : υ <+: υ ++ [Cell.list ((lineOf H (topFor rows fs)).map natV)] := List.prefix_append _ _
  have n6 : (υ ++ [Cell.list ((lineOf H (topFor rows fs)).map natV)]).length = υ.length + 1 := by rw [List.length_append]; rfl
  generalize υ ++ [Cell.list ((lineOf H (topFor rows fs)).map natV)] = τ6 at *
  refine st_assign (v := .ref τ6.length) (σ' := τ6 ++ [Cell.list (rows.map rv)]) (by rw [← Ok_R]; simp only [Ok_seq, Then_next, Then_ret, Turn_next, Turn_ret, Back_next, Back_ret, Ok_ite, Ok_and, Ok_or, Ok_cmp2, Ok_bind, Ok_ok, ev_none, ev_bool, ev_int, ev_str, ev_var, ev_glob, ev_fn, ev_bin, ev_neg, ev_not, ev_cmp, ev_list, ev_tup, ev_dictS, ev_dictI, ev_idx, ev_sl, ev_slFrom, ev_slTo, ev_call, ev_len, ev_listOf, ev_listRange, ev_listRev, ev_isinst, ev_toInt, ev_max, ev_min, ev_sum, ev_nil, ev_cons, ex_assign, ex_setItem, ex_append, ex_clear, ex_expr, ex_ret, ex_nil, bind_ok, ofB_some, cm_Eq, cm_NotEq, cm_Lt, cm_LtE, cm_Gt, cm_GtE, cm_Is, cm_IsNot, cm_In, cm_NotIn, eq_ii, eq_ss, eq_bb, eq_rr, eq_tt, eq_nx, eq_in, no_none, no_int, no_ref, no_tup, ist_ii, ist_ib, ist_bb, ist_tt, ist_ss, V.bool.injEq, F.ret.injEq, reduceCtorEq, and_true, true_and, false_and, and_false, or_false, false_or, exists_eq_left', decide_eq_true_eq, decide_eq_false_iff_not, exists_false, exists_const, Option.some.injEq, Bool.not_eq_true', Bool.not_eq_false', Bool.true_eq_false, Bool.false_eq_true, beq_iff_eq, beq_eq_false_iff_ne, ne_eq, not_true_eq_false, not_false_eq_true, Option.map_some, Bool.not_true, Bool.not_false, beq_self_eq_true, List.map_cons, List.map_nil, List.replicate_succ, List.replicate_zero, List.cons_append, List.nil_append, List.getElem?_cons_zero, List.getElem?_cons_succ, List.set_cons_zero, List.set_cons_succ, Nat.reduceSub, Nat.reduceAdd, List.length_cons, List.length_nil, Nat.zero_add, Nat.reduceLeDiff, if_true, if_false, A6.r, Ok_newL, List.length_map]; exact Nat.le_trans hr (by decide)) ?_
  have l7 := at_app (τ := [Cell.list (rows.map rv)]) l6
  have h7 : (τ6 ++ [Cell.list (rows.map rv)])[τ6.length]? = some (.list (rows.map rv)) := at_end
  have A7 := A6.pre (List.prefix_append τ6 [Cell.list (rows.map rv)])
  have p7 : υ <+: τ6 ++ [Cell.list (rows.map rv)] := pre_app p6
  have n7 : (τ6 ++ [Cell.list (rows.map rv)]).length = υ.length + 2 := by rw [List.length_append, n6]; rfl
  rw [n6] at h7
  rw [n6]
  generalize τ6 ++ [Cell.list (rows.map rv)] = τ7 at *
  clear l6 A6 p6 n6
  refine st_assign (v := .ref τ7.length) (σ' := τ7 ++ [Cell.list (fs.map natV)]) (by rw [← Ok_R]; simp only [Ok_seq, Then_next, Then_ret, Turn_next, Turn_ret, Back_next, Back_ret, Ok_ite, Ok_and, Ok_or, Ok_cmp2, Ok_bind, Ok_ok, ev_none, ev_bool, ev_int, ev_str, ev_var, ev_glob, ev_fn, ev_bin, ev_neg, ev_not, ev_cmp, ev_list, ev_tup, ev_dictS, ev_dictI, ev_idx, ev_sl, ev_slFrom, ev_slTo, ev_call, ev_len, ev_listOf, ev_listRange, ev_listRev, ev_isinst, ev_toInt, ev_max, ev_min, ev_sum, ev_nil, ev_cons, ex_assign, ex_setItem, ex_append, ex_clear, ex_expr, ex_ret, ex_nil, bind_ok, ofB_some, cm_Eq, cm_NotEq, cm_Lt, cm_LtE, cm_Gt, cm_GtE, cm_Is, cm_IsNot, cm_In, cm_NotIn, eq_ii, eq_ss, eq_bb, eq_rr, eq_tt, eq_nx, eq_in, no_none, no_int, no_ref, no_tup, ist_ii, ist_ib, ist_bb, ist_tt, ist_ss, V.bool.injEq, F.ret.injEq, reduceCtorEq, and_true, true_and, false_and, and_false, or_false, false_or, exists_eq_left', decide_eq_true_eq, decide_eq_false_iff_not, exists_false, exists_const, Option.some.injEq, Bool.not_eq_true', Bool.not_eq_false', Bool.true_eq_false, Bool.false_eq_true, beq_iff_eq, beq_eq_false_iff_ne, ne_eq, not_true_eq_false, not_false_eq_true, Option.map_some, Bool.not_true, Bool.not_false, beq_self_eq_true, List.map_cons, List.map_nil, List.replicate_succ, List.replicate_zero, List.cons_append, List.nil_append, List.getElem?_cons_zero, List.getElem?_cons_succ, List.set_cons_zero, List.set_cons_succ, Nat.reduceSub, Nat.reduceAdd, List.length_cons, List.length_nil, Nat.zero_add, Nat.reduceLeDiff, if_true, if_false, A7.f, Ok_newL, List.length_map]; exact Nat.le_trans hfl (by decide)) ?_
  have l8 := at_app (τ := [Cell.list (fs.map natV)]) l7
  have h8 := at_app (τ := [Cell.list (fs.map natV)]) h7
  have g8 : (τ7 ++ [Cell.list (fs.map natV)])[τ7.length]? = some (.list (fs.map natV)) := at_end
  have p8 : υ <+: τ7 ++ [Cell.list (fs.map natV)] := pre_app p7
  rw [n7] at g8
  rw [n7]
  generalize τ7 ++ [Cell.list (fs.map natV)] = τ8 at *
  clear l7 h7 A7 p7 n7
  rw [Ok_seq]
  simp only [Ok_seq, Then_next, Then_ret, Turn_next, Turn_ret, Back_next, Back_ret, Ok_ite, Ok_and, Ok_or, Ok_cmp2, Ok_bind, Ok_ok, ev_none, ev_bool, ev_int, ev_str, ev_var, ev_glob, ev_fn, ev_bin, ev_neg, ev_not, ev_cmp, ev_list, ev_tup, ev_dictS, ev_dictI, ev_idx, ev_sl, ev_slFrom, ev_slTo, ev_call, ev_len, ev_listOf, ev_listRange, ev_listRev, ev_isinst, ev_toInt, ev_max, ev_min, ev_sum, ev_nil, ev_cons, ex_assign, ex_setItem, ex_append, ex_clear, ex_expr, ex_ret, ex_nil, bind_ok, ofB_some, cm_Eq, cm_NotEq, cm_Lt, cm_LtE, cm_Gt, cm_GtE, cm_Is, cm_IsNot, cm_In, cm_NotIn, eq_ii, eq_ss, eq_bb, eq_rr, eq_tt, eq_nx, eq_in, no_none, no_int, no_ref, no_tup, ist_ii, ist_ib, ist_bb, ist_tt, ist_ss, V.bool.injEq, F.ret.injEq, reduceCtorEq, and_true, true_and, false_and, and_false, or_false, false_or, exists_eq_left', decide_eq_true_eq, decide_eq_false_iff_not, exists_false, exists_const, Option.some.injEq, Bool.not_eq_true', Bool.not_eq_false', Bool.true_eq_false, Bool.false_eq_true, beq_iff_eq, beq_eq_false_iff_ne, ne_eq, not_true_eq_false, not_false_eq_true, Option.map_some, Bool.not_true, Bool.not_false, beq_self_eq_true, List.map_cons, List.map_nil, List.replicate_succ, List.replicate_zero, List.cons_append, List.nil_append, List.getElem?_cons_zero, List.getElem?_cons_succ, List.set_cons_zero, List.set_cons_succ, Nat.reduceSub, Nat.reduceAdd, List.length_cons, List.length_nil, Nat.zero_add, Nat.reduceLeDiff, if_true, if_false]
  refine (top_line_ok (d := d + 1) X.prj X.ends X.ends_of ht h8 g8 hfs hG h1 h40 hr).mono fun v τ9 hv => ?_
  obtain ⟨jt', rfl, p9, hjt'⟩ := hv
  rw [wholes_ok (d := d + 3) hW hw hjt' (at_pre l8 p9) (by rw [lineOf_len]; exact szH)]
  simp only [Ok_seq, Then_next, Then_ret, Turn_next, Turn_ret, Back_next, Back_ret, Ok_ite, Ok_and, Ok_or, Ok_cmp2, Ok_bind, Ok_ok, ev_none, ev_bool, ev_int, ev_str, ev_var, ev_glob, ev_fn, ev_bin, ev_neg, ev_not, ev_cmp, ev_list, ev_tup, ev_dictS, ev_dictI, ev_idx, ev_sl, ev_slFrom, ev_slTo, ev_call, ev_len, ev_listOf, ev_listRange, ev_listRev, ev_isinst, ev_toInt, ev_max, ev_min, ev_sum, ev_nil, ev_cons, ex_assign, ex_setItem, ex_append, ex_clear, ex_expr, ex_ret, ex_nil, bind_ok, ofB_some, cm_Eq, cm_NotEq, cm_Lt, cm_LtE, cm_Gt, cm_GtE, cm_Is, cm_IsNot, cm_In, cm_NotIn, eq_ii, eq_ss, eq_bb, eq_rr, eq_tt, eq_nx, eq_in, no_none, no_int, no_ref, no_tup, ist_ii, ist_ib, ist_bb, ist_tt, ist_ss, V.bool.injEq, F.ret.injEq, reduceCtorEq, and_true, true_and, false_and, and_false, or_false, false_or, exists_eq_left', decide_eq_true_eq, decide_eq_false_iff_not, exists_false, exists_const, Option.some.injEq, Bool.not_eq_true', Bool.not_eq_false', Bool.true_eq_false, Bool.false_eq_true, beq_iff_eq, beq_eq_false_iff_ne, ne_eq, not_true_eq_false, not_false_eq_true, Option.map_some, Bool.not_true, Bool.not_false, beq_self_eq_true, List.map_cons, List.map_nil, List.replicate_succ, List.replicate_zero, List.cons_append, List.nil_append, List.getElem?_cons_zero, List.getElem?_cons_succ, List.set_cons_zero, List.set_cons_succ, Nat.reduceSub, Nat.reduceAdd, List.length_cons, List.length_nil, Nat.zero_add, Nat.reduceLeDiff, if_true, if_false]
  refine (steps_ok (d := d) X ht hQ (at_pre h8 p9) (at_pre g8 p9) hfs hG h1 h40 hr).mono fun v τa hv => ?_
  obtain ⟨jc, ss, f, rfl, pa, hjc0, hjc, hC, hSo, hBe⟩ := hv
  have p8a := p9.trans pa
  have hlt : υ.length < jc := Nat.lt_of_lt_of_le (at_lt (at_pre l8 p9)) hjc0
  simp only [Ok_seq, Then_next, Then_ret, Turn_next, Turn_ret, Back_next, Back_ret, Ok_ite, Ok_and, Ok_or, Ok_cmp2, Ok_bind, Ok_ok, ev_none, ev_bool, ev_int, ev_str, ev_var, ev_glob, ev_fn, ev_bin, ev_neg, ev_not, ev_cmp, ev_list, ev_tup, ev_dictS, ev_dictI, ev_idx, ev_sl, ev_slFrom, ev_slTo, ev_call, ev_len, ev_listOf, ev_listRange, ev_listRev, ev_isinst, ev_toInt, ev_max, ev_min, ev_sum, ev_nil, ev_cons, ex_assign, ex_setItem, ex_append, ex_clear, ex_expr, ex_ret, ex_nil, bind_ok, ofB_some, cm_Eq, cm_NotEq, cm_Lt, cm_LtE, cm_Gt, cm_GtE, cm_Is, cm_IsNot, cm_In, cm_NotIn, eq_ii, eq_ss, eq_bb, eq_rr, eq_tt, eq_nx, eq_in, no_none, no_int, no_ref, no_tup, ist_ii, ist_ib, ist_bb, ist_tt, ist_ss, V.bool.injEq, F.ret.injEq, reduceCtorEq, and_true, true_and, false_and, and_false, or_false, false_or, exists_eq_left', decide_eq_true_eq, decide_eq_false_iff_not, exists_false, exists_const, Option.some.injEq, Bool.not_eq_true', Bool.not_eq_false', Bool.true_eq_false, Bool.false_eq_true, beq_iff_eq, beq_eq_false_iff_ne, ne_eq, not_true_eq_false, not_false_eq_true, Option.map_some, Bool.not_true, Bool.not_false, beq_self_eq_true, List.map_cons, List.map_nil, List.replicate_succ, List.replicate_zero, List.cons_append, List.nil_append, List.getElem?_cons_zero, List.getElem?_cons_succ, List.set_cons_zero, List.set_cons_succ, Nat.reduceSub, Nat.reduceAdd, List.length_cons, List.length_nil, Nat.zero_add, Nat.reduceLeDiff, if_true, if_false, inst_list hjc]
  exact Ok_seq.mp (law08_end (d := d) X hw hW ht hz hG2 hS2 A ⟨p8.trans p8a, at_pre l8 p8a, at_pre h8 p8a, at_pre g8 p8a, hjc, hlt⟩ hC hSo hBe hfs hG h1 h40 hr)
end
end Mine

namespace Mine
namespace Law
open PySem
-- 0 need_hand
-- 1 need_form
-- 2 letters
-- 3 ends_of
-- 4 ends
-- 5 kept_up_to
-- 6 strays_by
-- 7 top_line
-- 8 number_ahead
-- 9 lowered
-- 10 steps
-- 11 last_line
-- 12 _law_cell_at
-- 13 _law_hands_by
-- 14 _law_cells_by
-- 15 _law_rows_by
-- 16 _law_fallen_by
-- 17 _law_whole
-- 18 _law_wholes
-- 19 _law_ends_by
-- 20 _law_letters_by
-- 21 _law_first_stray
-- 22 _law_good_step
-- 23 law
noncomputable def theP : List Fn := [B.need_hand .abort,
  B.need_form .abort,
  B.letters 0 .abort 1 .abort 1 0 .abort .abort,
  B.ends_of,
  B.ends 2 3,
  B.kept_up_to,
  B.strays_by,
  B.top_line 4 0,
  B.number_ahead,
  B.lowered 4 2 6 5 8,
  B.steps 9 7,
  B.last_line 9 7,
  B.L_cell_at,
  B.L_hands_by,
  B.L_cells_by_1236 12,
  B.L_rows_by,
  B.L_fallen_by_f2a7,
  B.L_whole,
  B.L_wholes 17,
  B.L_ends_by,
  B.L_letters_by_8606,
  B.L_first_stray,
  B.L_good_step 21 17,
  B.law_99ac 13 12 15 14 16 19 20 18 7 10 22 21 11]
noncomputable def theG : List Int := [40, 1000]
noncomputable def theNames : List (List Str) := [[(Str.ofString "hands"), (Str.ofString "hand")],
  [(Str.ofString "row"), (Str.ofString "lengths")],
  [(Str.ofString "hands"), (Str.ofString "rows"), (Str.ofString "found"), (Str.ofString "place"), (Str.ofString "row"), (Str.ofString "letter")],
  [(Str.ofString "hands"), (Str.ofString "rows"), (Str.ofString "found"), (Str.ofString "place")],
  [(Str.ofString "hands"), (Str.ofString "rows")],
  [(Str.ofString "known"), (Str.ofString "line")],
  [(Str.ofString "sent"), (Str.ofString "far"), (Str.ofString "found"), (Str.ofString "letter"), (Str.ofString "row")],
  [(Str.ofString "hands"), (Str.ofString "rows"), (Str.ofString "fallen"), (Str.ofString "known"), (Str.ofString "hand"), (Str.ofString "found")],
  [(Str.ofString "own"), (Str.ofString "place"), (Str.ofString "number")],
  [(Str.ofString "hands"), (Str.ofString "rows"), (Str.ofString "line"), (Str.ofString "known"), (Str.ofString "sent"), (Str.ofString "here"), (Str.ofString "found"), (Str.ofString "bad"), (Str.ofString "letter"), (Str.ofString "hand")],
  [(Str.ofString "hands"), (Str.ofString "rows"), (Str.ofString "fallen")],
  [(Str.ofString "hands"), (Str.ofString "rows"), (Str.ofString "fallen")],
  [(Str.ofString "_law_script"), (Str.ofString "_law_k")],
  [(Str.ofString "_law_cell")],
  [(Str.ofString "_law_script"), (Str.ofString "_law_first"), (Str.ofString "_law_size"), (Str.ofString "_law_many")],
  [(Str.ofString "_law_cells"), (Str.ofString "_law_hands"), (Str.ofString "_law_rows"), (Str.ofString "_law_sent"), (Str.ofString "_law_waits"), (Str.ofString "_law_cell"), (Str.ofString "_law_kind"), (Str.ofString "_law_more"), (Str.ofString "_law_letter")],
  [(Str.ofString "_law_cell"), (Str.ofString "_law_hands"), (Str.ofString "_law_fallen")],
  [(Str.ofString "_law_found")],
  [(Str.ofString "_law_found"), (Str.ofString "_law_due"), (Str.ofString "_law_k")],
  [(Str.ofString "_law_rows"), (Str.ofString "_law_hands"), (Str.ofString "_law_found"), (Str.ofString "_law_place")],
  [(Str.ofString "_law_rows"), (Str.ofString "_law_found"), (Str.ofString "_law_place")],
  [(Str.ofString "_law_sendings"), (Str.ofString "_law_told"), (Str.ofString "_law_line"), (Str.ofString "_law_kept"), (Str.ofString "_law_k"), (Str.ofString "_law_one")],
  [(Str.ofString "_law_step"), (Str.ofString "_law_sendings"), (Str.ofString "_law_told"), (Str.ofString "_law_line"), (Str.ofString "_law_first"), (Str.ofString "_law_own")],
  [(Str.ofString "_law_script"), (Str.ofString "_law_hands"), (Str.ofString "_law_rows"), (Str.ofString "_law_fallen"), (Str.ofString "_law_told"), (Str.ofString "_law_sendings"), (Str.ofString "_law_line"), (Str.ofString "_law_handed"), (Str.ofString "_law_given"), (Str.ofString "_law_chain"), (Str.ofString "_law_step")]]
noncomputable def theFns : List Str := [(Str.ofString "need_hand"), (Str.ofString "need_form"), (Str.ofString "letters"), (Str.ofString "ends_of"), (Str.ofString "ends"), (Str.ofString "kept_up_to"), (Str.ofString "strays_by"), (Str.ofString "top_line"), (Str.ofString "number_ahead"), (Str.ofString "lowered"), (Str.ofString "steps"), (Str.ofString "last_line"), (Str.ofString "_law_cell_at"), (Str.ofString "_law_hands_by"), (Str.ofString "_law_cells_by"), (Str.ofString "_law_rows_by"), (Str.ofString "_law_fallen_by"), (Str.ofString "_law_whole"), (Str.ofString "_law_wholes"), (Str.ofString "_law_ends_by"), (Str.ofString "_law_letters_by"), (Str.ofString "_law_first_stray"), (Str.ofString "_law_good_step"), (Str.ofString "law")]
noncomputable def theGlobs : List Str := [(Str.ofString "HANDS"), (Str.ofString "ROWS")]
noncomputable def cx : Cx := ⟨theFns, theGlobs⟩
end Law
end Mine

open PySem PySem.W PyProof.Rows
set_option maxRecDepth 100000
set_option maxHeartbeats 8000000
namespace Mine
namespace Law
def fuel : Nat := 50000
def depth : Nat := 6
def at0 : Nat := 23
theorem holds (ns : List Int) (h : ns.length ≤ 63) : ∃ σ', callF ns theG theP fuel depth at0 [.scr] [] = .ok (.bool true) σ' := by
  obtain ⟨v, σ, e, rfl⟩ := (law08_ok (ns := ns) (G := theG) (N := fuel) (σ := []) (d := 0) (P := theP) (k := 23) (kl := 2) (kf := 1) (kn := 0) (g1 := 0) (g2 := 1) (ke := 4) (ko := 3) (ks := 6) (kk := 5) (ka := 8) (kL := 9) (kt := 7) (kQ := 10) (kz := 11) (kc := 12) (kh := 13) (ky := 14) (kr := 15) (kF := 16) (kw := 17) (kW := 18) (kB := 19) (kE := 20) (kS := 21) (kG := 22)
    ⟨⟨rfl, rfl, rfl, rfl, rfl⟩, rfl, rfl, rfl, rfl, rfl, rfl, Nat.le_refl _⟩ ⟨rfl, rfl, rfl, rfl⟩ rfl rfl rfl rfl rfl rfl rfl rfl rfl rfl rfl h).ex
  exact ⟨σ, e⟩
end Law
end Mine

set_option maxRecDepth 100000 in
set_option maxHeartbeats 8000000 in
theorem PySem.Challenge.cw_uf050036_08_holds : PySem.Challenge.rw_uf050036_08.Holds := by
  w_on
  o_law
  o_head Hook.none
  (case hw => w_witness2)
  intro w s₀ s₁ mg mb G Y fa o pm cd doc dV kV ho hd hcd hD hmg hg args vals as hpre hlay hrd hwl hlo
  have TT := G.T
  clear Y hD G hd
  wrow_args hpre hlay hrd hwl hlo
  all_goals (exact Mine.law_core TT hmg hg (by assumption) (by assumption) (by omega) (fun _ => Mine.law_raises _ _ _) (Mine.law_post _ _) Mine.Law.cx Mine.Law.theP Mine.Law.theNames Mine.Law.theG Mine.Law.fuel Mine.Law.depth Mine.Law.at0 (by decide +kernel) rfl (by decide) (Mine.Law.holds _ (by omega)))
