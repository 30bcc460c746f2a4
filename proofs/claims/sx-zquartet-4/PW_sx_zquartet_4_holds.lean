import PyProof.Rows.All
import OpenK.KRaise
import KE.KFmtOwn
import PyProof.StrBlock
import PyProof.Rows.KernelRfl
import PySem.Challenge.RW_sx_zquartet_4
set_option Elab.async false
set_option maxRecDepth 100000
set_option linter.unusedSimpArgs false

-- SxPure
namespace Mine
open PySem

/-- plain data -/
inductive PV where
  | none
  | bool (b : Bool)
  | int (i : Int)
  | str (x : Str)
  | tup (ds : List PV)
  | list (ds : List PV)
  | sdict (kvs : List (Str × Str))

noncomputable def PV.beqs (f : PV → PV → Bool) : List PV → List PV → Bool
  | [], [] => true
  | a :: r, b :: q => f a b && PV.beqs f r q
  | _, _ => false
noncomputable def PV.beq : Nat → PV → PV → Bool
  | 0, _, _ => false
  | n + 1, a, b => match a, b with
    | .none, .none => true
    | .bool a, .bool b => a == b
    | .int a, .int b => a == b
    | .str a, .str b => a == b
    | .tup a, .tup b => PV.beqs (PV.beq n) a b
    | .list a, .list b => PV.beqs (PV.beq n) a b
    | _, _ => false
noncomputable def deep : Nat := 20

/-- what an expression gives: a value, or the list that the frame's name x owns -/
inductive RV where
  | val (d : PV)
  | own (x : Str) (ds : List PV)

inductive Slot where
  | val (d : PV)
  | own (ds : List PV)

noncomputable abbrev Loc := Str → Option Slot
noncomputable def upd (ρ : Loc) (x : Str) (s : Slot) : Loc := fun y => if y = x then some s else ρ y

/-- stuck, a PatternError with its text, or a result -/
noncomputable abbrev M (α : Type) := Option (Except Str α)
noncomputable def ok {α : Type} (a : α) : M α := some (.ok a)
noncomputable def bd {α β : Type} (m : M α) (f : α → M β) : M β := match m with
  | none => none
  | some (.error e) => some (.error e)
  | some (.ok a) => f a
/-- as bd, but stuck where the first part raises -/
noncomputable def bs {α β : Type} (m : M α) (f : α → M β) : M β := match m with
  | some (.ok a) => f a
  | _ => none
noncomputable def vd {β : Type} (r : RV) (f : PV → M β) : M β := match r with
  | .val d => f d
  | .own _ _ => none

inductive Fl where
  | next
  | brk
  | ret (r : RV)

noncomputable abbrev Names := List (Str × NameKind)
noncomputable def bound (k : Option NameKind) : Bool := match k with
  | some .local | some .cell | some .free => true
  | _ => false

noncomputable def lim : Nat := 10000

noncomputable def strsOf : List PV → Option (List Str)
  | [] => some []
  | .str x :: r => match strsOf r with
    | some ys => some (x :: ys)
    | none => none
  | _ :: _ => none

noncomputable def pbin (op : Operator) (a b : PV) : Option PV := match op, a, b with
  | .Add, .int x, .int y => some (.int (x + y))
  | .Sub, .int x, .int y => some (.int (x - y))
  | .Mod, .int x, .int y => if y = 0 then none else some (.int (x.fmod y))
  | .Add, .str x, .str y => if x.length + y.length ≤ lim then some (.str (x ++ y)) else none
  | .Add, .list x, .list y => if x.length + y.length ≤ lim then some (.list (x ++ y)) else none
  | _, _, _ => none

noncomputable def pcmp (op : CmpOp) (a b : PV) : Option Bool := match op, a, b with
  | .Eq, .str x, .str y => some (x == y)
  | .NotEq, .str x, .str y => some (x != y)
  | .Eq, .int x, .int y => some (x == y)
  | .NotEq, .int x, .int y => some (x != y)
  | .Lt, .int x, .int y => some (decide (x < y))
  | .Gt, .int x, .int y => some (decide (y < x))
  | .NotEq, .bool x, .bool y => some (x != y)
  | .In, .str x, .str y => some (Txt.contains y x)
  | .NotIn, .str x, .str y => some (!Txt.contains y x)
  | .In, .str x, .tup ds => match strsOf ds with
    | some ys => some (ys.any (· == x))
    | none => none
  | .NotIn, .str x, .tup ds => match strsOf ds with
    | some ys => some (!ys.any (· == x))
    | none => none
  | .In, .str x, .sdict kvs => some (kvs.any fun p => p.1 == x)
  | .NotEq, .list x, .list y => if PV.beqs (PV.beq deep) x y then some false else none
  | .NotEq, .tup x, .tup y => if PV.beqs (PV.beq deep) x y then some false else none
  | _, _, _ => none

noncomputable def pcmpOwn (op : CmpOp) (a : PV) (ds : List PV) : Option Bool := match op, a with
  | .NotIn, .str x => match strsOf ds with
    | some ys => some (!ys.any (· == x))
    | none => none
  | _, _ => none

noncomputable def pitem (ds : List PV) (i : Int) : Option PV :=
  if 0 ≤ i then (if i < (lim : Int) then ds[i.toNat]? else none) else if -(ds.length : Int) ≤ i ∧ -(lim : Int) ≤ i then ds[(i + ds.length).toNat]? else none

noncomputable def psub (a : RV) (i : PV) : Option PV := match a, i with
  | .val (.str x), .int i => if 0 ≤ i ∧ i < (lim : Int) then (match x.cps[i.toNat]? with | some c => some (.str ⟨#[c]⟩) | none => none) else none
  | .val (.tup ds), .int i => if 0 ≤ i ∧ i < (lim : Int) then ds[i.toNat]? else none
  | .val (.list ds), .int i => if 0 ≤ i ∧ i < (lim : Int) then ds[i.toNat]? else none
  | .own _ ds, .int i => pitem ds i
  | .val (.sdict kvs), .str x => match kvs.lookup x with
    | some y => some (.str y)
    | none => none
  | _, _ => none

noncomputable def pslice (a : PV) (lo hi : Option PV) : Option PV := match a, lo, hi with
  | .list ds, some (.int i), none => if 0 ≤ i ∧ ds.length ≤ lim then some (.list (ds.drop i.toNat)) else none
  | .list ds, none, some (.int j) => if 0 ≤ j ∧ ds.length ≤ lim then some (.list (ds.take j.toNat)) else none
  | .tup ds, some (.int i), none => if i = 1 ∧ 1 ≤ ds.length ∧ ds.length ≤ lim then some (.tup (ds.drop 1)) else none
  | .str x, some (.int i), none => if 0 ≤ i ∧ i ≤ x.length ∧ x.length ≤ lim then some (.str ⟨(x.cps.toList.drop i.toNat).toArray⟩) else none
  | .str x, none, some (.int j) => if 0 ≤ j ∧ j ≤ x.length ∧ x.length ≤ lim then some (.str ⟨(x.cps.toList.take j.toNat).toArray⟩) else none
  | _, _, _ => none

noncomputable def plen : RV → Option PV
  | .val (.str x) => if x.length ≤ lim then some (.int x.length) else none
  | .val (.tup ds) => if ds.length ≤ lim then some (.int ds.length) else none
  | .val (.list ds) => if ds.length ≤ lim then some (.int ds.length) else none
  | .own _ ds => if ds.length ≤ lim then some (.int ds.length) else none
  | _ => none

noncomputable def pisi (d : PV) (T : Str) : Option Bool :=
  if T = ("tuple" : Str) then (match d with | .tup _ => some true | .list _ => some false | _ => none)
  else if T = ("str" : Str) then (match d with | .str _ => some true | .none => some false | .int _ => some false | _ => none)
  else none

noncomputable def ptype (d : PV) (T : Str) : Option Bool :=
  if T = ("list" : Str) then (match d with | .list _ => some true | .none => some false | _ => none)
  else if T = ("bool" : Str) then (match d with | .bool _ => some true | _ => none)
  else none

noncomputable def smallInt (i : Int) : Bool := decide (0 ≤ i) && decide (i < 100000)

noncomputable def evs {α : Type} (f : Expr → M α) : List Expr → M (List α)
  | [] => ok []
  | e :: r => bd (f e) fun a => bd (evs f r) fun as => ok (a :: as)

noncomputable def vals : List RV → Option (List PV)
  | [] => some []
  | .val d :: r => match vals r with
    | some ds => some (d :: ds)
    | none => none
  | .own _ _ :: _ => none

noncomputable def catS : List Str → Str
  | [] => Str.empty
  | x :: r => x ++ catS r

noncomputable def itemsOf : RV → Option (List PV)
  | .val (.list ds) => some ds
  | .val (.tup ds) => some ds
  | .val (.str x) => some (x.cps.toList.map fun c => .str ⟨#[c]⟩)
  | _ => none

noncomputable def isRange : Expr → Option Expr
  | .Call (.Name g _) [e] [] _ => if g = ("range" : Str) then some e else none
  | _ => none
noncomputable def rangeOf (d : PV) : Option (List PV) := match d with
  | .int n => if 0 ≤ n ∧ n ≤ (lim : Int) then some ((List.range n.toNat).map fun (k : Nat) => PV.int (k : Int)) else none
  | _ => none

/-- type(e) -/
noncomputable def isTypeOf : Expr → Option Expr
  | .Call (.Name g _) [e] [] _ => if g = ("type" : Str) then some e else none
  | _ => none
noncomputable def nameOf : Expr → Option Str
  | .Name g _ => some g
  | _ => none
noncomputable def isNoneConst : Expr → Bool
  | .Constant .none _ _ => true
  | _ => false

noncomputable def filt (c : PV → M Bool) (f : PV → M PV) : List PV → M (List PV)
  | [] => ok []
  | d :: r => bs (c d) fun b => if b then bs (f d) fun a => bs (filt c f r) fun as => ok (a :: as) else filt c f r

noncomputable def evTests (t : Expr → M Bool) : List Expr → M Bool
  | [] => ok true
  | [e] => t e
  | _ => none

/-- a comprehension's names: the cells of the block around are its own -/
noncomputable def relab (csc sc : Names) : Names := csc.map fun p => if (p.2 == .free && sc.lookup p.1 == some .cell) then (p.1, .cell) else p
noncomputable def compLoc (nm : Names) (ρ : Loc) (t : Str) (d : PV) : Loc :=
  fun y => if y = t then some (.val d) else if nm.lookup y = some .cell then ρ y else none
noncomputable def compScopeOk (csc sc : Names) (t : Str) : Bool := match csc with
  | [(a, .local), (b, .local)] => a == (".0" : Str) && b == t && t != (".0" : Str)
  | [(a, .local), (b, .local), (p, .free)] => a == (".0" : Str) && b == t && t != (".0" : Str) && p != t && p != (".0" : Str) && sc.lookup p == some .cell
  | _ => false
noncomputable def isStr : PV → Bool
  | .str _ => true
  | _ => false
/-- an item of a comprehension's source -/
noncomputable def simple : PV → Bool
  | .int _ => true
  | .str _ => true
  | .tup ds => ds.all isStr
  | _ => false
/-- a comprehension's item: a sign or a number, or the source's item itself -/
noncomputable def simpleElt (elt : Expr) (t : Str) : PV → Bool
  | .int _ => true
  | .str _ => true
  | _ => nameOf elt == some t

noncomputable def immediate : PV → Bool
  | .bool _ => true
  | _ => false

noncomputable def ofOpt {α : Type} : Option α → M α
  | some a => ok a
  | none => none

noncomputable abbrev Calls := Str → List PV → M PV
noncomputable def noCall : Calls := fun _ _ => none

/-- the defs that are called -/
noncomputable def fnNames : List Str := ["is_plain_sign", "tokens_of", "with_joins", "to_postfix", "operator_name", "postfix_ok", "compile_pattern", "_law_leaf", "_law_marked", "_law_row", "_law_alts", "_law_due", "_law_lost", "_law_bent", "_law_read", "_law_order"]

noncomputable def callOn (call : Calls) (g : Str) (rs : List RV) : M RV := match rs with
  | [.own _ ds] => bd (call g [.list ds]) fun d => if immediate d then ok (.val d) else none
  | rs => bd (ofOpt (vals rs)) fun ds => bd (call g ds) fun d => ok (.val d)

/-- names that the interpreter keeps for itself -/
noncomputable def oddName (x : Str) : Bool := x == ("__debug__" : Str) || x == ("__classdict__" : Str)

section
variable (G : Str → Option PV)
mutual
/-- an expression's value -/
noncomputable def pe : Nat → Calls → Names → Loc → Expr → M RV
  | 0, _, _, _, _ => none
  | n + 1, call, sc, ρ, e => match e with
    | .Constant c _ _ => match c with
      | .none => ok (.val .none)
      | .bool b => ok (.val (.bool b))
      | .int i => ok (.val (.int i))
      | .str x => ok (.val (.str x))
      | _ => none
    | .Name x _ => if oddName x then none else if bound (sc.lookup x) then (match ρ x with
        | some (.val d) => ok (.val d)
        | some (.own ds) => ok (.own x ds)
        | none => none)
      else if sc.lookup x = some .globalImplicit then (match G x with
        | some d => ok (.val d)
        | none => none)
      else none
    | .BoolOp .And [a, b] _ => bd (pe n call sc ρ a) fun r => match r with
      | .val (.bool x) => if x then pe n call sc ρ b else ok (.val (.bool false))
      | _ => none
    | .BinOp l op r _ => bd (pe n call sc ρ l) fun x => vd x fun x => bd (pe n call sc ρ r) fun y => vd y fun y => bd (ofOpt (pbin op x y)) fun d => ok (.val d)
    | .UnaryOp .USub (.Constant (.int i) _ _) _ => ok (.val (.int (-i)))
    | .Compare l [op] [r] _ => bd (ptest n call sc ρ l op r) fun b => ok (.val (.bool b))
    | .Call f args kws pos => match kws with
      | [] => match f with
        | .Name g _ => if sc.lookup g = some .globalImplicit then pfun n call sc ρ g args else none
        | .Attribute (.Constant (.str x) _ _) m apos =>
          if m = ("join" : Str) ∧ x = Str.empty ∧ (apos.endLine == pos.line) = true then (match args with
            | [e] => bs (pe n call sc ρ e) fun r => match r with
              | .val (.list ds) => match strsOf ds with
                | some ys => if (catS ys).length ≤ lim then ok (.val (.str (catS ys))) else none
                | none => none
              | _ => none
            | _ => none)
          else none
        | _ => none
      | _ => none
    | .JoinedStr ps _ => match ps with
      | a :: b :: r => bd (evs (pfmt n call sc ρ) (a :: b :: r)) fun xs => if (catS xs).length ≤ lim then ok (.val (.str (catS xs))) else none
      | _ => none
    | .Subscript v s _ => bd (pe n call sc ρ v) fun a => match s with
      | .Slice lo hi none _ => vd a fun a => match lo, hi with
        | some e, none => bd (pe n call sc ρ e) fun i => vd i fun i => bd (ofOpt (pslice a (some i) none)) fun d => ok (.val d)
        | none, some e => bd (pe n call sc ρ e) fun i => vd i fun i => bd (ofOpt (pslice a none (some i))) fun d => ok (.val d)
        | _, _ => none
      | .Slice .. => none
      | s => bd (pe n call sc ρ s) fun i => vd i fun i => bd (ofOpt (psub a i)) fun d => ok (.val d)
    | .Tuple es _ _ => bd (evs (pe n call sc ρ) es) fun rs => bd (ofOpt (vals rs)) fun ds => if ds.length ≤ lim then ok (.val (.tup ds)) else none
    | .List es _ => bd (evs (pe n call sc ρ) es) fun rs => bd (ofOpt (vals rs)) fun ds => if ds.length ≤ lim then ok (.val (.list ds)) else none
    | .ListComp elt gens csc _ => match gens with
      | [⟨.Name t _, it, ifs, 0⟩] => if csc.kind = .function ∧ compScopeOk csc.names sc t = true then
          bd (pits n call sc ρ it) fun ds => if ds.all simple ∧ ds.length ≤ lim then
            bs (filt (fun d => evTests (pt n noCall (relab csc.names sc) (compLoc (relab csc.names sc) ρ t d)) ifs)
                (fun d => bs (pe n noCall (relab csc.names sc) (compLoc (relab csc.names sc) ρ t d) elt) fun r => vd r fun e => if simpleElt elt t e then ok e else none) ds) fun out =>
              ok (.val (.list out))
            else none
        else none
      | _ => none
    | _ => none

/-- an f-string's part -/
noncomputable def pfmt : Nat → Calls → Names → Loc → Expr → M Str
  | 0, _, _, _, _ => none
  | n + 1, call, sc, ρ, e => match e with
    | .Constant (.str x) _ _ => ok x
    | .FormattedValue v (-1) none _ => bs (pe n call sc ρ v) fun r => match r with
      | .val (.str x) => if x.length ≤ lim then ok x else none
      | .val (.int i) => if smallInt i then ok (Str.ofString (toString i)) else none
      | _ => none
    | _ => none

/-- what a loop goes over -/
noncomputable def pits : Nat → Calls → Names → Loc → Expr → M (List PV)
  | 0, _, _, _, _ => none
  | n + 1, call, sc, ρ, e => match isRange e with
    | some a => if sc.lookup ("range" : Str) = some .globalImplicit then bd (pe n call sc ρ a) fun r => vd r fun d => ofOpt (rangeOf d) else none
    | none => bd (pe n call sc ρ e) fun r => ofOpt (itemsOf r)

/-- a call by a global name -/
noncomputable def pfun : Nat → Calls → Names → Loc → Str → List Expr → M RV
  | 0, _, _, _, _, _ => none
  | n + 1, call, sc, ρ, g, args =>
    if g = ("len" : Str) then (match args with
      | [e] => bd (pe n call sc ρ e) fun r => bd (ofOpt (plen r)) fun d => ok (.val d)
      | _ => none)
    else if g = ("str" : Str) then (match args with
      | [e] => bd (pe n call sc ρ e) fun r => match r with
        | .val (.int i) => if smallInt i then ok (.val (.str (Str.ofString (toString i)))) else none
        | _ => none
      | _ => none)
    else if g = ("list" : Str) then (match args with
      | [e] => bd (pe n call sc ρ e) fun r => match r with
        | .val (.list ds) => if ds.length ≤ lim then ok (.val (.list ds)) else none
        | _ => none
      | _ => none)
    else if g = ("isinstance" : Str) then (match args with
      | [e, T] => match nameOf T with
        | some T => if sc.lookup T = some .globalImplicit then bd (pe n call sc ρ e) fun r => vd r fun d => bd (ofOpt (pisi d T)) fun b => ok (.val (.bool b)) else none
        | none => none
      | _ => none)
    else if fnNames.contains g then (match args with
      | [] => none
      | args => bd (evs (pe n call sc ρ) args) fun rs => callOn call g rs)
    else none

/-- a comparison -/
noncomputable def ptest : Nat → Calls → Names → Loc → Expr → CmpOp → Expr → M Bool
  | 0, _, _, _, _, _, _ => none
  | n + 1, call, sc, ρ, l, op, r => match op with
    | .Is => match isTypeOf l, nameOf r with
      | some e, some T => if sc.lookup ("type" : Str) = some .globalImplicit ∧ sc.lookup T = some .globalImplicit then
          bd (pe n call sc ρ e) fun r => vd r fun d => ofOpt (ptype d T) else none
      | _, _ => none
    | .IsNot => if isNoneConst r then bd (pe n call sc ρ l) fun a => vd a fun a => match a with
        | .none => ok false
        | .list _ => ok true
        | _ => none
      else none
    | op => bs (pe n call sc ρ l) fun a => vd a fun a => bd (pe n call sc ρ r) fun b => match b with
      | .val b => ofOpt (pcmp op a b)
      | .own _ ds => ofOpt (pcmpOwn op a ds)

/-- a test -/
noncomputable def pt : Nat → Calls → Names → Loc → Expr → M Bool
  | 0, _, _, _, _ => none
  | n + 1, call, sc, ρ, e => match e with
    | .UnaryOp .Not x _ => bd (pt n call sc ρ x) fun b => ok (!b)
    | .BoolOp op vs _ => pall n call sc ρ op vs
    | .Compare l [op] [r] _ => ptest n call sc ρ l op r
    | .Compare .. => none
    | .IfExp .. => none
    | e => bd (pe n call sc ρ e) fun r => match r with
      | .val (.bool b) => ok b
      | _ => none

noncomputable def pall : Nat → Calls → Names → Loc → BoolOp → List Expr → M Bool
  | 0, _, _, _, _, _ => none
  | n + 1, call, sc, ρ, op, vs => match vs with
    | [] => ok (op == .And)
    | x :: r => bd (pt n call sc ρ x) fun b => match op, b with
      | .And, false => ok false
      | .Or, true => ok true
      | _, _ => pall n call sc ρ op r
end

end

noncomputable def bindAll (sc : Names) (ρ : Loc) : List Expr → List PV → Option Loc
  | [], [] => some ρ
  | .Name x _ :: r, d :: ds => if sc.lookup x = some .local ∨ sc.lookup x = some .cell then bindAll sc (upd ρ x (.val d)) r ds else none
  | _, _ => none

/-- a loop: the body a turn at a time -/
noncomputable def ploop (body : Loc → M (Fl × Loc)) (x : Str) : List PV → Loc → M (Fl × Loc)
  | [], ρ => ok (.next, ρ)
  | d :: r, ρ => bd (body (upd ρ x (.val d))) fun q => match q.1 with
    | .next => ploop body x r q.2
    | .brk => ok (.next, q.2)
    | .ret v => ok (.ret v, q.2)

/-- x.append(e) -/
noncomputable def isAppend : Expr → Option (Str × Expr)
  | .Call (.Attribute (.Name x _) m apos) [e] [] pos => if m = ("append" : Str) ∧ (apos.endLine == pos.line) = true ∧ oddName x = false then some (x, e) else none
  | _ => none
/-- x[-1] -/
noncomputable def isLast : Expr → Option Str
  | .Subscript (.Name x _) (.UnaryOp .USub (.Constant (.int 1) _ _) _) _ => if oddName x = true then none else some x
  | _ => none
/-- PatternError(e) -/
noncomputable def isRaise : Expr → Option Expr
  | .Call (.Name g _) [e] [] _ => if g = ("PatternError" : Str) then some e else none
  | _ => none
/-- except PatternError as err: y = str(err) -/
noncomputable def isHandler : ExceptHandler → Option (Str × Str)
  | .ExceptHandler (some (.Name c _)) (some v) [.Assign [.Name y _] (.Call (.Name g _) [.Name v' _] [] _) _] _ =>
    if c = ("PatternError" : Str) ∧ g = ("str" : Str) ∧ v' = v ∧ y ≠ v then some (y, v) else none
  | _ => none
noncomputable def isTup : Expr → Bool
  | .Tuple .. => true
  | _ => false
noncomputable def isNil : Expr → Bool
  | .List [] _ => true
  | _ => false
noncomputable def isComp : Expr → Bool
  | .ListComp .. => true
  | _ => false

/-- the comprehension's value goes straight into a name of its own line -/
noncomputable def swapOk (x : Str) (xp : Pos) : Expr → Bool
  | .ListComp _ _ csc p => xp.line == p.line && !(csc.names.any fun q => q.1 == x && (q.2 == .local || q.2 == .cell))
  | _ => false

noncomputable def onBody (f : Loc → List Stmt → M (Fl × Loc)) (body : List Stmt) (ρ : Loc) : M (Fl × Loc) := f ρ body

section
variable (G : Str → Option PV) (call : Calls) (ow : List Str)

mutual
noncomputable def px : Nat → Names → Loc → Stmt → M (Fl × Loc)
  | 0, _, _, _ => none
  | n + 1, sc, ρ, st => match st with
    | .Assign [.Name x xp] e _ =>
      if x ∈ ow then (if isNil e ∧ sc.lookup x = some .local then ok (.next, upd ρ x (.own [])) else none)
      else if isComp e = true ∧ ¬ (sc.lookup x = some .local ∧ swapOk x xp e = true) then none
      else if sc.lookup x = some .local ∨ sc.lookup x = some .cell then bd (pe G n call sc ρ e) fun r => vd r fun d => ok (.next, upd ρ x (.val d))
      else none
    | .Assign [.Tuple ts _ _] e _ => if isTup e = true then none else bd (pe G n call sc ρ e) fun r => match r with
      | .val (.tup ds) => if ts.all (fun t => match nameOf t with | some x => !ow.contains x | none => false) then
          (match bindAll sc ρ ts ds with
            | some ρ' => ok (.next, ρ')
            | none => none) else none
      | _ => none
    | .Expr e _ => match isAppend e with
      | some (x, a) => if sc.lookup x = some .local then (match ρ x with
          | some (.own ds) => bd (pe G n call sc ρ a) fun r => vd r fun d => if ds.length < lim then ok (.next, upd ρ x (.own (ds ++ [d]))) else none
          | _ => none) else none
      | none => none
    | .Delete [t] _ => match isLast t with
      | some x => if sc.lookup x = some .local then (match ρ x with
          | some (.own ds) => if ds.length = 0 ∨ lim < ds.length then none else ok (.next, upd ρ x (.own ds.dropLast))
          | _ => none) else none
      | none => none
    | .If t a b _ => bd (pt G n call sc ρ t) fun c => if c then pxs n sc ρ a else pxs n sc ρ b
    | .For (.Name x _) it body [] _ => if x ∉ ow ∧ sc.lookup x = some .local then
        bd (pits G n call sc ρ it) fun ds => ploop (onBody (pxs n sc) body) x ds ρ else none
    | .Return (some e) _ => bd (pe G n call sc ρ e) fun r => ok (.ret r, ρ)
    | .Raise (some e) none _ => match isRaise e with
      | some a => if sc.lookup ("PatternError" : Str) = some .globalImplicit then bd (pe G n call sc ρ a) fun r => match r with
          | .val (.str x) => some (.error x)
          | _ => none else none
      | none => none
    | .Break _ => ok (.brk, ρ)
    | .Try [.Assign [.Name x _] e _] [hd] [] [] _ => match isHandler hd with
      | some (y, v) => if (sc.lookup x = some .local ∧ sc.lookup y = some .local ∧ sc.lookup v = some .local) ∧ (sc.lookup ("PatternError" : Str) = some .globalImplicit ∧ sc.lookup ("str" : Str) = some .globalImplicit) ∧ isComp e = false ∧ oddName v = false ∧ (ρ v).isNone = true then (match pe G n call sc ρ e with
          | some (.ok (.val d)) => ok (.next, upd ρ x (.val d))
          | some (.error m) => ok (.next, upd ρ y (.val (.str m)))
          | _ => none) else none
      | none => none
    | _ => none
noncomputable def pxs : Nat → Names → Loc → List Stmt → M (Fl × Loc)
  | 0, _, _, _ => none
  | n + 1, sc, ρ, ss => match ss with
    | [] => ok (.next, ρ)
    | st :: r => bd (px n sc ρ st) fun q => match q.1 with
      | .next => pxs n sc q.2 r
      | f => ok (f, q.2)
end
end

/-- a def of the text -/
structure Fn where
  params : List Str
  body : List Stmt
  names : Names

noncomputable def fnOf? (n : Str) : Stmt → Option Fn
  | .FunctionDef m a b _ _ _ sc _ _ _ => if m = n then some ⟨a.args.map (·.arg), b, sc.names⟩ else none
  | _ => none

noncomputable def retOf : RV → PV
  | .val d => d
  | .own _ ds => .list ds

noncomputable def bindsOf : List Str → List PV → Loc
  | x :: r, d :: ds => upd (bindsOf r ds) x (.val d)
  | _, _ => fun _ => none

/-- the names whose lists are grown in place -/
noncomputable def owned (f : Str) : List Str :=
  if f = ("tokens_of" : Str) then ["tokens"] else if f = ("with_joins" : Str) then ["filled", "joined"] else if f = ("to_postfix" : Str) then ["out", "ops"] else []

noncomputable def fuel : Nat := 100

noncomputable def pcall (body : List Stmt) (G : Str → Option PV) : Nat → Str → List PV → M PV
  | 0, _, _ => none
  | k + 1, f, args => match body.findSome? (fnOf? f) with
    | some fn => if fn.params.length = args.length then
        bd (pxs G (pcall body G k) (owned f) fuel fn.names (bindsOf fn.params args) fn.body) fun q => match q.1 with
          | .ret r => ok (retOf r)
          | _ => none
      else none
    | none => none

noncomputable def pairOf : Option Expr × Expr → Option (Str × Str)
  | (some (.Constant (.str k) _ _), .Constant (.str v) _ _) => some (k, v)
  | _ => none
/-- a written constant of the top -/
noncomputable def constOf : Nat → Expr → Option PV
  | 0, _ => none
  | n + 1, e => match e with
    | .Constant .none _ _ => some .none
    | .Constant (.bool b) _ _ => some (.bool b)
    | .Constant (.int i) _ _ => some (.int i)
    | .Constant (.str x) _ _ => some (.str x)
    | .Tuple es _ _ => (es.mapM (constOf n)).map .tup
    | .List es _ => (es.mapM (constOf n)).map .list
    | .Dict ks vs _ => ((ks.zip vs).mapM pairOf).map .sdict
    | _ => none
/-- the written constants that the defs read -/
noncomputable def gNames : List Str := ["PLAIN_SIGNS", "OPERATOR_SIGNS", "ENDS_PIECE", "BEGINS_PIECE", "POSTFIX_NAMES", "_law_spoils", "_law_signs", "_law_shapes", "_law_fronts"]
noncomputable def glob (body : List Stmt) (x : Str) : Option PV := if gNames.contains x then body.findSome? (fun st => match st with
  | .Assign [.Name y _] e _ => if y = x then constOf 20 e else none
  | _ => none)
  else none

noncomputable abbrev theBody : List Stmt := PySem.Challenge.pw_sx_zquartet_4.main.body
noncomputable def run (k : Nat) (f : Str) (args : List PV) : M PV := pcall theBody (glob theBody) k f args

end Mine

-- SxInv
namespace Mine
open PySem

theorem absN {α : Type} {a : α} {P : Prop} (h : none = some a) : P := nomatch h
theorem absB {P : Prop} (h : false = true) : P := nomatch h
theorem pe_no {G : Str → Option PV} {n : Nat} {call : Calls} {sc : Names} {ρ : Loc} {e : Expr} {r : Except Str RV} {P : Prop} (hn : ∀ G n call sc ρ, pe G (n + 1) call sc ρ e = none) (h : pe G n call sc ρ e = some r) : P := by
  cases n with
  | zero => exact absN (show none = some r from h)
  | succ n => rw [hn] at h; exact absN h

/-- the expressions that the evaluator takes -/
inductive PeC : Expr → Prop
  | const (c : Const) (k : Nat) (p : Pos) : PeC (.Constant c k p)
  | name (x : Str) (p : Pos) : PeC (.Name x p)
  | conj (a b : Expr) (p : Pos) : PeC (.BoolOp .And [a, b] p)
  | bin (l : Expr) (op : Operator) (r : Expr) (p : Pos) : PeC (.BinOp l op r p)
  | neg (i : Int) (k : Nat) (p q : Pos) : PeC (.UnaryOp .USub (.Constant (.int i) k p) q)
  | cmp (l : Expr) (op : CmpOp) (r : Expr) (p : Pos) : PeC (.Compare l [op] [r] p)
  | call (g : Str) (q : Pos) (as : List Expr) (p : Pos) : PeC (.Call (.Name g q) as [] p)
  | join (x : Str) (k : Nat) (cp : Pos) (m : Str) (apos : Pos) (e : Expr) (p : Pos) : PeC (.Call (.Attribute (.Constant (.str x) k cp) m apos) [e] [] p)
  | fstr (a b : Expr) (r : List Expr) (p : Pos) : PeC (.JoinedStr (a :: b :: r) p)
  | sub (v s : Expr) (p : Pos) : PeC (.Subscript v s p)
  | tup (es : List Expr) (k : Nat) (p : Pos) : PeC (.Tuple es k p)
  | list (es : List Expr) (p : Pos) : PeC (.List es p)
  | comp (elt : Expr) (t : Str) (tp : Pos) (it : Expr) (ifs : List Expr) (csc : Scope) (p : Pos) : PeC (.ListComp elt [⟨.Name t tp, it, ifs, 0⟩] csc p)
  | no (e : Expr) (h : ∀ G n call sc ρ, pe G (n + 1) call sc ρ e = none) : PeC e
theorem peC (e : Expr) : PeC e := by
  cases e with
  | Constant c k p => exact .const c k p
  | Name x p => exact .name x p
  | BoolOp op vs p =>
    cases op with
    | Or => exact .no _ fun _ _ _ _ _ => rfl
    | And =>
      cases vs with
      | nil => exact .no _ fun _ _ _ _ _ => rfl
      | cons a vs =>
        cases vs with
        | nil => exact .no _ fun _ _ _ _ _ => rfl
        | cons b vs =>
          cases vs with
          | nil => exact .conj a b p
          | cons _ _ => exact .no _ fun _ _ _ _ _ => rfl
  | BinOp l op r p => exact .bin l op r p
  | UnaryOp op e p =>
    cases op with
    | USub =>
      cases e with
      | Constant c k q =>
        cases c with
        | int i => exact .neg i k q p
        | _ => exact .no _ fun _ _ _ _ _ => rfl
      | _ => exact .no _ fun _ _ _ _ _ => rfl
    | _ => exact .no _ fun _ _ _ _ _ => rfl
  | Compare l ops rs p =>
    cases ops with
    | nil => exact .no _ fun _ _ _ _ _ => rfl
    | cons op ops =>
      cases ops with
      | cons _ _ => exact .no _ fun _ _ _ _ _ => rfl
      | nil =>
        cases rs with
        | nil => exact .no _ fun _ _ _ _ _ => rfl
        | cons r rs =>
          cases rs with
          | nil => exact .cmp l op r p
          | cons _ _ => exact .no _ fun _ _ _ _ _ => rfl
  | Call f as kws p =>
    cases kws with
    | cons _ _ => exact .no _ fun _ _ _ _ _ => rfl
    | nil =>
      cases f with
      | Name g q => exact .call g q as p
      | Attribute v m apos =>
        cases v with
        | Constant c k cp =>
          cases c with
          | str x =>
            cases as with
            | nil => exact .no _ fun _ _ _ _ _ => ite_self none
            | cons e as =>
              cases as with
              | nil => exact .join x k cp m apos e p
              | cons _ _ => exact .no _ fun _ _ _ _ _ => ite_self none
          | _ => exact .no _ fun _ _ _ _ _ => rfl
        | _ => exact .no _ fun _ _ _ _ _ => rfl
      | _ => exact .no _ fun _ _ _ _ _ => rfl
  | JoinedStr ps p =>
    cases ps with
    | nil => exact .no _ fun _ _ _ _ _ => rfl
    | cons a ps =>
      cases ps with
      | nil => exact .no _ fun _ _ _ _ _ => rfl
      | cons b ps => exact .fstr a b ps p
  | Subscript v s p => exact .sub v s p
  | Tuple es k p => exact .tup es k p
  | List es p => exact .list es p
  | ListComp e gens sc p =>
    cases gens with
    | nil => exact .no _ fun _ _ _ _ _ => rfl
    | cons g gens =>
      cases g with
      | mk t it ifs i =>
        cases t with
        | Name t tp =>
          cases i with
          | negSucc n => exact .no _ fun _ _ _ _ _ => rfl
          | ofNat n =>
            cases n with
            | succ n => exact .no _ fun _ _ _ _ _ => rfl
            | zero =>
              cases gens with
              | nil => exact .comp e t tp it ifs sc p
              | cons _ _ => exact .no _ fun _ _ _ _ _ => rfl
        | _ => exact .no _ fun _ _ _ _ _ => rfl
  | _ => exact .no _ fun _ _ _ _ _ => rfl

/-- the statements that the evaluator takes -/
inductive PxC : Stmt → Prop
  | set (x : Str) (xp : Pos) (e : Expr) (p : Pos) : PxC (.Assign [.Name x xp] e p)
  | unp (ts : List Expr) (k : Nat) (q : Pos) (e : Expr) (p : Pos) : PxC (.Assign [.Tuple ts k q] e p)
  | expr (e : Expr) (p : Pos) : PxC (.Expr e p)
  | del (t : Expr) (p : Pos) : PxC (.Delete [t] p)
  | cond (t : Expr) (a b : List Stmt) (p : Pos) : PxC (.If t a b p)
  | loop (x : Str) (q : Pos) (it : Expr) (body : List Stmt) (p : Pos) : PxC (.For (.Name x q) it body [] p)
  | ret (e : Expr) (p : Pos) : PxC (.Return (some e) p)
  | raise (e : Expr) (p : Pos) : PxC (.Raise (some e) none p)
  | brk (p : Pos) : PxC (.Break p)
  | tri (x : Str) (xp : Pos) (e : Expr) (ap : Pos) (hd : ExceptHandler) (p : Pos) : PxC (.Try [.Assign [.Name x xp] e ap] [hd] [] [] p)
  | no (st : Stmt) (h : ∀ G call ow n sc ρ, px G call ow (n + 1) sc ρ st = none) : PxC st
theorem pxC (st : Stmt) : PxC st := by
  cases st with
  | Assign ts e p =>
    cases ts with
    | nil => exact .no _ fun _ _ _ _ _ _ => rfl
    | cons t ts =>
      cases t with
      | Name x xp =>
        cases ts with
        | nil => exact .set x xp e p
        | cons _ _ => exact .no _ fun _ _ _ _ _ _ => rfl
      | Tuple us k q =>
        cases ts with
        | nil => exact .unp us k q e p
        | cons _ _ => exact .no _ fun _ _ _ _ _ _ => rfl
      | _ => exact .no _ fun _ _ _ _ _ _ => rfl
  | Expr e p => exact .expr e p
  | Delete ts p =>
    cases ts with
    | nil => exact .no _ fun _ _ _ _ _ _ => rfl
    | cons t ts =>
      cases ts with
      | nil => exact .del t p
      | cons _ _ => exact .no _ fun _ _ _ _ _ _ => rfl
  | If t a b p => exact .cond t a b p
  | For t it body els p =>
    cases t with
    | Name x q =>
      cases els with
      | nil => exact .loop x q it body p
      | cons _ _ => exact .no _ fun _ _ _ _ _ _ => rfl
    | _ => exact .no _ fun _ _ _ _ _ _ => rfl
  | Return v p =>
    cases v with
    | none => exact .no _ fun _ _ _ _ _ _ => rfl
    | some e => exact .ret e p
  | Raise e c p =>
    cases e with
    | none => exact .no _ fun _ _ _ _ _ _ => rfl
    | some e =>
      cases c with
      | none => exact .raise e p
      | some _ => exact .no _ fun _ _ _ _ _ _ => rfl
  | Break p => exact .brk p
  | Try body hs els fin p =>
    cases body with
    | nil => exact .no _ fun _ _ _ _ _ _ => rfl
    | cons s body =>
      cases s with
      | Assign ts e ap =>
        cases ts with
        | nil => exact .no _ fun _ _ _ _ _ _ => rfl
        | cons t ts =>
          cases t with
          | Name x xp =>
            cases ts with
            | cons _ _ => exact .no _ fun _ _ _ _ _ _ => rfl
            | nil =>
              cases body with
              | cons _ _ => exact .no _ fun _ _ _ _ _ _ => rfl
              | nil =>
                cases hs with
                | nil => exact .no _ fun _ _ _ _ _ _ => rfl
                | cons hd hs =>
                  cases hs with
                  | cons _ _ => exact .no _ fun _ _ _ _ _ _ => rfl
                  | nil =>
                    cases els with
                    | cons _ _ => exact .no _ fun _ _ _ _ _ _ => rfl
                    | nil =>
                      cases fin with
                      | cons _ _ => exact .no _ fun _ _ _ _ _ _ => rfl
                      | nil => exact .tri x xp e ap hd p
          | _ => exact .no _ fun _ _ _ _ _ _ => rfl
      | _ => exact .no _ fun _ _ _ _ _ _ => rfl
  | _ => exact .no _ fun _ _ _ _ _ _ => rfl

section
variable {G : Str → Option PV} {n : Nat} {call : Calls} {sc : Names} {ρ : Loc} {ow : List Str}
theorem pq_const (c : Const) (k : Nat) (p : Pos) : pe G (n + 1) call sc ρ (.Constant c k p) = match c with
      | .none => ok (.val .none)
      | .bool b => ok (.val (.bool b))
      | .int i => ok (.val (.int i))
      | .str x => ok (.val (.str x))
      | _ => none := rfl
theorem pq_name (x : Str) (p : Pos) : pe G (n + 1) call sc ρ (.Name x p) = if oddName x then none else if bound (sc.lookup x) then (match ρ x with
        | some (.val d) => ok (.val d)
        | some (.own ds) => ok (.own x ds)
        | none => none)
      else if sc.lookup x = some .globalImplicit then (match G x with
        | some d => ok (.val d)
        | none => none)
      else none := rfl
theorem pq_and (a b : Expr) (p : Pos) : pe G (n + 1) call sc ρ (.BoolOp .And [a, b] p) = bd (pe G n call sc ρ a) fun r => match r with
      | .val (.bool x) => if x then pe G n call sc ρ b else ok (.val (.bool false))
      | _ => none := rfl
theorem pq_bin (l : Expr) (op : Operator) (r : Expr) (p : Pos) : pe G (n + 1) call sc ρ (.BinOp l op r p) = bd (pe G n call sc ρ l) fun x => vd x fun x => bd (pe G n call sc ρ r) fun y => vd y fun y => bd (ofOpt (pbin op x y)) fun d => ok (.val d) := rfl
theorem pq_cmp (l : Expr) (op : CmpOp) (r : Expr) (p : Pos) : pe G (n + 1) call sc ρ (.Compare l [op] [r] p) = bd (ptest G n call sc ρ l op r) fun b => ok (.val (.bool b)) := rfl
theorem pq_call (g : Str) (q : Pos) (as : List Expr) (p : Pos) : pe G (n + 1) call sc ρ (.Call (.Name g q) as [] p) = if sc.lookup g = some .globalImplicit then pfun G n call sc ρ g as else none := rfl
theorem pq_join (x : Str) (k : Nat) (cp : Pos) (m : Str) (apos : Pos) (e : Expr) (p : Pos) : pe G (n + 1) call sc ρ (.Call (.Attribute (.Constant (.str x) k cp) m apos) [e] [] p) =
    if m = ("join" : Str) ∧ x = Str.empty ∧ (apos.endLine == p.line) = true then bs (pe G n call sc ρ e) fun r => match r with
              | .val (.list ds) => match strsOf ds with
                | some ys => if (catS ys).length ≤ lim then ok (.val (.str (catS ys))) else none
                | none => none
              | _ => none
    else none := rfl
theorem pq_sub (v s : Expr) (p : Pos) : pe G (n + 1) call sc ρ (.Subscript v s p) = bd (pe G n call sc ρ v) fun a => match s with
      | .Slice lo hi none _ => vd a fun a => match lo, hi with
        | some e, none => bd (pe G n call sc ρ e) fun i => vd i fun i => bd (ofOpt (pslice a (some i) none)) fun d => ok (.val d)
        | none, some e => bd (pe G n call sc ρ e) fun i => vd i fun i => bd (ofOpt (pslice a none (some i))) fun d => ok (.val d)
        | _, _ => none
      | .Slice .. => none
      | s => bd (pe G n call sc ρ s) fun i => vd i fun i => bd (ofOpt (psub a i)) fun d => ok (.val d) := rfl
theorem pq_comp (elt : Expr) (t : Str) (tp : Pos) (it : Expr) (ifs : List Expr) (csc : Scope) (p : Pos) : pe G (n + 1) call sc ρ (.ListComp elt [⟨.Name t tp, it, ifs, 0⟩] csc p) = if csc.kind = .function ∧ compScopeOk csc.names sc t = true then
          bd (pits G n call sc ρ it) fun ds => if ds.all simple ∧ ds.length ≤ lim then
            bs (filt (fun d => evTests (pt G n noCall (relab csc.names sc) (compLoc (relab csc.names sc) ρ t d)) ifs)
                (fun d => bs (pe G n noCall (relab csc.names sc) (compLoc (relab csc.names sc) ρ t d) elt) fun r => vd r fun e => if simpleElt elt t e then ok e else none) ds) fun out =>
              ok (.val (.list out))
            else none
        else none := rfl
theorem pq_fstr (a b : Expr) (r : List Expr) (p : Pos) : pe G (n + 1) call sc ρ (.JoinedStr (a :: b :: r) p) = bd (evs (pfmt G n call sc ρ) (a :: b :: r)) fun xs => if (catS xs).length ≤ lim then ok (.val (.str (catS xs))) else none := rfl
theorem pq_tup (es : List Expr) (k : Nat) (p : Pos) : pe G (n + 1) call sc ρ (.Tuple es k p) = bd (evs (pe G n call sc ρ) es) fun rs => bd (ofOpt (vals rs)) fun ds => if ds.length ≤ lim then ok (.val (.tup ds)) else none := rfl
theorem pq_list (es : List Expr) (p : Pos) : pe G (n + 1) call sc ρ (.List es p) = bd (evs (pe G n call sc ρ) es) fun rs => bd (ofOpt (vals rs)) fun ds => if ds.length ≤ lim then ok (.val (.list ds)) else none := rfl
theorem xq_set (x : Str) (xp : Pos) (e : Expr) (p : Pos) : px G call ow (n + 1) sc ρ (.Assign [.Name x xp] e p) =
      if x ∈ ow then (if isNil e ∧ sc.lookup x = some .local then ok (.next, upd ρ x (.own [])) else none)
      else if isComp e = true ∧ ¬ (sc.lookup x = some .local ∧ swapOk x xp e = true) then none
      else if sc.lookup x = some .local ∨ sc.lookup x = some .cell then bd (pe G n call sc ρ e) fun r => vd r fun d => ok (.next, upd ρ x (.val d))
      else none := rfl
theorem xq_unp (ts : List Expr) (k : Nat) (q : Pos) (e : Expr) (p : Pos) : px G call ow (n + 1) sc ρ (.Assign [.Tuple ts k q] e p) = if isTup e = true then none else bd (pe G n call sc ρ e) fun r => match r with
      | .val (.tup ds) => if ts.all (fun t => match nameOf t with | some x => !ow.contains x | none => false) then
          (match bindAll sc ρ ts ds with
            | some ρ' => ok (.next, ρ')
            | none => none) else none
      | _ => none := rfl
theorem xq_expr (e : Expr) (p : Pos) : px G call ow (n + 1) sc ρ (.Expr e p) = match isAppend e with
      | some (x, a) => if sc.lookup x = some .local then (match ρ x with
          | some (.own ds) => bd (pe G n call sc ρ a) fun r => vd r fun d => if ds.length < lim then ok (.next, upd ρ x (.own (ds ++ [d]))) else none
          | _ => none) else none
      | none => none := rfl
theorem xq_del (t : Expr) (p : Pos) : px G call ow (n + 1) sc ρ (.Delete [t] p) = match isLast t with
      | some x => if sc.lookup x = some .local then (match ρ x with
          | some (.own ds) => if ds.length = 0 ∨ lim < ds.length then none else ok (.next, upd ρ x (.own ds.dropLast))
          | _ => none) else none
      | none => none := rfl
theorem xq_if (t : Expr) (a b : List Stmt) (p : Pos) : px G call ow (n + 1) sc ρ (.If t a b p) = bd (pt G n call sc ρ t) fun c => if c then pxs G call ow n sc ρ a else pxs G call ow n sc ρ b := rfl
theorem xq_for (x : Str) (q : Pos) (it : Expr) (body : List Stmt) (p : Pos) : px G call ow (n + 1) sc ρ (.For (.Name x q) it body [] p) = if x ∉ ow ∧ sc.lookup x = some .local then
        bd (pits G n call sc ρ it) fun ds => ploop (onBody (pxs G call ow n sc) body) x ds ρ else none := rfl
theorem xq_ret (e : Expr) (p : Pos) : px G call ow (n + 1) sc ρ (.Return (some e) p) = bd (pe G n call sc ρ e) fun r => ok (.ret r, ρ) := rfl
theorem xq_raise (e : Expr) (p : Pos) : px G call ow (n + 1) sc ρ (.Raise (some e) none p) = match isRaise e with
      | some a => if sc.lookup ("PatternError" : Str) = some .globalImplicit then bd (pe G n call sc ρ a) fun r => match r with
          | .val (.str x) => some (.error x)
          | _ => none else none
      | none => none := rfl
theorem xq_brk (p : Pos) : px G call ow (n + 1) sc ρ (.Break p) = ok (.brk, ρ) := rfl
theorem xq_try (x : Str) (xp : Pos) (e : Expr) (ap : Pos) (hd : ExceptHandler) (p : Pos) : px G call ow (n + 1) sc ρ (.Try [.Assign [.Name x xp] e ap] [hd] [] [] p) = match isHandler hd with
      | some (y, v) => if (sc.lookup x = some .local ∧ sc.lookup y = some .local ∧ sc.lookup v = some .local) ∧ (sc.lookup ("PatternError" : Str) = some .globalImplicit ∧ sc.lookup ("str" : Str) = some .globalImplicit) ∧ isComp e = false ∧ oddName v = false ∧ (ρ v).isNone = true then (match pe G n call sc ρ e with
          | some (.ok (.val d)) => ok (.next, upd ρ x (.val d))
          | some (.error m) => ok (.next, upd ρ y (.val (.str m)))
          | _ => none) else none
      | none => none := rfl
end

/-- f(a) with a plain name f -/
inductive CallC : Expr → Prop
  | one (g : Str) (q : Pos) (e : Expr) (p : Pos) : CallC (.Call (.Name g q) [e] [] p)
  | no (e : Expr) (h1 : isRange e = none) (h2 : isTypeOf e = none) (h3 : isRaise e = none) : CallC e
theorem callC (e : Expr) : CallC e := by
  cases e with
  | Call f as kws p =>
    cases f with
    | Name g q =>
      cases as with
      | nil => exact .no _ rfl rfl rfl
      | cons a as =>
        cases as with
        | cons _ _ => exact .no _ rfl rfl rfl
        | nil =>
          cases kws with
          | cons _ _ => exact .no _ rfl rfl rfl
          | nil => exact .one g q a p
    | _ => exact .no _ rfl rfl rfl
  | _ => exact .no _ rfl rfl rfl

/-- the parts of an f-string -/
inductive FmtC : Expr → Prop
  | str (x : Str) (k : Nat) (p : Pos) : FmtC (.Constant (.str x) k p)
  | fld (v : Expr) (p : Pos) : FmtC (.FormattedValue v (-1) none p)
  | no (e : Expr) (h : ∀ G n call sc ρ, pfmt G (n + 1) call sc ρ e = none) : FmtC e
theorem fmtC (e : Expr) : FmtC e := by
  cases e with
  | Constant c k p =>
    cases c with
    | str x => exact .str x k p
    | _ => exact .no _ fun _ _ _ _ _ => rfl
  | FormattedValue v i s p =>
    cases i with
    | ofNat n => exact .no _ fun _ _ _ _ _ => rfl
    | negSucc n =>
      cases n with
      | succ n => exact .no _ fun _ _ _ _ _ => rfl
      | zero =>
        cases s with
        | none => exact .fld v p
        | some _ => exact .no _ fun _ _ _ _ _ => rfl
  | _ => exact .no _ fun _ _ _ _ _ => rfl
theorem fq_fld {G : Str → Option PV} {n : Nat} {call : Calls} {sc : Names} {ρ : Loc} (v : Expr) (p : Pos) : pfmt G (n + 1) call sc ρ (.FormattedValue v (-1) none p) = bs (pe G n call sc ρ v) fun r => match r with
      | .val (.str x) => if x.length ≤ lim then ok x else none
      | .val (.int i) => if smallInt i then ok (Str.ofString (toString i)) else none
      | _ => none := rfl

/-- a plain name -/
inductive NameC : Expr → Prop
  | yes (x : Str) (p : Pos) : NameC (.Name x p)
  | no (e : Expr) (h : nameOf e = none) (hb : ∀ sc ρ ts ds, bindAll sc ρ (e :: ts) ds = none) : NameC e
theorem nameC (e : Expr) : NameC e := by
  cases e with
  | Name x p => exact .yes x p
  | _ => exact .no _ rfl fun _ _ _ _ => rfl
theorem name_inv {e : Expr} {t : Str} (h : nameOf e = some t) : ∃ p, e = .Name t p := by
  cases nameC e with
  | no _ hn _ => rw [hn] at h; exact absN h
  | yes x p => exact ⟨p, by rw [Option.some.inj h]⟩
theorem isRange_inv {e a : Expr} (h : isRange e = some a) : ∃ gp pos, e = .Call (.Name "range" gp) [a] [] pos := by
  cases callC e with
  | no _ h1 _ _ => rw [h1] at h; exact absN h
  | one g q e' p =>
    have h : (if g = ("range" : Str) then some e' else none) = some a := h
    by_cases hg : g = ("range" : Str)
    · rw [if_pos hg] at h
      exact ⟨q, p, by rw [hg, Option.some.inj h]⟩
    · rw [if_neg hg] at h; exact absN h
theorem isTypeOf_inv {e a : Expr} (h : isTypeOf e = some a) : ∃ gp pos, e = .Call (.Name "type" gp) [a] [] pos := by
  cases callC e with
  | no _ _ h2 _ => rw [h2] at h; exact absN h
  | one g q e' p =>
    have h : (if g = ("type" : Str) then some e' else none) = some a := h
    by_cases hg : g = ("type" : Str)
    · rw [if_pos hg] at h
      exact ⟨q, p, by rw [hg, Option.some.inj h]⟩
    · rw [if_neg hg] at h; exact absN h
theorem isRaise_inv {e a : Expr} (h : isRaise e = some a) : ∃ gp pos, e = .Call (.Name "PatternError" gp) [a] [] pos := by
  cases callC e with
  | no _ _ _ h3 => rw [h3] at h; exact absN h
  | one g q e' p =>
    have h : (if g = ("PatternError" : Str) then some e' else none) = some a := h
    by_cases hg : g = ("PatternError" : Str)
    · rw [if_pos hg] at h
      exact ⟨q, p, by rw [hg, Option.some.inj h]⟩
    · rw [if_neg hg] at h; exact absN h
theorem bind_no {sc : Names} {ρ : Loc} {t : Expr} {ts : List Expr} : bindAll sc ρ (t :: ts) [] = none := by
  cases nameC t with
  | yes x p => rfl
  | no _ _ hb => exact hb _ _ _ _
theorem bind_yes {sc : Names} {ρ : Loc} {x : Str} {p : Pos} {ts : List Expr} {d : PV} {ds : List PV} : bindAll sc ρ (.Name x p :: ts) (d :: ds) = if sc.lookup x = some .local ∨ sc.lookup x = some .cell then bindAll sc (upd ρ x (.val d)) ts ds else none := rfl

/-- x.append(a) -/
inductive AppC : Expr → Prop
  | yes (y : Str) (xp : Pos) (m : Str) (apos : Pos) (b : Expr) (p : Pos) : AppC (.Call (.Attribute (.Name y xp) m apos) [b] [] p)
  | no (e : Expr) (h : isAppend e = none) : AppC e
theorem appC (e : Expr) : AppC e := by
  cases e with
  | Call f as kws p =>
    cases f with
    | Attribute v m apos =>
      cases v with
      | Name y xp =>
        cases as with
        | nil => exact .no _ rfl
        | cons b as =>
          cases as with
          | cons _ _ => exact .no _ rfl
          | nil =>
            cases kws with
            | cons _ _ => exact .no _ rfl
            | nil => exact .yes y xp m apos b p
      | _ => exact .no _ rfl
    | _ => exact .no _ rfl
  | _ => exact .no _ rfl
theorem isAppend_inv {e a : Expr} {x : Str} (h : isAppend e = some (x, a)) : ∃ xp apos pos, e = .Call (.Attribute (.Name x xp) "append" apos) [a] [] pos ∧ (apos.endLine == pos.line) = true ∧ oddName x = false := by
  cases appC e with
  | no _ hn => rw [hn] at h; cases h
  | yes y xp m apos b p =>
    have h : (if m = ("append" : Str) ∧ (apos.endLine == p.line) = true ∧ oddName y = false then some (y, b) else none) = some (x, a) := h
    by_cases hc : m = ("append" : Str) ∧ (apos.endLine == p.line) = true ∧ oddName y = false
    · rw [if_pos hc] at h
      obtain ⟨h1, h2, h3⟩ := hc
      cases h
      subst h1
      exact ⟨_, _, _, rfl, h2, h3⟩
    · rw [if_neg hc] at h
      cases h

/-- x[-1] -/
inductive LastC : Expr → Prop
  | yes (y : Str) (xp p q r : Pos) (k : Nat) : LastC (.Subscript (.Name y xp) (.UnaryOp .USub (.Constant (.int 1) k p) q) r)
  | no (e : Expr) (h : isLast e = none) : LastC e
theorem lastC (e : Expr) : LastC e := by
  cases e with
  | Subscript v s r =>
    cases v with
    | Name y xp =>
      cases s with
      | UnaryOp op o q =>
        cases op with
        | USub =>
          cases o with
          | Constant c k p =>
            cases c with
            | int i =>
              cases i with
              | negSucc n => exact .no _ rfl
              | ofNat n =>
                cases n with
                | zero => exact .no _ rfl
                | succ n =>
                  cases n with
                  | zero => exact .yes y xp p q r k
                  | succ n => exact .no _ rfl
            | _ => exact .no _ rfl
          | _ => exact .no _ rfl
        | _ => exact .no _ rfl
      | _ => exact .no _ rfl
    | _ => exact .no _ rfl
  | _ => exact .no _ rfl
theorem isLast_inv {e : Expr} {x : Str} (h : isLast e = some x) : ∃ xp p q r k, e = .Subscript (.Name x xp) (.UnaryOp .USub (.Constant (.int 1) k p) q) r ∧ oddName x = false := by
  cases lastC e with
  | no _ hn => rw [hn] at h; cases h
  | yes y xp p q r k =>
    have h : (if oddName y = true then none else some y) = some x := h
    by_cases hc : oddName y = true
    · rw [if_pos hc] at h; cases h
    · rw [if_neg hc] at h
      cases h
      exact ⟨_, _, _, _, _, rfl, by simpa using hc⟩

/-- except c as n: y = g(v) -/
inductive HandC : ExceptHandler → Prop
  | yes (c : Str) (cp : Pos) (n y : Str) (yp : Pos) (g : Str) (gp : Pos) (v : Str) (vp kp ap p : Pos) : HandC (.ExceptHandler (some (.Name c cp)) (some n) [.Assign [.Name y yp] (.Call (.Name g gp) [.Name v vp] [] kp) ap] p)
  | no (hd : ExceptHandler) (h : isHandler hd = none) : HandC hd
theorem handC (hd : ExceptHandler) : HandC hd := by
  cases hd with
  | ExceptHandler t n body p =>
  cases t with
  | none => exact .no _ rfl
  | some t =>
  cases t with
  | Name c cp =>
    cases n with
    | none => exact .no _ rfl
    | some n =>
    cases body with
    | nil => exact .no _ rfl
    | cons s body =>
    cases s with
    | Assign ts e ap =>
      cases ts with
      | nil => exact .no _ rfl
      | cons t ts =>
      cases t with
      | Name y yp =>
        cases ts with
        | cons _ _ => exact .no _ rfl
        | nil =>
        cases e with
        | Call f as kws kp =>
          cases f with
          | Name g gp =>
            cases as with
            | nil => exact .no _ rfl
            | cons a as =>
            cases a with
            | Name v vp =>
              cases as with
              | cons _ _ => exact .no _ rfl
              | nil =>
              cases kws with
              | cons _ _ => exact .no _ rfl
              | nil =>
              cases body with
              | cons _ _ => exact .no _ rfl
              | nil => exact .yes c cp n y yp g gp v vp kp ap p
            | _ => exact .no _ rfl
          | _ => exact .no _ rfl
        | _ => exact .no _ rfl
      | _ => exact .no _ rfl
    | _ => exact .no _ rfl
  | _ => exact .no _ rfl
theorem isHandler_inv {hd : ExceptHandler} {y v : Str} (h : isHandler hd = some (y, v)) : ∃ cp yp gp vp kp ap hp, hd = .ExceptHandler (some (.Name "PatternError" cp)) (some v) [.Assign [.Name y yp] (.Call (.Name "str" gp) [.Name v vp] [] kp) ap] hp ∧ y ≠ v := by
  cases handC hd with
  | no _ hn => rw [hn] at h; cases h
  | yes c cp n y' yp g gp v' vp kp ap p =>
    have h : (if c = ("PatternError" : Str) ∧ g = ("str" : Str) ∧ v' = n ∧ y' ≠ n then some (y', n) else none) = some (y, v) := h
    by_cases hc : c = ("PatternError" : Str) ∧ g = ("str" : Str) ∧ v' = n ∧ y' ≠ n
    · rw [if_pos hc] at h
      obtain ⟨h1, h2, h3, h4⟩ := hc
      cases h
      subst h1; subst h2; subst h3
      exact ⟨_, _, _, _, _, _, _, rfl, h4⟩
    · rw [if_neg hc] at h; cases h

/-- the constant None, the empty list -/
inductive PlainC : Expr → Prop
  | none (k : Nat) (p : Pos) : PlainC (.Constant .none k p)
  | nil (p : Pos) : PlainC (.List [] p)
  | no (e : Expr) (h1 : isNoneConst e = false) (h2 : isNil e = false) : PlainC e
theorem plainC (e : Expr) : PlainC e := by
  cases e with
  | Constant c k p =>
    cases c with
    | none => exact .none k p
    | _ => exact .no _ rfl rfl
  | List es p =>
    cases es with
    | nil => exact .nil p
    | cons _ _ => exact .no _ rfl rfl
  | _ => exact .no _ rfl rfl
theorem isNone_inv {e : Expr} (h : isNoneConst e = true) : ∃ k p, e = .Constant .none k p := by
  cases plainC e with
  | none k p => exact ⟨k, p, rfl⟩
  | nil p => cases h
  | no _ h1 _ => rw [h1] at h; cases h
theorem isNil_inv {e : Expr} (h : isNil e = true) : ∃ p, e = .List [] p := by
  cases plainC e with
  | none k p => cases h
  | nil p => exact ⟨p, rfl⟩
  | no _ _ h2 => rw [h2] at h; cases h
end Mine

-- SxSem
namespace Mine
open PySem PyProof.Rows

/-- what stays the same during the whole call of the law -/
structure Cx where
  prog : Program
  w : World
  base : Heap
  SD : Addr → List (Str × Str) → Prop
  mg : Str → Option Value
  mb : Str → Option Value

mutual
/-- the value v stands for the datum in the heap h; no list of O is met on the way -/
inductive Rep (c : Cx) (O : List Addr) (h : Heap) : Value → PV → Prop
  | none : Rep c O h Value.none PV.none
  | bool (b : Bool) : Rep c O h (Value.bool b) (PV.bool b)
  | int (i : Int) (t : Tok) : Rep c O h (Value.int i t) (PV.int i)
  | str (x : Str) (t : Tok) : Rep c O h (Value.str x t) (PV.str x)
  | tup {a : Addr} {vs : List Value} {ds : List PV} {n : Nat} : a ∉ O → IsT h a vs.toArray n → Reps c O h vs ds → Rep c O h (Value.ref a) (PV.tup ds)
  | list {a : Addr} {vs : List Value} {ds : List PV} {n : Nat} : a ∉ O → IsL h a vs.toArray n → Reps c O h vs ds → Rep c O h (Value.ref a) (PV.list ds)
  | sdict {a : Addr} {kvs : List (Str × Str)} : c.SD a kvs → Rep c O h (Value.ref a) (PV.sdict kvs)
inductive Reps (c : Cx) (O : List Addr) (h : Heap) : List Value → List PV → Prop
  | nil : Reps c O h [] []
  | cons {v : Value} {vs : List Value} {d : PV} {ds : List PV} : Rep c O h v d → Reps c O h vs ds → Reps c O h (v :: vs) (d :: ds)
end

noncomputable def UpSeq (O : List Addr) (h h' : Heap) : Prop := ∀ a o vs n, a ∉ O → h.get? a = some o → o.data = .seq vs n → h'.get? a = some o
theorem UpSeq.of_keeps {O : List Addr} {h h' : Heap} (k : ∀ b o, h.get? b = some o → h'.get? b = some o) : UpSeq O h h' := fun _ _ _ _ _ e _ => k _ _ e
theorem UpSeq.tup {O : List Addr} {h h' : Heap} (k : UpSeq O h h') {a : Addr} {its : Array Value} {n : Nat} (ha : a ∉ O) (x : IsT h a its n) : IsT h' a its n := k a _ _ _ ha x rfl
theorem UpSeq.list {O : List Addr} {h h' : Heap} (k : UpSeq O h h') {a : Addr} {its : Array Value} {n : Nat} (ha : a ∉ O) (x : IsL h a its n) : IsL h' a its n := k a _ _ _ ha x rfl

theorem Rep.none_inv {c : Cx} {O : List Addr} {h : Heap} {v : Value} (x : Rep c O h v .none) : v = .none := by cases x; rfl
theorem Rep.bool_inv {c : Cx} {O : List Addr} {h : Heap} {v : Value} {b : Bool} (x : Rep c O h v (.bool b)) : v = .bool b := by cases x; rfl
theorem Rep.int_inv {c : Cx} {O : List Addr} {h : Heap} {v : Value} {i : Int} (x : Rep c O h v (.int i)) : ∃ t, v = .int i t := by cases x; exact ⟨_, rfl⟩
theorem Rep.str_inv {c : Cx} {O : List Addr} {h : Heap} {v : Value} {y : Str} (x : Rep c O h v (.str y)) : ∃ t, v = .str y t := by cases x; exact ⟨_, rfl⟩
theorem Rep.tup_inv {c : Cx} {O : List Addr} {h : Heap} {v : Value} {ds : List PV} (x : Rep c O h v (.tup ds)) : ∃ a vs n, v = .ref a ∧ a ∉ O ∧ IsT h a vs.toArray n ∧ Reps c O h vs ds := by
  cases x with
  | tup ha l r => exact ⟨_, _, _, rfl, ha, l, r⟩
theorem Rep.list_inv {c : Cx} {O : List Addr} {h : Heap} {v : Value} {ds : List PV} (x : Rep c O h v (.list ds)) : ∃ a vs n, v = .ref a ∧ a ∉ O ∧ IsL h a vs.toArray n ∧ Reps c O h vs ds := by
  cases x with
  | list ha l r => exact ⟨_, _, _, rfl, ha, l, r⟩
theorem Rep.sdict_inv {c : Cx} {O : List Addr} {h : Heap} {v : Value} {kvs : List (Str × Str)} (x : Rep c O h v (.sdict kvs)) : ∃ a, v = .ref a ∧ c.SD a kvs := by
  cases x with
  | sdict sd => exact ⟨_, rfl, sd⟩
theorem imm_rep {c : Cx} {O O' : List Addr} {h h' : Heap} {v : Value} {d : PV} (him : immediate d = true) (hv : Rep c O h v d) : Rep c O' h' v d := by
  cases d with
  | bool b => rw [hv.bool_inv]; exact .bool b
  | _ => exact absB him
theorem Rep.both {c : Cx} {O O' : List Addr} {h h' : Heap} (kt : ∀ {a : Addr} {its : Array Value} {n : Nat}, a ∉ O → IsT h a its n → a ∉ O' ∧ IsT h' a its n) (kl : ∀ {a : Addr} {its : Array Value} {n : Nat}, a ∉ O → IsL h a its n → a ∉ O' ∧ IsL h' a its n) :
    (∀ {v : Value} {d : PV}, Rep c O h v d → Rep c O' h' v d) ∧ ∀ {vs : List Value} {ds : List PV}, Reps c O h vs ds → Reps c O' h' vs ds :=
  ⟨fun x => Rep.rec (motive_1 := fun v d _ => Rep c O' h' v d) (motive_2 := fun vs ds _ => Reps c O' h' vs ds) .none .bool .int .str (fun ha x _ r => .tup (kt ha x).1 (kt ha x).2 r) (fun ha x _ r => .list (kl ha x).1 (kl ha x).2 r) .sdict .nil (fun _ _ x r => .cons x r) x,
   fun x => Reps.rec (motive_1 := fun v d _ => Rep c O' h' v d) (motive_2 := fun vs ds _ => Reps c O' h' vs ds) .none .bool .int .str (fun ha x _ r => .tup (kt ha x).1 (kt ha x).2 r) (fun ha x _ r => .list (kl ha x).1 (kl ha x).2 r) .sdict .nil (fun _ _ x r => .cons x r) x⟩
theorem Rep.up {c : Cx} {O : List Addr} {h h' : Heap} (k : UpSeq O h h') {v : Value} {d : PV} (x : Rep c O h v d) : Rep c O h' v d := (Rep.both (fun ha x => ⟨ha, k.tup ha x⟩) (fun ha x => ⟨ha, k.list ha x⟩)).1 x
theorem Reps.up {c : Cx} {O : List Addr} {h h' : Heap} (k : UpSeq O h h') {vs : List Value} {ds : List PV} (x : Reps c O h vs ds) : Reps c O h' vs ds := (Rep.both (fun ha x => ⟨ha, k.tup ha x⟩) (fun ha x => ⟨ha, k.list ha x⟩)).2 x
theorem Rep.sub {c : Cx} {O O' : List Addr} {h : Heap} (k : ∀ a ∈ O', a ∈ O) {v : Value} {d : PV} (x : Rep c O h v d) : Rep c O' h v d := (Rep.both (fun ha x => ⟨fun q => ha (k _ q), x⟩) (fun ha x => ⟨fun q => ha (k _ q), x⟩)).1 x
theorem Reps.sub {c : Cx} {O O' : List Addr} {h : Heap} (k : ∀ a ∈ O', a ∈ O) {vs : List Value} {ds : List PV} (x : Reps c O h vs ds) : Reps c O' h vs ds := (Rep.both (fun ha x => ⟨fun q => ha (k _ q), x⟩) (fun ha x => ⟨fun q => ha (k _ q), x⟩)).2 x


section
variable {c : Cx} {O : List Addr} {h : Heap} {v : Value} {d : PV} {vs ws : List Value} {ds es : List PV}
theorem Reps.length (x : Reps c O h vs ds) : vs.length = ds.length := by
  induction vs generalizing ds with
  | nil => cases x; rfl
  | cons v vs ih =>
    cases x with
    | cons _ r => rw [List.length_cons, List.length_cons, ih r]
theorem Reps.append (x : Reps c O h vs ds) (y : Reps c O h ws es) : Reps c O h (vs ++ ws) (ds ++ es) := by
  induction vs generalizing ds with
  | nil => cases x; exact y
  | cons v vs ih =>
    cases x with
    | cons x r => exact .cons x (ih r)
theorem Reps.get (x : Reps c O h vs ds) {k : Nat} {d : PV} (hk : ds[k]? = some d) : ∃ v, vs[k]? = some v ∧ Rep c O h v d := by
  induction vs generalizing ds k with
  | nil => cases x; cases hk
  | cons v vs ih =>
    cases x with
    | cons x r =>
      cases k with
      | zero => cases hk; exact ⟨v, rfl, x⟩
      | succ k => exact ih r hk
theorem Reps.take (x : Reps c O h vs ds) (k : Nat) : Reps c O h (vs.take k) (ds.take k) := by
  induction vs generalizing ds k with
  | nil => cases x; simp only [List.take_nil]; exact .nil
  | cons v vs ih =>
    cases x with
    | cons x r =>
      cases k with
      | zero => exact .nil
      | succ k => exact .cons x (ih r k)
theorem Reps.drop (x : Reps c O h vs ds) (k : Nat) : Reps c O h (vs.drop k) (ds.drop k) := by
  induction vs generalizing ds k with
  | nil => cases x; simp only [List.drop_nil]; exact .nil
  | cons v vs ih =>
    cases x with
    | cons x r =>
      cases k with
      | zero => exact .cons x r
      | succ k => exact ih r k
theorem Reps.dropLast (x : Reps c O h vs ds) : Reps c O h vs.dropLast ds.dropLast := by
  rw [List.dropLast_eq_take, List.dropLast_eq_take, x.length]
  exact x.take _
theorem Reps.strs (x : Reps c O h vs ds) {ys : List Str} (hs : strsOf ds = some ys) : StrsAre vs ys := by
  induction vs generalizing ds ys with
  | nil => cases x; cases hs; exact .nil
  | cons v vs ih =>
    cases x with
    | cons x r =>
      cases x with
      | str y t =>
        simp only [strsOf] at hs
        split at hs
        · rename_i zs hz
          cases hs
          exact .cons y t (ih r hz)
        · first | exact absN hs | cases hs
      | _ => cases hs
end

noncomputable def AllSlots (h h' : Heap) : Prop := ∀ b o, h.get? b = some o → ∃ sl, h'.get? b = some { o with slots := sl }
theorem AllSlots.up {h h' : Heap} (x : AllSlots h h') : h.UpToSlots h' := fun b o e _ => x b o e
theorem AllSlots.of_keeps {h h' : Heap} (k : ∀ b o, h.get? b = some o → h'.get? b = some o) : AllSlots h h' := fun b o e => ⟨o.slots, k b o e⟩
theorem AllSlots.trans {a b d : Heap} (x : AllSlots a b) (y : AllSlots b d) : AllSlots a d := fun q o e => let ⟨_, e1⟩ := x q o e; let ⟨sl, e2⟩ := y q _ e1; ⟨sl, e2⟩

/-- the relation of two heaps: what an expression may do. fr: the frames on the stack, whose slots may turn where an exception passed -/
structure Rl (R : Heap → Heap → Prop) (fr : List Addr) : Prop where
  trans : ∀ {a b d : Heap}, R a b → R b d → R a d
  of_keeps : ∀ {h h' : Heap}, (∀ b o, h.get? b = some o → h'.get? b = some o) → R h h'
  exact : ∀ {h h' : Heap}, R h h' → ∀ b o, b ∉ fr → h.get? b = some o → h'.get? b = some o
  all : ∀ {h h' : Heap}, R h h' → AllSlots h h'
  seq : ∀ {h h' : Heap}, R h h' → ∀ O, UpSeq O h h'
  skip : ∀ {h h' h'' : Heap} {wr : List Addr}, R h h' → (∀ b ∈ wr, h.get? b = none) → (∀ b o, b ∉ wr → h'.get? b = some o → h''.get? b = some o) → R h h''
theorem Rl.slots {R : Heap → Heap → Prop} {fr : List Addr} (r : Rl R fr) {h h' : Heap} (k : R h h') : h.UpToSlots h' := (r.all k).up
theorem Rl.refl {R : Heap → Heap → Prop} {fr : List Addr} (r : Rl R fr) (h : Heap) : R h h := r.of_keeps fun _ _ e => e
theorem Rl.fresh {R : Heap → Heap → Prop} {fr : List Addr} (rl : Rl R fr) {h h' : Heap} (k : R h h') {a : Addr} (ha : h'.objs.size ≤ a) : h.get? a = none := by
  cases q : h.get? a with
  | none => rfl
  | some o =>
    obtain ⟨sl, e⟩ := rl.all k a o q
    exact absurd (Heap.lt_size e) (Nat.not_lt.mpr ha)
noncomputable def KeepsR (h h' : Heap) : Prop := ∀ b o, h.get? b = some o → h'.get? b = some o
theorem notWr {h : Heap} {wr : List Addr} (k : ∀ b ∈ wr, h.get? b = none) {b : Addr} {o : Obj} (e : h.get? b = some o) : b ∉ wr := fun q => by (first | exact absN ((k b q).symm.trans e) | (rw [k b q] at e; cases e))
theorem rl_keeps (fr : List Addr) : Rl KeepsR fr := ⟨fun x y b o e => y b o (x b o e), fun k => k, fun x b o _ e => x b o e, fun x => .of_keeps x, fun x _ => .of_keeps x,
  fun x k y b o e => y b o (notWr k e) (x b o e)⟩
noncomputable def GrowR (fr : List Addr) (h h' : Heap) : Prop := (∀ b o, b ∉ fr → h.get? b = some o → h'.get? b = some o) ∧ AllSlots h h' ∧ UpSeq [] h h'
theorem rl_grow (fr : List Addr) : Rl (GrowR fr) fr :=
  ⟨fun x y => ⟨fun b o n e => y.1 b o n (x.1 b o n e), x.2.1.trans y.2.1, fun a o vs n q e hd => y.2.2 a o vs n q (x.2.2 a o vs n q e hd) hd⟩,
    fun k => ⟨fun b o _ e => k b o e, .of_keeps k, .of_keeps k⟩, fun x => x.1, fun x => x.2.1, fun x _ a o vs n _ e hd => x.2.2 a o vs n (fun q => nomatch q) e hd,
    fun x k y => ⟨fun b o n e => y b o (notWr k e) (x.1 b o n e), fun b o e => let ⟨sl, e'⟩ := x.2.1 b o e; ⟨sl, y b _ (notWr k e) e'⟩, fun a o vs n q e hd => y a o (notWr k e) (x.2.2 a o vs n q e hd)⟩⟩

/-- a list that a frame's name owns -/
noncomputable def OwnAt (c : Cx) (O : List Addr) (h : Heap) (a : Addr) (ds : List PV) : Prop :=
  a ∈ O ∧ ∃ vs n, IsL h a vs.toArray n ∧ Reps c O h vs ds
noncomputable def RvRep (c : Cx) (O : List Addr) (own : List (Str × Addr)) (h : Heap) (v : Value) : RV → Prop
  | .val d => Rep c O h v d
  | .own x ds => ∃ a, own.lookup x = some a ∧ v = .ref a ∧ OwnAt c O h a ds
noncomputable def SlotRep (c : Cx) (O : List Addr) (own : List (Str × Addr)) (h : Heap) (x : Str) (v : Value) : Slot → Prop
  | .val d => Rep c O h v d
  | .own ds => ∃ a, own.lookup x = some a ∧ v = .ref a ∧ OwnAt c O h a ds

/-- the frame's names -/
structure Vars (c : Cx) (O : List Addr) (own : List (Str × Addr)) (env : Env) (ρ : Loc) (h : Heap) : Prop where
  locals : ∃ m, h.Ns env.locals m ∧ ∀ x sl, env.kindOf x = some .local → ρ x = some sl → ∃ v, m x = some v ∧ SlotRep c O own h x v sl
  cells : ∀ x sl, env.kindOf x = some .cell ∨ env.kindOf x = some .free → ρ x = some sl → ∃ d cl v, sl = .val d ∧ env.cells.lookup x = some cl ∧ h.IsCell cl (some v) ∧ Rep c O h v d
  there : ∀ x, env.kindOf x = some .cell → ∃ cl v, env.cells.lookup x = some cl ∧ h.IsCell cl v

theorem isCell_slots {h h' : Heap} {cl : Addr} {v : Option Value} (k : h.UpToSlots h') (x : h.IsCell cl v) : h'.IsCell cl v := by
  obtain ⟨o, e, hd⟩ := x
  obtain ⟨sl, e'⟩ := k cl o e (fun ws q => by (first | exact absN ((hd).symm.trans q) | (rw [hd] at q; cases q)))
  exact ⟨_, e', hd⟩

section
variable {c : Cx} {O : List Addr} {own : List (Str × Addr)} {env : Env} {ρ : Loc} {h h' : Heap} {R : Heap → Heap → Prop} {fr : List Addr}
theorem OwnAt.step (rl : Rl R fr) (k : R h h') (hfr : ∀ a ∈ O, a ∉ fr) {a : Addr} {ds : List PV} (x : OwnAt c O h a ds) : OwnAt c O h' a ds := by
  obtain ⟨ha, vs, n, e, r⟩ := x
  exact ⟨ha, vs, n, rl.exact k a _ (hfr a ha) e, r.up (rl.seq k _)⟩
theorem RvRep.step (rl : Rl R fr) (k : R h h') (hfr : ∀ a ∈ O, a ∉ fr) {v : Value} : ∀ {rv : RV}, RvRep c O own h v rv → RvRep c O own h' v rv
  | .val _, x => Rep.up (rl.seq k _) x
  | .own _ _, ⟨a, e, ev, x⟩ => ⟨a, e, ev, x.step rl k hfr⟩
theorem SlotRep.step (rl : Rl R fr) (k : R h h') (hfr : ∀ a ∈ O, a ∉ fr) {x : Str} {v : Value} : ∀ {sl : Slot}, SlotRep c O own h x v sl → SlotRep c O own h' x v sl
  | .val _, x => Rep.up (rl.seq k _) x
  | .own _, ⟨a, e, ev, x⟩ => ⟨a, e, ev, x.step rl k hfr⟩
theorem Vars.step (rl : Rl R fr) (k : R h h') (hfr : ∀ a ∈ O, a ∉ fr) (x : Vars c O own env ρ h) : Vars c O own env ρ h' := by
  obtain ⟨⟨m, hn, hm⟩, hc, ht⟩ := x
  refine ⟨⟨m, (rl.slots k).ns hn, fun x sl hk hx => ?_⟩, fun x sl hk hx => ?_, fun x hk => let ⟨cl, v, e, i⟩ := ht x hk; ⟨cl, v, e, isCell_slots (rl.slots k) i⟩⟩
  · obtain ⟨v, e, r⟩ := hm x sl hk hx
    exact ⟨v, e, r.step rl k hfr⟩
  · obtain ⟨d, cl, v, e1, e2, e3, e4⟩ := hc x sl hk hx
    exact ⟨d, cl, v, e1, e2, isCell_slots (rl.slots k) e3, e4.up (rl.seq k _)⟩
end

end Mine

-- SxSem2
namespace Mine
open PySem PyProof.Rows

/-- the owned lists are there, apart from the frames and from what stood before -/
noncomputable def OT (c : Cx) (O fr : List Addr) (h : Heap) : Prop := ∀ a ∈ O, a ∉ fr ∧ c.base.get? a = none ∧ ∃ o vs n, h.get? a = some o ∧ o.data = .seq vs n
theorem OT.step {c : Cx} {O fr : List Addr} {h h' : Heap} {R : Heap → Heap → Prop} (rl : Rl R fr) (k : R h h') (x : OT c O fr h) : OT c O fr h' := fun a ha => by
  obtain ⟨h1, h2, o, vs, n, e, hd⟩ := x a ha
  exact ⟨h1, h2, o, vs, n, rl.exact k a o h1 e, hd⟩

theorem base_both {c : Cx} {O : List Addr} {h : Heap} (k : c.base.StaysIn h) (hO : ∀ a ∈ O, c.base.get? a = none) :
    (∀ {v : Value} {d : PV}, Rep c [] c.base v d → Rep c O h v d) ∧ ∀ {vs : List Value} {ds : List PV}, Reps c [] c.base vs ds → Reps c O h vs ds :=
  Rep.both (fun {a its n} _ x => ⟨fun q => absN ((hO a q).symm.trans x), (UpSeq.of_keeps (O := []) k).tup (fun q => nomatch q) x⟩) (fun {a its n} _ x => ⟨fun q => absN ((hO a q).symm.trans x), (UpSeq.of_keeps (O := []) k).list (fun q => nomatch q) x⟩)
theorem Rep.ofBase {c : Cx} {O : List Addr} {h : Heap} (k : c.base.StaysIn h) (hO : ∀ a ∈ O, c.base.get? a = Option.none) {v : Value} {d : PV} (x : Rep c [] c.base v d) : Rep c O h v d := (base_both k hO).1 x
theorem Reps.ofBase {c : Cx} {O : List Addr} {h : Heap} (k : c.base.StaysIn h) (hO : ∀ a ∈ O, c.base.get? a = none) {vs : List Value} {ds : List PV} (x : Reps c [] c.base vs ds) : Reps c O h vs ds := (base_both k hO).2 x

/-- what the top left -/
structure Amb (c : Cx) (G : Str → Option PV) : Prop where
  ns : c.base.Ns mainGlobals c.mg
  nb : c.base.Ns builtinsNs c.mb
  glob : ∀ x d, G x = some d → ∃ v, c.mg x = some v ∧ Rep c [] c.base v d
  fn : ∀ g, fnNames.contains g = true → ∃ fa o fd, c.mg g = some (.ref fa) ∧ c.base.get? fa = some o ∧ o.data = .func fd
  b_len : c.mg "len" = none ∧ c.mb "len" = some (.builtin "len")
  b_str : c.mg "str" = none ∧ c.mb "str" = some (.type "str")
  b_list : c.mg "list" = none ∧ c.mb "list" = some (.type "list")
  b_isinstance : c.mg "isinstance" = none ∧ c.mb "isinstance" = some (.builtin "isinstance")
  b_type : c.mg "type" = none ∧ c.mb "type" = some (.type "type")
  b_range : c.mg "range" = none ∧ c.mb "range" = some (.type "range")
  b_tuple : c.mg "tuple" = none ∧ c.mb "tuple" = some (.type "tuple")
  b_bool : c.mg "bool" = none ∧ c.mb "bool" = some (.type "bool")
  sdIn : ∀ a kvs x t (A : Around) (s : Shared) (Q E : Value → Shared → Prop), c.SD a kvs → c.base.StaysIn s.heap → (∀ tk, Q (.bool (kvs.any fun p => p.1 == x)) { s with toks := tk }) →
    wpAny (model c.prog c.w) A (compareOp .In (.str x t) (.ref a)) Q E s
  sdGet : ∀ a kvs x y t (A : Around) (s : Shared) (Q E : Value → Shared → Prop), c.SD a kvs → c.base.StaysIn s.heap → kvs.lookup x = some y → (∀ t' tk, Q (.str y t') { s with toks := tk }) →
    wpAny (model c.prog c.w) A (getItem (.ref a) (.str x t)) Q E s
  sdType : ∀ a kvs (s : Shared), c.SD a kvs → c.base.StaysIn s.heap → s.TypeIs (.ref a) "dict"

noncomputable def CallSound (c : Cx) (A : Around) (R : Heap → Heap → Prop) (P : Heap → Prop) (Fl : Heap → Str → Value → Heap → Prop) (fr : List Addr) (call : Calls) : Prop :=
  ∀ f ds r, fnNames.contains f = true → call f ds = some r → ∀ fa, c.mg f = some (.ref fa) →
    ∀ (s : Shared) (vs : List Value) (O : List Addr) (Q : Value → Shared → Prop) (E : Value → Shared → Prop), P s.heap → OT c O fr s.heap → Reps c O s.heap vs ds →
      (∀ d, r = .ok d → ∀ v h' tk, R s.heap h' → Rep c O h' v d → Q v { s with heap := h', toks := tk }) →
      (∀ m, r = .error m → ∀ v h' tk, Fl s.heap m v h' → E v { s with heap := h', toks := tk }) →
      wpAny (model c.prog c.w) A (PySem.call (.ref fa) vs) Q E s

structure Hy (c : Cx) (G : Str → Option PV) (call : Calls) (R : Heap → Heap → Prop) (fr : List Addr) (P : Heap → Prop) (Fl : Heap → Str → Value → Heap → Prop) (A : Around) (env : Env) : Prop where
  amb : Amb c G
  rl : Rl R fr
  pR : ∀ {h h'}, P h → R h h' → P h'
  pB : ∀ {h}, P h → c.base.StaysIn h
  flR : ∀ {h h1 m v h'}, R h h1 → Fl h1 m v h' → Fl h m v h'
  call : CallSound c A R P Fl fr call
  kind : env.scope.kind = .function
  globals : env.globals = mainGlobals
  builtins : env.builtins = builtinsNs
  handled : A.handled = none
  units : A.units + 64 < cLine

structure Sv (c : Cx) (O : List Addr) (own : List (Str × Addr)) (env : Env) (ρ : Loc) (fr : List Addr) (P : Heap → Prop) (h : Heap) : Prop where
  p : P h
  vars : Vars c O own env ρ h
  ot : OT c O fr h

noncomputable def OkP {α : Type} (R : Heap → Heap → Prop) (rep : Heap → Value → α → Prop) (r : Except Str α) (s : Shared) (Q : Value → Shared → Prop) : Prop :=
  ∀ a, r = .ok a → ∀ v h' tk, R s.heap h' → rep h' v a → Q v { s with heap := h', toks := tk }
theorem okAll {α : Type} {a : α} {P : α → Prop} (f : P a) : ∀ a', (Except.ok a : Except Str α) = .ok a' → P a' := fun a' e => by
  cases e
  exact f
theorem okP_ok {α : Type} {R : Heap → Heap → Prop} {rep : Heap → Value → α → Prop} {a : α} {s : Shared} {Q : Value → Shared → Prop} (f : ∀ v h' tk, R s.heap h' → rep h' v a → Q v { s with heap := h', toks := tk }) : OkP R rep (.ok a) s Q := fun a' e => by
  cases e
  exact f
noncomputable def ErP {α : Type} (Fl : Heap → Str → Value → Heap → Prop) (r : Except Str α) (s : Shared) (E : Value → Shared → Prop) : Prop :=
  ∀ m, r = .error m → ∀ v h' tk, Fl s.heap m v h' → E v { s with heap := h', toks := tk }

theorem bd_inv {α β : Type} {m : M α} {f : α → M β} {r : Except Str β} (h : bd m f = some r) : (∃ e, m = some (.error e) ∧ r = .error e) ∨ ∃ a, m = some (.ok a) ∧ f a = some r := by
  unfold bd at h
  split at h
  · first | exact absN h | cases h
  · cases h; exact .inl ⟨_, rfl, rfl⟩
  · exact .inr ⟨_, rfl, h⟩
theorem bs_inv {α β : Type} {m : M α} {f : α → M β} {r : Except Str β} (h : bs m f = some r) : ∃ a, m = some (.ok a) ∧ f a = some r := by
  unfold bs at h
  split at h
  · exact ⟨_, rfl, h⟩
  · first | exact absN h | cases h
theorem vd_inv {β : Type} {x : RV} {f : PV → M β} {r : Except Str β} (h : vd x f = some r) : ∃ d, x = .val d ∧ f d = some r := by
  unfold vd at h
  split at h
  · exact ⟨_, rfl, h⟩
  · first | exact absN h | cases h
theorem ok_inv {α : Type} {a : α} {r : Except Str α} (h : ok a = some r) : r = .ok a := (Option.some.inj h).symm
theorem ofOpt_inv {α : Type} {m : Option α} {r : Except Str α} (h : ofOpt m = some r) : ∃ a, m = some a ∧ r = .ok a := by
  unfold ofOpt at h
  split at h
  · cases h; exact ⟨_, rfl, rfl⟩
  · first | exact absN h | cases h
theorem bdo_inv {α β : Type} {m : Option α} {f : α → M β} {r : Except Str β} (h : bd (ofOpt m) f = some r) : ∃ a, m = some a ∧ f a = some r := by
  rcases bd_inv h with ⟨e, hm, _⟩ | ⟨a, hm, h⟩
  · obtain ⟨_, _, q⟩ := ofOpt_inv hm; cases q
  · obtain ⟨_, hm, q⟩ := ofOpt_inv hm; cases q; exact ⟨_, hm, h⟩

section
variable {c : Cx} {G : Str → Option PV} {call : Calls} {R : Heap → Heap → Prop} {fr : List Addr} {P : Heap → Prop} {Fl : Heap → Str → Value → Heap → Prop} {A : Around} {env : Env}
  {O : List Addr} {own : List (Str × Addr)} {ρ : Loc}
theorem Sv.step {h h' : Heap} (H : Hy c G call R fr P Fl A env) (k : R h h') (x : Sv c O own env ρ fr P h) : Sv c O own env ρ fr P h' :=
  ⟨H.pR x.p k, x.vars.step H.rl k (fun a ha => (x.ot a ha).1), x.ot.step H.rl k⟩
theorem OkP.shift {α : Type} {rep : Heap → Value → α → Prop} {r : Except Str α} {s : Shared} {Q : Value → Shared → Prop} {h1 : Heap} {t1 : Tok} (H : Hy c G call R fr P Fl A env) (k : R s.heap h1) (x : OkP R rep r s Q) :
    OkP R rep r { s with heap := h1, toks := t1 } Q := fun a e v h' tk hR hv => x a e v h' tk (H.rl.trans k hR) hv
theorem ErP.shift {α : Type} {r : Except Str α} {s : Shared} {E : Value → Shared → Prop} {h1 : Heap} {t1 : Tok} (H : Hy c G call R fr P Fl A env) (k : R s.heap h1) (x : ErP Fl r s E) :
    ErP Fl r { s with heap := h1, toks := t1 } E := fun m e v h' tk hf => x m e v h' tk (H.flR k hf)
theorem ErP.ok {α : Type} {a : α} {s : Shared} {E : Value → Shared → Prop} : ErP Fl (.ok a : Except Str α) s E := fun _ e => by cases e
theorem ErP.to {α β : Type} {m : Str} {s : Shared} {E : Value → Shared → Prop} (x : ErP Fl (.error m : Except Str α) s E) : ErP Fl (.error m : Except Str β) s E := fun _ e => by cases e; exact x m rfl
theorem OkP.no {α : Type} {rep : Heap → Value → α → Prop} {m : Str} {s : Shared} {Q : Value → Shared → Prop} : OkP R rep (.error m) s Q := fun _ e => by cases e
end

/-- an expression's value, from the model -/
noncomputable def PeOk (c : Cx) (G : Str → Option PV) (n : Nat) : Prop :=
  ∀ call R fr P Fl A env own O ρ e r, Hy c G call R fr P Fl A env → pe G n call env.scope.names ρ e = some r → ∀ s Q E, Sv c O own env ρ fr P s.heap →
    OkP R (RvRep c O own) r s Q → ErP Fl r s E → wpAny (model c.prog c.w) A (eval e env) Q E s
noncomputable def PfmtOk (c : Cx) (G : Str → Option PV) (n : Nat) : Prop :=
  ∀ call R fr P Fl A env own O ρ e r, Hy c G call R fr P Fl A env → pfmt G n call env.scope.names ρ e = some r → ∀ s (Q : Value → Shared → Prop) E, Sv c O own env ρ fr P s.heap →
    OkP R (fun _ v x => ∃ t, v = .str x t) r s Q → ErP Fl r s E → wpAny (model c.prog c.w) A (eval e env) Q E s
noncomputable def PtOk (c : Cx) (G : Str → Option PV) (n : Nat) : Prop :=
  ∀ call R fr P Fl A env own O ρ e r, Hy c G call R fr P Fl A env → pt G n call env.scope.names ρ e = some r → ∀ s (Q : Bool → Shared → Prop) E, Sv c O own env ρ fr P s.heap →
    (∀ b, r = .ok b → ∀ h' tk, R s.heap h' → Q b { s with heap := h', toks := tk }) → ErP Fl r s E → wpAny (model c.prog c.w) A (isTrue e env (eval e env)) Q E s
noncomputable def PallOk (c : Cx) (G : Str → Option PV) (n : Nat) : Prop :=
  ∀ call R fr P Fl A env own O ρ op vs r, Hy c G call R fr P Fl A env → pall G n call env.scope.names ρ op vs = some r → ∀ s (Q : Bool → Shared → Prop) E, Sv c O own env ρ fr P s.heap →
    (∀ b, r = .ok b → ∀ h' tk, R s.heap h' → Q b { s with heap := h', toks := tk }) → ErP Fl r s E → wpAny (model c.prog c.w) A (allTrue op vs env) Q E s
noncomputable def PtestOk (c : Cx) (G : Str → Option PV) (n : Nat) : Prop :=
  ∀ call R fr P Fl A env own O ρ l op e r, Hy c G call R fr P Fl A env → ptest G n call env.scope.names ρ l op e = some r → behindInMarks op e = false ∧ ∀ s (Q : Value → Shared → Prop) E, Sv c O own env ρ fr P s.heap →
    (∀ b, r = .ok b → ∀ h' tk, R s.heap h' → Q (.bool b) { s with heap := h', toks := tk }) → ErP Fl r s E →
    wpAny (model c.prog c.w) A (eval l env) (fun a s₁ => wpAny (model c.prog c.w) A (eval e env) (fun b s₂ => wpAny (model c.prog c.w) A (compareOp op a b) Q E s₂) E s₁) E s
noncomputable def PfunOk (c : Cx) (G : Str → Option PV) (n : Nat) : Prop :=
  ∀ call R fr P Fl A env own O ρ g args p pos r, Hy c G call R fr P Fl A env → pfun G n call env.scope.names ρ g args = some r → env.kindOf g = some .globalImplicit → ∀ s Q E, Sv c O own env ρ fr P s.heap →
    OkP R (RvRep c O own) r s Q → ErP Fl r s E → wpAny (model c.prog c.w) A (eval (.Call (.Name g p) args [] pos) env) Q E s

/-- what a loop needs of its iterator -/
noncomputable def IterOk (c : Cx) (O : List Addr) (A : Around) (it : Value) (h h' : Heap) (ds : List PV) : Prop :=
  ∃ (I : Addr) (fp wr : List Addr) (Pv : Nat → Value → Prop) (St : Nat → Heap → Prop), it = .ref I ∧ Walks c.prog c.w A I fp wr ds.length Pv St ∧ St 0 h' ∧ (∀ b ∈ wr, h.get? b = none ∧ ∃ o vs, h'.get? b = some o ∧ o.data = .fields vs) ∧
    (∀ b ∈ fp, b ∉ O ∧ ∃ o, h'.get? b = some o ∧ ((∃ vs, o.data = .fields vs) ∨ ∃ vs n, o.data = .seq vs n)) ∧
    (∀ i v, i < ds.length → Pv i v → ∃ d, ds[i]? = some d ∧ ∀ h'', UpSeq O h' h'' → Rep c O h'' v d) ∧ ∀ i h, St i h → ∀ b ∈ wr, ∃ o vs, h.get? b = some o ∧ o.data = .fields vs
noncomputable def PitsOk (c : Cx) (G : Str → Option PV) (n : Nat) : Prop :=
  ∀ call R fr P Fl A env own O ρ e r, Hy c G call R fr P Fl A env → pits G n call env.scope.names ρ e = some r → (∀ x, foldedSetIterable e env x = pure x) ∧ ∀ s (Q : Value → Shared → Prop) E, Sv c O own env ρ fr P s.heap →
    (∀ ds, r = .ok ds → ∀ it h' tk, R s.heap h' → IterOk c O A it s.heap h' ds → Q it { s with heap := h', toks := tk }) → ErP Fl r s E →
    wpAny (model c.prog c.w) A (eval e env) (fun xv s₁ => wpAny (model c.prog c.w) A (pyIter xv) Q E s₁) E s

end Mine

-- SxEv
namespace Mine
open PySem PyProof.Rows

theorem Reps.newList {c : Cx} {O : List Addr} {h : Heap} {vs : List Value} {ds : List PV} (r : Reps c O h vs ds) (hO : ∀ a ∈ O, a < h.objs.size) :
    Rep c O (h.push { cls := .type "list", data := .seq vs.toArray }) (.ref h.objs.size) (.list ds) :=
  .list (fun q => absurd (hO _ q) (Nat.lt_irrefl _)) (IsL.new h vs.toArray) (r.up (.of_keeps fun _ _ e => Heap.get?_push_of_some _ e))
theorem Reps.newTup {c : Cx} {O : List Addr} {h : Heap} {vs : List Value} {ds : List PV} (r : Reps c O h vs ds) (hO : ∀ a ∈ O, a < h.objs.size) :
    Rep c O (h.push { cls := .type "tuple", data := .seq vs.toArray }) (.ref h.objs.size) (.tup ds) :=
  .tup (fun q => absurd (hO _ q) (Nat.lt_irrefl _)) (IsT.new h vs.toArray) (r.up (.of_keeps fun _ _ e => Heap.get?_push_of_some _ e))
theorem OT.lt {c : Cx} {O fr : List Addr} {h : Heap} (x : OT c O fr h) : ∀ a ∈ O, a < h.objs.size := fun a ha => let ⟨_, _, _, _, _, e, _⟩ := x a ha; Heap.lt_size e

theorem lim_size : lim ≤ sizeLine := by rw [sizeLine_eq]; decide

section
variable {c : Cx} {G : Str → Option PV} {call : Calls} {R : Heap → Heap → Prop} {fr : List Addr} {P : Heap → Prop} {Fl : Heap → Str → Value → Heap → Prop} {A : Around} {env : Env}
  {O : List Addr} {own : List (Str × Addr)} {ρ : Loc} {s : Shared} {E : Value → Shared → Prop}

theorem OkP.here {α : Type} {rep : Heap → Value → α → Prop} {a : α} {Q : Value → Shared → Prop} (H : Hy c G call R fr P Fl A env) (x : OkP R rep (.ok a) s Q) {v : Value} (hv : rep s.heap v a) (tk : Nat) : Q v { s with toks := tk } :=
  x a rfl v s.heap tk (H.rl.refl _) hv

theorem odd_inv {x : Str} (h : ¬ oddName x = true) : (x == ("__debug__" : Str)) = false ∧ (x == ("__classdict__" : Str)) = false := by
  unfold oddName at h
  cases h1 : x == ("__debug__" : Str) <;> cases h2 : x == ("__classdict__" : Str) <;> simp_all

theorem staysIn_global {x : Str} {pos : Pos} {v : Value} {Q : Value → Shared → Prop} (H : Hy c G call R fr P Fl A env) (hs : c.base.StaysIn s.heap) (hk : env.kindOf x = some .globalImplicit) (hv : c.mg x = some v)
    (hd : (x == ("__debug__" : Str)) = false) (q : Q v s) : wpAny (model c.prog c.w) A (eval (.Name x pos) env) Q E s :=
  Calls.Name_function_global H.kind hk (Calls.loadGlobal_global (by rw [H.globals]; exact H.amb.ns.keeps hs) hv q) hd
theorem staysIn_builtin {x : Str} {pos : Pos} {v : Value} {Q : Value → Shared → Prop} (H : Hy c G call R fr P Fl A env) (hs : c.base.StaysIn s.heap) (hk : env.kindOf x = some .globalImplicit) (hv : c.mg x = none ∧ c.mb x = some v)
    (q : Q v s) (hd : (x == ("__debug__" : Str)) = false := by decide +kernel) : wpAny (model c.prog c.w) A (eval (.Name x pos) env) Q E s :=
  Calls.Name_function_global H.kind hk (Calls.loadGlobal_builtin (by rw [H.globals]; exact H.amb.ns.keeps hs) hv.1 (by rw [H.builtins]; exact H.amb.nb.keeps hs) hv.2 q) hd

theorem ev_const {co : Const} {k : Nat} {pos : Pos} {r : Except Str RV} {Q : Value → Shared → Prop} (H : Hy c G call R fr P Fl A env)
    (h : (match co with
    | Const.none => ok (RV.val PV.none)
    | Const.bool b => ok (RV.val (PV.bool b))
    | Const.int i => ok (RV.val (PV.int i))
    | Const.str x => ok (RV.val (PV.str x))
    | _ => (none : M RV)) = some r) (hok : OkP R (RvRep c O own) r s Q) : wpAny (model c.prog c.w) A (eval (.Constant co k pos) env) Q E s := by
  split at h <;> (try cases h)
  · exact wpAny_pure (hok.here H (Rep.none) _)
  · exact wpAny_pure (hok.here H (Rep.bool _) _)
  · exact wpAny_Constant_int (hok.here H (Rep.int _ _) _)
  · exact Calls.Constant_str (hok.here H (Rep.str _ _) _)

theorem ev_name {x : Str} {pos : Pos} {r : Except Str RV} {Q : Value → Shared → Prop} (H : Hy c G call R fr P Fl A env) (sv : Sv c O own env ρ fr P s.heap)
    (h : (if oddName x = true then none
    else
      if bound (List.lookup x env.scope.names) = true then
        match ρ x with
        | some (Slot.val d) => ok (RV.val d)
        | some (Slot.own ds) => ok (RV.own x ds)
        | none => none
      else
        if List.lookup x env.scope.names = some NameKind.globalImplicit then
          match G x with
          | some d => ok (RV.val d)
          | none => none
        else none) = some r) (hok : OkP R (RvRep c O own) r s Q) : wpAny (model c.prog c.w) A (eval (.Name x pos) env) Q E s := by
  split at h
  · first | exact absN h | cases h
  rename_i hodd
  obtain ⟨hd, hcd⟩ := odd_inv hodd
  split at h
  · rename_i hb
    obtain ⟨sl, hρ, hv⟩ : ∃ sl, ρ x = some sl ∧ ∀ v, SlotRep c O own s.heap x v sl → ∃ rv, r = .ok rv ∧ RvRep c O own s.heap v rv := by
      split at h
      · rename_i d e; cases h; exact ⟨_, e, fun v q => ⟨_, rfl, q⟩⟩
      · rename_i d e; cases h; exact ⟨_, e, fun v q => ⟨_, rfl, q⟩⟩
      · first | exact absN h | cases h
    have fin : ∀ v, SlotRep c O own s.heap x v sl → Q v s := fun v q => by
      obtain ⟨rv, rfl, q⟩ := hv v q
      exact hok.here H q _
    refine wpAny_Name ?_ hd
    cases hk : env.kindOf x with
    | none => (first | exact absN ((show env.scope.names.lookup x = none from hk).symm.trans hb) | (rw [show env.scope.names.lookup x = none from hk] at hb; cases hb))
    | some k =>
      cases k with
      | «local» =>
        obtain ⟨⟨m, hn, hm⟩, _⟩ := sv.vars
        obtain ⟨v, e, q⟩ := hm x sl hk hρ
        exact wpAny_loadName_local H.kind hk hn e (fin v q)
      | cell =>
        obtain ⟨d, cl, v, rfl, e2, e3, e4⟩ := sv.vars.cells x sl (.inl hk) hρ
        exact wpAny_loadName_cell H.kind hk e2 e3 (fin v e4)
      | free =>
        obtain ⟨d, cl, v, rfl, e2, e3, e4⟩ := sv.vars.cells x sl (.inr hk) hρ
        exact wpAny_loadName_free H.kind hk e2 e3 (fin v e4) hcd
      | globalExplicit => (first | exact absN ((show env.scope.names.lookup x = _ from hk).symm.trans hb) | (rw [show env.scope.names.lookup x = _ from hk] at hb; cases hb))
      | globalImplicit => (first | exact absN ((show env.scope.names.lookup x = _ from hk).symm.trans hb) | (rw [show env.scope.names.lookup x = _ from hk] at hb; cases hb))
  · split at h
    · rename_i hk
      split at h
      · rename_i d hg
        cases h
        obtain ⟨v, hv, q⟩ := H.amb.glob x d hg
        exact staysIn_global H (H.pB sv.p) hk hv hd (hok.here H (q.ofBase (H.pB sv.p) fun a ha => (sv.ot a ha).2.1) _)
      · first | exact absN h | cases h
    · first | exact absN h | cases h

/-- the sums -/
inductive BinC : Operator → PV → PV → Prop
  | addI (x y : Int) : BinC .Add (.int x) (.int y)
  | subI (x y : Int) : BinC .Sub (.int x) (.int y)
  | modI (x y : Int) : BinC .Mod (.int x) (.int y)
  | addS (x y : Str) : BinC .Add (.str x) (.str y)
  | addL (x y : List PV) : BinC .Add (.list x) (.list y)
  | no (op : Operator) (x y : PV) (h : pbin op x y = none) : BinC op x y
theorem binC (op : Operator) (x y : PV) : BinC op x y := by
  cases op with
  | Add =>
    cases x with
    | int x => cases y with
      | int y => exact .addI x y
      | _ => exact .no _ _ _ rfl
    | str x => cases y with
      | str y => exact .addS x y
      | _ => exact .no _ _ _ rfl
    | list x => cases y with
      | list y => exact .addL x y
      | _ => exact .no _ _ _ rfl
    | _ => first | exact .no _ _ _ rfl | (cases y <;> exact .no _ _ _ rfl)
  | Sub =>
    cases x with
    | int x => cases y with
      | int y => exact .subI x y
      | _ => exact .no _ _ _ rfl
    | _ => first | exact .no _ _ _ rfl | (cases y <;> exact .no _ _ _ rfl)
  | Mod =>
    cases x with
    | int x => cases y with
      | int y => exact .modI x y
      | _ => exact .no _ _ _ rfl
    | _ => first | exact .no _ _ _ rfl | (cases y <;> exact .no _ _ _ rfl)
  | _ => first | exact .no _ _ _ rfl | (cases x <;> cases y <;> exact .no _ _ _ rfl)

theorem ev_bin {op : Operator} {x y d : PV} {vx vy : Value} {Q : Value → Shared → Prop} (H : Hy c G call R fr P Fl A env) (h : pbin op x y = some d) (hx : Rep c O s.heap vx x) (hy : Rep c O s.heap vy y) (hO : ∀ a ∈ O, a < s.heap.objs.size)
    (hok : OkP R (RvRep c O own) (.ok (.val d)) s Q) : wpAny (model c.prog c.w) A (binaryOp op vx vy) Q E s := by
  cases binC op x y with
  | addI x y =>
    obtain rfl := Option.some.inj h
    obtain ⟨_, rfl⟩ := hx.int_inv; obtain ⟨_, rfl⟩ := hy.int_inv; exact add_int (hok.here H (Rep.int _ _) _)
  | subI x y =>
    obtain rfl := Option.some.inj h
    obtain ⟨_, rfl⟩ := hx.int_inv; obtain ⟨_, rfl⟩ := hy.int_inv; exact sub_int (hok.here H (Rep.int _ _) _)
  | modI x y =>
    have h : (if y = 0 then none else some (PV.int (x.fmod y))) = some d := h
    by_cases hz : y = 0
    · rw [if_pos hz] at h; exact absN h
    · rw [if_neg hz] at h
      obtain rfl := Option.some.inj h
      obtain ⟨_, rfl⟩ := hx.int_inv; obtain ⟨_, rfl⟩ := hy.int_inv; exact mod_int hz (hok.here H (Rep.int _ _) _)
  | addS x y =>
    have h : (if x.length + y.length ≤ lim then some (PV.str (x ++ y)) else none) = some d := h
    by_cases hz : x.length + y.length ≤ lim
    · rw [if_pos hz] at h
      obtain rfl := Option.some.inj h
      obtain ⟨_, rfl⟩ := hx.str_inv; obtain ⟨_, rfl⟩ := hy.str_inv; exact add_str (fun t' tk => hok.here H (Rep.str _ _) _) (Nat.le_trans hz lim_size)
    · rw [if_neg hz] at h; exact absN h
  | addL x y =>
    have h : (if x.length + y.length ≤ lim then some (PV.list (x ++ y)) else none) = some d := h
    by_cases hz : x.length + y.length ≤ lim
    · rw [if_pos hz] at h
      obtain rfl := Option.some.inj h
      obtain ⟨_, _, _, rfl, ha, lx, rx⟩ := hx.list_inv
      · obtain ⟨_, _, _, rfl, hb, ly, ry⟩ := hy.list_inv
        · refine PySem.P.add_list lx ly (hok _ rfl _ _ _ (H.rl.of_keeps fun b o e => Heap.get?_push_of_some _ e) ?_) ?_
          · rw [List.append_toArray]; exact (rx.append ry).newList hO
          · simp only [List.size_toArray, rx.length, ry.length]; exact Nat.le_trans hz lim_size
    · rw [if_neg hz] at h; exact absN h
  | no _ _ _ hn => rw [hn] at h; exact absN h

theorem all_true (k : Nat) : ((List.range k).all fun _ => true) = true := List.all_eq_true.mpr fun _ _ => rfl
open PySem.SeqAt in
theorem eqAll_of {A : Around} {s : Shared} {O O' : List Addr} {f : PV → PV → Bool} (ih : ∀ {v v' : Value} {d d' : PV}, Rep c O s.heap v d → Rep c O' s.heap v' d' → f d d' = true → EqAt A s v v' true) :
    ∀ {vs vs' : List Value} {ds ds' : List PV}, Reps c O s.heap vs ds → Reps c O' s.heap vs' ds' → PV.beqs f ds ds' = true →
        vs.length = vs'.length ∧ ∀ j (h1 : j < vs.toArray.size) (h2 : j < vs'.toArray.size), EqAt A s vs.toArray[j] vs'.toArray[j] true := by
  intro vs
  induction vs with
  | nil =>
    intro vs' ds ds' r r' hb
    cases r
    cases r' with
    | nil => exact ⟨rfl, fun j h1 => absurd h1 (by simp)⟩
    | cons _ _ => cases hb
  | cons v vs ihr =>
    intro vs' ds ds' r r' hb
    cases r with
    | cons x r =>
      cases r' with
      | nil => cases hb
      | cons x' r' =>
        simp only [PV.beqs, Bool.and_eq_true] at hb
        obtain ⟨e1, e2⟩ := ihr r r' hb.2
        refine ⟨by simp [e1], fun j h1 h2 => ?_⟩
        cases j with
        | zero => exact ih x x' hb.1
        | succ j => exact e2 j (by simpa using h1) (by simpa using h2)

open PySem.SeqAt in
theorem eqAt_of (n : Nat) : ∀ {A : Around} {s : Shared} {O O' : List Addr} {v v' : Value} {d d' : PV}, Rep c O s.heap v d → Rep c O' s.heap v' d' → PV.beq n d d' = true → A.units + n < cLine → EqAt A s v v' true := by
  induction n with
  | zero => intro _ _ _ _ _ _ _ _ _ _ h; cases h
  | succ n ih =>
    intro A s O O' v v' d d' hv hv' h hu
    have hu1 : A.in1.units + n < cLine := by show A.units + 1 + n < cLine; (first | lia | omega)
    have hu' : A.units < cLine := by (first | lia | omega)
    cases hv with
    | none =>
      cases hv' <;> first | exact EqAt.same _ | exact absB h
    | bool b =>
      cases hv' with
      | bool b' => have q := EqAt.bool_bool (A := A) (s := s) b b'; rw [show (b == b') = true from h] at q; exact q
      | _ => exact absB h
    | int i t =>
      cases hv' with
      | int i' t' => have q := EqAt.int_int (A := A) (s := s) i t i' t'; rw [show (i == i') = true from h] at q; exact q
      | _ => exact absB h
    | str x t =>
      cases hv' with
      | str x' t' => have q := EqAt.str_str (A := A) (s := s) x t x' t'; rw [show (x == x') = true from h] at q; exact q
      | _ => exact absB h
    | tup ha l r =>
      rename_i a vs ds k
      cases hv' with
      | tup ha' l' r' =>
        rename_i a' vs' ds' k'
        obtain ⟨e1, e2⟩ := eqAll_of (A := A.in1) (fun x y q => ih x y q hu1) r r' h
        by_cases hne : a = a'
        · subst hne; exact EqAt.same _
        · have q := RcAt.tuples (A := A) (s := s) (e := fun _ => true) ⟨_, l, rfl, _, rfl⟩ ⟨_, l', rfl, _, rfl⟩ hu' e2
          rw [all_true] at q
          simp only [List.size_toArray, e1, beq_self_eq_true, Bool.and_self] at q
          exact EqAt.of_refs hne q
      | _ => exact absB h
    | list ha l r =>
      rename_i a vs ds k
      cases hv' with
      | list ha' l' r' =>
        rename_i a' vs' ds' k'
        obtain ⟨e1, e2⟩ := eqAll_of (A := A.in1) (fun x y q => ih x y q hu1) r r' h
        by_cases hne : a = a'
        · subst hne; exact EqAt.same _
        · have q := RcAt.lists (A := A) (s := s) (e := fun _ => true) ⟨_, l, rfl, _, rfl⟩ ⟨_, l', rfl, _, rfl⟩ (by simp [e1]) hu' e2
          rw [all_true] at q
          exact EqAt.of_refs hne q
      | _ => exact absB h
    | sdict x => cases hv' <;> exact absB h

/-- the comparisons -/
inductive CmpC : CmpOp → PV → PV → Prop
  | eqS (x y : Str) : CmpC .Eq (.str x) (.str y)
  | neS (x y : Str) : CmpC .NotEq (.str x) (.str y)
  | eqI (x y : Int) : CmpC .Eq (.int x) (.int y)
  | neI (x y : Int) : CmpC .NotEq (.int x) (.int y)
  | lt (x y : Int) : CmpC .Lt (.int x) (.int y)
  | gt (x y : Int) : CmpC .Gt (.int x) (.int y)
  | neB (x y : Bool) : CmpC .NotEq (.bool x) (.bool y)
  | inS (x y : Str) : CmpC .In (.str x) (.str y)
  | ninS (x y : Str) : CmpC .NotIn (.str x) (.str y)
  | inT (x : Str) (ds : List PV) : CmpC .In (.str x) (.tup ds)
  | ninT (x : Str) (ds : List PV) : CmpC .NotIn (.str x) (.tup ds)
  | inD (x : Str) (kvs : List (Str × Str)) : CmpC .In (.str x) (.sdict kvs)
  | neL (x y : List PV) : CmpC .NotEq (.list x) (.list y)
  | neT (x y : List PV) : CmpC .NotEq (.tup x) (.tup y)
  | no (op : CmpOp) (x y : PV) (h : pcmp op x y = none) : CmpC op x y
theorem cmpC (op : CmpOp) (x y : PV) : CmpC op x y := by
  cases op with
  | Eq =>
    cases x with
    | str x => cases y with
      | str y => exact .eqS x y
      | _ => exact .no _ _ _ rfl
    | int x => cases y with
      | int y => exact .eqI x y
      | _ => exact .no _ _ _ rfl
    | _ => first | exact .no _ _ _ rfl | (cases y <;> exact .no _ _ _ rfl)
  | NotEq =>
    cases x with
    | str x => cases y with
      | str y => exact .neS x y
      | _ => exact .no _ _ _ rfl
    | int x => cases y with
      | int y => exact .neI x y
      | _ => exact .no _ _ _ rfl
    | bool x => cases y with
      | bool y => exact .neB x y
      | _ => exact .no _ _ _ rfl
    | list x => cases y with
      | list y => exact .neL x y
      | _ => exact .no _ _ _ rfl
    | tup x => cases y with
      | tup y => exact .neT x y
      | _ => exact .no _ _ _ rfl
    | _ => first | exact .no _ _ _ rfl | (cases y <;> exact .no _ _ _ rfl)
  | Lt =>
    cases x with
    | int x => cases y with
      | int y => exact .lt x y
      | _ => exact .no _ _ _ rfl
    | _ => first | exact .no _ _ _ rfl | (cases y <;> exact .no _ _ _ rfl)
  | Gt =>
    cases x with
    | int x => cases y with
      | int y => exact .gt x y
      | _ => exact .no _ _ _ rfl
    | _ => first | exact .no _ _ _ rfl | (cases y <;> exact .no _ _ _ rfl)
  | In =>
    cases x with
    | str x => cases y with
      | str y => exact .inS x y
      | tup ds => exact .inT x ds
      | sdict kvs => exact .inD x kvs
      | _ => exact .no _ _ _ rfl
    | _ => first | exact .no _ _ _ rfl | (cases y <;> exact .no _ _ _ rfl)
  | NotIn =>
    cases x with
    | str x => cases y with
      | str y => exact .ninS x y
      | tup ds => exact .ninT x ds
      | _ => exact .no _ _ _ rfl
    | _ => first | exact .no _ _ _ rfl | (cases y <;> exact .no _ _ _ rfl)
  | _ => first | exact .no _ _ _ rfl | (cases x <;> cases y <;> exact .no _ _ _ rfl)

open PySem.SeqAt in
theorem ev_cmp {op : CmpOp} {x y : PV} {b : Bool} {vx vy : Value} {Q : Value → Shared → Prop} (H : Hy c G call R fr P Fl A env) (hs : c.base.StaysIn s.heap) (h : pcmp op x y = some b) (hx : Rep c O s.heap vx x) (hy : Rep c O s.heap vy y)
    (q : ∀ tk, Q (.bool b) { s with toks := tk }) : wpAny (model c.prog c.w) A (compareOp op vx vy) Q E s := by
  have hu := H.units
  have hu' : A.units < cLine := by (first | lia | omega)
  have hu1 : A.in1.units + deep < cLine := by show A.units + 1 + 20 < cLine; (first | lia | omega)
  have qh := q s.toks
  cases cmpC op x y with
  | eqS x y =>
    obtain rfl := Option.some.inj h
    obtain ⟨_, rfl⟩ := hx.str_inv; obtain ⟨_, rfl⟩ := hy.str_inv; exact eq_str qh
  | neS x y =>
    obtain rfl := Option.some.inj h
    obtain ⟨_, rfl⟩ := hx.str_inv; obtain ⟨_, rfl⟩ := hy.str_inv; exact ne_str qh
  | eqI x y =>
    obtain rfl := Option.some.inj h
    obtain ⟨_, rfl⟩ := hx.int_inv; obtain ⟨_, rfl⟩ := hy.int_inv; exact eq_int qh
  | neI x y =>
    obtain rfl := Option.some.inj h
    obtain ⟨_, rfl⟩ := hx.int_inv; obtain ⟨_, rfl⟩ := hy.int_inv; exact ne_int qh
  | lt x y =>
    obtain rfl := Option.some.inj h
    obtain ⟨_, rfl⟩ := hx.int_inv; obtain ⟨_, rfl⟩ := hy.int_inv; exact lt_int qh
  | gt x y =>
    obtain rfl := Option.some.inj h
    obtain ⟨_, rfl⟩ := hx.int_inv; obtain ⟨_, rfl⟩ := hy.int_inv; exact gt_int qh
  | neB x y =>
    obtain rfl := Option.some.inj h
    obtain rfl := hx.bool_inv; obtain rfl := hy.bool_inv; exact ne_bool qh
  | inS x y =>
    obtain rfl := Option.some.inj h
    obtain ⟨_, rfl⟩ := hx.str_inv; obtain ⟨_, rfl⟩ := hy.str_inv; exact PySem.SB.contains qh
  | ninS x y =>
    obtain rfl := Option.some.inj h
    obtain ⟨_, rfl⟩ := hx.str_inv; obtain ⟨_, rfl⟩ := hy.str_inv; exact PySem.SB.notContains qh
  | inT x ds =>
    have h : (match strsOf ds with
      | some ys => some (ys.any (· == x))
      | none => none) = some b := h
    cases hys : strsOf ds with
    | none => rw [hys] at h; exact absN h
    | some ys =>
      rw [hys] at h
      obtain rfl := Option.some.inj h
      obtain ⟨_, rfl⟩ := hx.str_inv
      obtain ⟨_, _, _, rfl, ha, l, r⟩ := hy.tup_inv
      exact in_tuple_strs ⟨_, l, rfl, _, rfl⟩ (r.strs hys) qh
  | ninT x ds =>
    have h : (match strsOf ds with
      | some ys => some (!ys.any (· == x))
      | none => none) = some b := h
    cases hys : strsOf ds with
    | none => rw [hys] at h; exact absN h
    | some ys =>
      rw [hys] at h
      obtain rfl := Option.some.inj h
      obtain ⟨_, rfl⟩ := hx.str_inv
      obtain ⟨_, _, _, rfl, ha, l, r⟩ := hy.tup_inv
      exact notin_tuple_strs ⟨_, l, rfl, _, rfl⟩ (r.strs hys) qh
  | inD x kvs =>
    obtain rfl := Option.some.inj h
    obtain ⟨_, rfl⟩ := hx.str_inv
    obtain ⟨_, rfl, sd⟩ := hy.sdict_inv
    exact H.amb.sdIn _ _ _ _ _ _ _ _ sd hs q
  | neL x y =>
    have h : (if PV.beqs (PV.beq deep) x y then some false else none) = some b := h
    by_cases hb : PV.beqs (PV.beq deep) x y = true
    · rw [if_pos hb] at h
      obtain rfl := Option.some.inj h
      obtain ⟨_, _, _, rfl, ha, l, r⟩ := hx.list_inv
      · obtain ⟨_, _, _, rfl, ha', l', r'⟩ := hy.list_inv
        · obtain ⟨e1, e2⟩ := eqAll_of (A := A.in1) (fun x y q => eqAt_of deep x y q hu1) r r' hb
          have z := RcNeAt.lists (A := A) (s := s) (e := fun _ => true) ⟨_, l, rfl, _, rfl⟩ ⟨_, l', rfl, _, rfl⟩ (by simp [e1]) hu' e2
          rw [all_true] at z
          exact z _ _ _ _ qh
    · rw [if_neg hb] at h; exact absN h
  | neT x y =>
    have h : (if PV.beqs (PV.beq deep) x y then some false else none) = some b := h
    by_cases hb : PV.beqs (PV.beq deep) x y = true
    · rw [if_pos hb] at h
      obtain rfl := Option.some.inj h
      obtain ⟨_, _, _, rfl, ha, l, r⟩ := hx.tup_inv
      · obtain ⟨_, _, _, rfl, ha', l', r'⟩ := hy.tup_inv
        · obtain ⟨e1, e2⟩ := eqAll_of (A := A.in1) (fun x y q => eqAt_of deep x y q hu1) r r' hb
          have z := RcNeAt.tuples (A := A) (s := s) (e := fun _ => true) ⟨_, l, rfl, _, rfl⟩ ⟨_, l', rfl, _, rfl⟩ hu' e2
          rw [all_true] at z
          simp only [List.size_toArray, e1, beq_self_eq_true, Bool.and_self, Bool.not_true] at z
          exact z _ _ _ _ qh
    · rw [if_neg hb] at h; exact absN h
  | no _ _ _ hn => rw [hn] at h; exact absN h

theorem ev_cmpOwn {op : CmpOp} {x : PV} {ds : List PV} {b : Bool} {vx : Value} {a : Addr} {Q : Value → Shared → Prop} (h : pcmpOwn op x ds = some b) (hx : Rep c O s.heap vx x) (hy : OwnAt c O s.heap a ds)
    (q : Q (.bool b) s) : wpAny (model c.prog c.w) A (compareOp op vx (.ref a)) Q E s := by
  unfold pcmpOwn at h
  split at h
  · rename_i z
    split at h
    · rename_i ys hys
      cases h; cases hx
      obtain ⟨_, vs, n, l, r⟩ := hy
      have hs := r.strs hys
      have e : ∀ (vs : List Value) (ys : List Str) (z : Str), StrsAre vs ys → vs.any (valHitsStr z) = ys.any (· == z) := by
        intro vs ys z hs
        induction hs with
        | nil => rfl
        | cons y t _ ih => rw [List.any_cons, List.any_cons, ih]; rfl
      refine PySem.SeqAt.notIn_listAt (valHitsStr z) l.isList (fun y hy => ?_) ?_
      · have mem : ∀ (vs : List Value) (ys : List Str) (y : Value), StrsAre vs ys → y ∈ vs → ∃ z t, y = .str z t := by
          intro vs ys y hs
          induction hs with
          | nil => intro h; cases h
          | cons z t _ ih =>
            intro h
            rcases List.mem_cons.mp h with rfl | h
            · exact ⟨z, t, rfl⟩
            · exact ih h
        obtain ⟨z, t, rfl⟩ := mem _ _ y hs (by simpa using hy)
        exact PySem.SeqAt.EqAt.str_str _ _ _ _
      · have := e vs ys z hs
        simp only [List.any_toArray]
        rw [this]; exact q
    · first | exact absN h | cases h
  · first | exact absN h | cases h

theorem lim63 {i : Int} (h : i < (lim : Int)) : i < 2 ^ 63 := Int.lt_trans h (by decide)
theorem lim63n {i : Int} (h : -(lim : Int) ≤ i) : -(2 ^ 63) ≤ i := Int.le_trans (by decide) h

theorem seqIndex_pos {i : Int} {n : Nat} (h0 : 0 ≤ i) (h : i.toNat < n) : seqIndex? i n = some i.toNat := by
  unfold seqIndex?
  have h1 : ¬ i < 0 := by (first | lia | omega)
  have h2 : i < (n : Int) := by (first | lia | omega)
  simp [h0, h1, h2]

theorem subscripted_index {slice : Expr} {o i : Value} (h : ∀ lo hi st p, slice ≠ .Slice lo hi st p) : subscripted slice false o i = operate [o, i] (getItem o i) := by
  cases slice with
  | Slice lo hi st p => exact absurd rfl (h _ _ _ _)
  | _ => rfl
theorem subscripted_slice {lo hi : Option Expr} {p : Pos} {o i : Value} : subscripted (.Slice lo hi none p) false o i = operate [i, o] (getItem o i) := rfl

/-- items and slices -/
inductive SubC : RV → PV → Prop
  | str (x : Str) (i : Int) : SubC (.val (.str x)) (.int i)
  | tup (ds : List PV) (i : Int) : SubC (.val (.tup ds)) (.int i)
  | list (ds : List PV) (i : Int) : SubC (.val (.list ds)) (.int i)
  | own (x : Str) (ds : List PV) (i : Int) : SubC (.own x ds) (.int i)
  | dict (kvs : List (Str × Str)) (x : Str) : SubC (.val (.sdict kvs)) (.str x)
  | no (a : RV) (i : PV) (h : psub a i = none) : SubC a i
theorem subC (a : RV) (i : PV) : SubC a i := by
  cases a with
  | own x ds =>
    cases i with
    | int i => exact .own x ds i
    | _ => exact .no _ _ rfl
  | val d =>
    cases d with
    | str x =>
      cases i with
      | int i => exact .str x i
      | _ => exact .no _ _ rfl
    | tup ds =>
      cases i with
      | int i => exact .tup ds i
      | _ => exact .no _ _ rfl
    | list ds =>
      cases i with
      | int i => exact .list ds i
      | _ => exact .no _ _ rfl
    | sdict kvs =>
      cases i with
      | str x => exact .dict kvs x
      | _ => exact .no _ _ rfl
    | _ => first | exact .no _ _ rfl | (cases i <;> exact .no _ _ rfl)
inductive SliC : PV → PV → Prop
  | list (ds : List PV) (i : Int) : SliC (.list ds) (.int i)
  | tup (ds : List PV) (i : Int) : SliC (.tup ds) (.int i)
  | str (x : Str) (i : Int) : SliC (.str x) (.int i)
  | no (a i : PV) (h1 : pslice a (some i) none = none) (h2 : pslice a none (some i) = none) : SliC a i
theorem sliC (a i : PV) : SliC a i := by
  cases a with
  | list ds =>
    cases i with
    | int i => exact .list ds i
    | _ => exact .no _ _ rfl rfl
  | tup ds =>
    cases i with
    | int i => exact .tup ds i
    | _ => exact .no _ _ rfl rfl
  | str x =>
    cases i with
    | int i => exact .str x i
    | _ => exact .no _ _ rfl rfl
  | _ => first | exact .no _ _ rfl rfl | (cases i <;> exact .no _ _ rfl rfl)

theorem ev_sub {value slice : Expr} {a : RV} {i d : PV} {va vi : Value} {Q : Value → Shared → Prop} (H : Hy c G call R fr P Fl A env) (hs : c.base.StaysIn s.heap) (h : psub a i = some d) (ha : RvRep c O own s.heap va a) (hi : Rep c O s.heap vi i)
    (hsl : ∀ lo hi st p, slice ≠ .Slice lo hi st p) (hok : OkP R (RvRep c O own) (.ok (.val d)) s Q) : wpAny (model c.prog c.w) A (subscriptTail value slice va vi) Q E s := by
  cases subC a i with
  | str x i =>
    have h : (if 0 ≤ i ∧ i < (lim : Int) then (match x.cps[i.toNat]? with | some c => some (PV.str ⟨#[c]⟩) | none => none) else none) = some d := h
    split at h
    · rename_i hb
      split at h
      · rename_i cp hc
        cases h; obtain ⟨_, rfl⟩ := Rep.str_inv ha; obtain ⟨_, rfl⟩ := Rep.int_inv hi
        refine tail_any (typeIs_str _ _ _) PySem.F.slot_str_getitem.lookup (getItem_str (c := cp) ?_ ?_ (hok.here H (Rep.str _ _) _)) (subscripted_index hsl)
        · have h1 := lim63 hb.2
          simp only [Bool.or_eq_false_iff, decide_eq_false_iff_not]
          (first | lia | omega)
        · rw [seqIndex_pos hb.1 (show _ < Str.length _ from (Array.getElem?_eq_some_iff.mp hc).1)]; exact hc
      · first | exact absN h | cases h
    · first | exact absN h | cases h
  | tup ds i =>
    have h : (if 0 ≤ i ∧ i < (lim : Int) then ds[i.toNat]? else none) = some d := h
    split at h
    · rename_i hb
      obtain ⟨_, rfl⟩ := Rep.int_inv hi
      obtain ⟨_, _, _, rfl, hx, l, r⟩ := Rep.tup_inv ha
      · skip
        obtain ⟨v, hv, rv⟩ := r.get h
        refine tail_any (T := "tuple") ⟨_, l, rfl⟩ slot_tuple_getitem.lookup (getItem_tuple ⟨_, l, rfl, _, rfl⟩ (by (first | lia | omega)) (lim63 hb.2) (seqIndex_pos hb.1 ?_) (x := v) (by simpa using hv) (hok.here H rv _)) (subscripted_index hsl)
        simpa using (List.getElem?_eq_some_iff.mp hv).1
    · first | exact absN h | cases h
  | list ds i =>
    have h : (if 0 ≤ i ∧ i < (lim : Int) then ds[i.toNat]? else none) = some d := h
    split at h
    · rename_i hb
      obtain ⟨_, rfl⟩ := Rep.int_inv hi
      obtain ⟨_, _, _, rfl, hx, l, r⟩ := Rep.list_inv ha
      · skip
        obtain ⟨v, hv, rv⟩ := r.get h
        exact tail_any (T := "list") ⟨_, l, rfl⟩ slot_list_getitem.lookup (wpAny_getItem_list l.isList hb.1 (lim63 hb.2) (x := v) (by simpa using hv) (hok.here H rv _)) (subscripted_index hsl)
    · first | exact absN h | cases h
  | own x ds i =>
    have h : pitem ds i = some d := h
    obtain ⟨_, rfl⟩ := Rep.int_inv hi
    obtain ⟨ad, _, rfl, _, vs, n, l, r⟩ := ha
    unfold pitem at h
    split at h
    · rename_i h0
      split at h
      · rename_i hb
        obtain ⟨v, hv, rv⟩ := r.get h
        exact tail_any (T := "list") ⟨_, l, rfl⟩ slot_list_getitem.lookup (wpAny_getItem_list l.isList h0 (lim63 hb) (x := v) (by simpa using hv) (hok.here H rv _)) (subscripted_index hsl)
      · first | exact absN h | cases h
    · rename_i h0
      split at h
      · rename_i hb
        obtain ⟨v, hv, rv⟩ := r.get h
        refine tail_any (T := "list") ⟨_, l, rfl⟩ slot_list_getitem.lookup (wpAny_getItem_list_neg l.isList (by (first | lia | omega)) ?_ (lim63n hb.2) (x := v) ?_ (hok.here H rv _)) (subscripted_index hsl)
        · simpa [r.length] using hb.1
        · simpa [r.length] using hv
      · first | exact absN h | cases h
  | dict kvs x =>
    have h : (match kvs.lookup x with
      | some y => some (PV.str y)
      | none => none) = some d := h
    split at h
    · rename_i y hy
      cases h; obtain ⟨_, rfl⟩ := Rep.str_inv hi
      obtain ⟨_, rfl, sd⟩ := Rep.sdict_inv ha
      exact tail_any (H.amb.sdType _ _ _ sd hs) PySem.F.slot_dict_getitem.lookup (H.amb.sdGet _ _ _ _ _ _ _ _ _ sd hs hy fun t' tk => hok.here H (Rep.str _ _) _) (subscripted_index hsl)
    · first | exact absN h | cases h
  | no _ _ hn => rw [hn] at h; exact absN h

theorem keptH_keeps (h : Heap) : KeptH (fun h' => KeepsR h h') := fun _ _ x b o e => Heap.get?_push_of_some _ (x b o e)

theorem ev_slice_from {value : Expr} {e : Expr} {p : Pos} {a i d : PV} {va vi : Value} {Q : Value → Shared → Prop} (H : Hy c G call R fr P Fl A env) (h : pslice a (some i) none = some d) (ha : Rep c O s.heap va a) (hi : Rep c O s.heap vi i)
    (hO : ∀ a ∈ O, a < s.heap.objs.size) (hok : OkP R (RvRep c O own) (.ok (.val d)) s Q) :
    wpAny (model c.prog c.w) A (subscriptTail value (.Slice (some e) none none p) va (.ref s.heap.objs.size)) Q E { s with heap := s.heap.push { cls := .type "slice", data := .fields #[vi, .none, .none] } } := by
  have kp : KeepsR s.heap (s.heap.push { cls := .type "slice", data := .fields #[vi, .none, .none] }) := fun _ _ e => Heap.get?_push_of_some _ e
  have kp2 : ∀ o, KeepsR s.heap ((s.heap.push { cls := .type "slice", data := .fields #[vi, .none, .none] }).push o) := fun _ _ _ e => Heap.get?_push_of_some _ (Heap.get?_push_of_some _ e)
  have hO' : ∀ a ∈ O, a < (s.heap.push { cls := .type "slice", data := .fields #[vi, .none, .none] }).objs.size := fun a ha => by rw [Heap.size_push]; exact Nat.lt_succ_of_lt (hO a ha)
  cases sliC a i with
  | list ds i =>
    have h : (if 0 ≤ i ∧ ds.length ≤ lim then some (PV.list (ds.drop i.toNat)) else none) = some d := h
    split at h
    · rename_i hb
      cases h
      obtain ⟨_, rfl⟩ := Rep.int_inv hi
      obtain ⟨_, _, _, rfl, hx, l, r⟩ := Rep.list_inv ha
      · skip
        refine tail_any (T := "list") ⟨_, kp _ _ l, rfl⟩ slot_list_getitem.lookup (wpAny_getItem_list_slice (IsL.isList (kp _ _ l)) (Heap.IsSliceOf.new ..) (.int _ _) .none .none (by simp) ?_ ?_) subscripted_slice
        · obtain ⟨k, hk⟩ := Int.eq_ofNat_of_zero_le hb.1
          subst hk
          rw [slicePick_from']
          exact hok _ rfl _ _ _ (H.rl.of_keeps (kp2 _)) (((r.drop k).up (.of_keeps kp)).newList hO')
        · rw [List.size_toArray, r.length]; exact Nat.le_trans hb.2 lim_size
    · first | exact absN h | cases h
  | tup ds i =>
    have h : (if i = 1 ∧ 1 ≤ ds.length ∧ ds.length ≤ lim then some (PV.tup (ds.drop 1)) else none) = some d := h
    split at h
    · rename_i hb
      cases h
      obtain ⟨_, rfl⟩ := Rep.int_inv hi
      obtain ⟨rfl, h1, h2⟩ := hb
      obtain ⟨_, _, _, rfl, hx, l, r⟩ := Rep.tup_inv ha
      · skip
        refine tail_any (T := "tuple") ⟨_, kp _ _ l, rfl⟩ slot_tuple_getitem.lookup (getItem_tuple_from (a := 1) ⟨_, kp _ _ l, rfl, _, rfl⟩ (Heap.IsSliceOf.new ..) (Nat.le_refl 1) ?_ ?_ ?_) subscripted_slice
        · rw [List.size_toArray, r.length]; exact h1
        · exact hok _ rfl _ _ _ (H.rl.of_keeps (kp2 _)) (((r.drop 1).up (.of_keeps kp)).newTup hO')
        · rw [List.size_toArray, r.length]; exact Nat.le_trans h2 lim_size
    · first | exact absN h | cases h
  | str x i =>
    have h : (if 0 ≤ i ∧ i ≤ x.length ∧ x.length ≤ lim then some (PV.str ⟨(x.cps.toList.drop i.toNat).toArray⟩) else none) = some d := h
    split at h
    · rename_i hb
      cases h
      obtain ⟨_, rfl⟩ := Rep.int_inv hi
      obtain ⟨_, rfl⟩ := Rep.str_inv ha
      have e1 := slice_from_eq (x := _) hb.1 hb.2.1 rfl
      obtain ⟨T, id, hl, hT, hg⟩ := PySem.SBH.sliceItem_sn (prog := c.prog) (w := c.w) (A := A) (E := E) (s := s) (x := _) (t := _) (i := _) (ui := _) (Q := Q) (keptH_keeps s.heap) (fun _ _ e => e) (fun h' t' k hp => by
        rw [e1]
        refine hok _ rfl _ h' k (H.rl.of_keeps hp) ?_
        have e2 : ∀ (x : Str) (i : Int), 0 ≤ i → i ≤ x.length → (x.cps.toList.drop i.toNat).take ((x.length : Int) - i).toNat = x.cps.toList.drop i.toNat := fun x i h0 h1 => by
          rw [List.take_of_length_le]
          rw [List.length_drop, Array.length_toList]
          show Array.size _ - _ ≤ _
          have : x.length = x.cps.size := rfl
          (first | lia | omega)
        rw [e2 _ _ hb.1 hb.2.1]
        exact Rep.str _ _) (Nat.le_trans hb.2.2 lim_size)
      exact tail_any hT hl hg subscripted_slice
    · first | exact absN h | cases h
  | no _ _ h1 _ => rw [h1] at h; exact absN h

theorem ev_slice_to {value : Expr} {e : Expr} {p : Pos} {a i d : PV} {va vi : Value} {Q : Value → Shared → Prop} (H : Hy c G call R fr P Fl A env) (h : pslice a none (some i) = some d) (ha : Rep c O s.heap va a) (hi : Rep c O s.heap vi i)
    (hO : ∀ a ∈ O, a < s.heap.objs.size) (hok : OkP R (RvRep c O own) (.ok (.val d)) s Q) :
    wpAny (model c.prog c.w) A (subscriptTail value (.Slice none (some e) none p) va (.ref s.heap.objs.size)) Q E { s with heap := s.heap.push { cls := .type "slice", data := .fields #[.none, vi, .none] } } := by
  have kp : KeepsR s.heap (s.heap.push { cls := .type "slice", data := .fields #[.none, vi, .none] }) := fun _ _ e => Heap.get?_push_of_some _ e
  have kp2 : ∀ o, KeepsR s.heap ((s.heap.push { cls := .type "slice", data := .fields #[.none, vi, .none] }).push o) := fun _ _ _ e => Heap.get?_push_of_some _ (Heap.get?_push_of_some _ e)
  have hO' : ∀ a ∈ O, a < (s.heap.push { cls := .type "slice", data := .fields #[.none, vi, .none] }).objs.size := fun a ha => by rw [Heap.size_push]; exact Nat.lt_succ_of_lt (hO a ha)
  cases sliC a i with
  | list ds i =>
    have h : (if 0 ≤ i ∧ ds.length ≤ lim then some (PV.list (ds.take i.toNat)) else none) = some d := h
    split at h
    · rename_i hb
      cases h
      obtain ⟨_, rfl⟩ := Rep.int_inv hi
      obtain ⟨_, _, _, rfl, hx, l, r⟩ := Rep.list_inv ha
      · skip
        refine tail_any (T := "list") ⟨_, kp _ _ l, rfl⟩ slot_list_getitem.lookup (wpAny_getItem_list_slice (IsL.isList (kp _ _ l)) (Heap.IsSliceOf.new ..) .none (.int _ _) .none (by simp) ?_ ?_) subscripted_slice
        · obtain ⟨k, hk⟩ := Int.eq_ofNat_of_zero_le hb.1
          subst hk
          rw [slicePick_upto']
          exact hok _ rfl _ _ _ (H.rl.of_keeps (kp2 _)) (((r.take k).up (.of_keeps kp)).newList hO')
        · rw [List.size_toArray, r.length]; exact Nat.le_trans hb.2 lim_size
    · first | exact absN h | cases h
  | tup ds i => exact absN h
  | str x i =>
    have h : (if 0 ≤ i ∧ i ≤ x.length ∧ x.length ≤ lim then some (PV.str ⟨(x.cps.toList.take i.toNat).toArray⟩) else none) = some d := h
    split at h
    · rename_i hb
      cases h
      obtain ⟨_, rfl⟩ := Rep.int_inv hi
      obtain ⟨_, rfl⟩ := Rep.str_inv ha
      have e1 : ∀ (x : Str) (j : Int), 0 ≤ j → j ≤ x.length → Txt.slice x none (some j) = ⟨(x.cps.toList.take j.toNat).toArray⟩ := fun x j h0 h1 => by
        have := slice_closes_toL h0 h1
        simpa using this
      obtain ⟨T, id, hl, hT, hg⟩ := PySem.SBH.sliceItem_ns (prog := c.prog) (w := c.w) (A := A) (E := E) (s := s) (x := _) (t := _) (j := _) (uj := _) (Q := Q) (keptH_keeps s.heap) (fun _ _ e => e) (fun h' t' k hp => by
        rw [e1 _ _ hb.1 hb.2.1]
        exact hok _ rfl _ h' k (H.rl.of_keeps hp) (Rep.str _ _)) (Nat.le_trans hb.2.2 lim_size)
      exact tail_any hT hl hg subscripted_slice
    · first | exact absN h | cases h
  | no _ _ _ h2 => rw [h2] at h; exact absN h

theorem lim63' {n : Nat} (h : n ≤ lim) : (n : Int) < 2 ^ 63 := by
  have h' : n ≤ 10000 := h
  (first | lia | omega)

theorem ev_len {a : RV} {d : PV} {v : Value} {Q : Value → Shared → Prop} (H : Hy c G call R fr P Fl A env) (h : plen a = some d) (ha : RvRep c O own s.heap v a) (hok : OkP R (RvRep c O own) (.ok (.val d)) s Q) :
    wpAny (model c.prog c.w) A (PySem.call (.builtin "len") [v]) Q E s := by
  unfold plen at h
  split at h
  · split at h
    · rename_i hb; cases h; obtain ⟨_, rfl⟩ := Rep.str_inv ha; exact len_str (by have := lim63' hb; (first | lia | omega)) (hok.here H (Rep.int _ _) _)
    · first | exact absN h | cases h
  · split at h
    · rename_i hb
      cases h
      obtain ⟨_, _, _, rfl, hx, l, r⟩ := Rep.tup_inv ha
      · skip
        refine len_tuple ⟨_, l, rfl, _, rfl⟩ (by rw [List.size_toArray, r.length]; exact lim63' hb) ?_
        rw [List.size_toArray, r.length]
        exact hok.here H (Rep.int _ _) _
    · first | exact absN h | cases h
  · split at h
    · rename_i hb
      cases h
      obtain ⟨_, _, _, rfl, hx, l, r⟩ := Rep.list_inv ha
      · skip
        refine len_list l.isList (by rw [List.size_toArray, r.length]; exact lim63' hb) ?_
        rw [List.size_toArray, r.length]
        exact hok.here H (Rep.int _ _) _
    · first | exact absN h | cases h
  · split at h
    · rename_i hb
      cases h
      obtain ⟨ad, _, rfl, _, vs, n, l, r⟩ := ha
      refine len_list l.isList (by rw [List.size_toArray, r.length]; exact lim63' hb) ?_
      rw [List.size_toArray, r.length]
      exact hok.here H (Rep.int _ _) _
    · first | exact absN h | cases h
  · first | exact absN h | cases h

theorem small_log {i : Int} (h : smallInt i = true) : i.natAbs.log2 < 1920 := by
  simp only [smallInt, Bool.and_eq_true, decide_eq_true_eq] at h
  have : i.natAbs < 2 ^ 17 := by (first | lia | omega)
  have h2 : i.natAbs.log2 < 17 := by
    by_cases hz : i.natAbs = 0
    · rw [hz]; decide
    · exact (Nat.log2_lt hz).mpr this
  (first | lia | omega)

theorem ev_isi {d : PV} {T : Str} {b : Bool} {v : Value} {Q : Value → Shared → Prop} (h : pisi d T = some b) (hv : Rep c O s.heap v d) (q : ∀ tk, Q (.bool b) { s with toks := tk }) :
    (T = ("tuple" : Str) ∧ wpAny (model c.prog c.w) A (PySem.call (.builtin "isinstance") [v, .type "tuple"]) Q E s) ∨ (T = ("str" : Str) ∧ wpAny (model c.prog c.w) A (PySem.call (.builtin "isinstance") [v, .type "str"]) Q E s) := by
  unfold pisi at h
  split at h
  · rename_i hT
    refine .inl ⟨hT, ?_⟩
    split at h
    · cases h
      cases hv with
      | tup _ l _ => exact PySem.IsiPair.tuple_tuple l rfl (q s.toks)
    · cases h
      cases hv with
      | list _ l _ => exact PySem.IsiPair.list_tuple l rfl (q _)
    · first | exact absN h | cases h
  · split at h
    · rename_i hT
      refine .inr ⟨hT, ?_⟩
      split at h
      · cases h; obtain ⟨_, rfl⟩ := Rep.str_inv hv; exact PySem.IsiPair.str_str (q s.toks)
      · cases h; obtain rfl := Rep.none_inv hv; exact PySem.IsiPair.NoneType_str (q _)
      · cases h; obtain ⟨_, rfl⟩ := Rep.int_inv hv; exact PySem.IsiPair.int_str (q _)
      · first | exact absN h | cases h
    · first | exact absN h | cases h

theorem ev_list {ds : List PV} {v : Value} {Q : Value → Shared → Prop} (H : Hy c G call R fr P Fl A env) (hz : ds.length ≤ lim) (hv : Rep c O s.heap v (.list ds)) (hO : ∀ a ∈ O, a < s.heap.objs.size)
    (hok : OkP R (RvRep c O own) (.ok (.val (.list ds))) s Q) : wpAny (model c.prog c.w) A (PySem.call (.type "list") [v]) Q E s := by
  obtain ⟨_, _, _, rfl, _, l, r⟩ := Rep.list_inv hv
  · skip
    refine call_list_seq (hsz := by rw [List.size_toArray, r.length]; exact Nat.le_trans hz lim_size) _ (.inl rfl) l rfl rfl fun h' c' hk hD => ?_
    exact hok _ rfl _ h' _ (H.rl.of_keeps hk) (Rep.list (fun q => absurd (hO _ q) (Nat.lt_irrefl _)) hD (r.up (.of_keeps hk)))
end
end Mine

-- SxEv2
namespace Mine
open PySem PyProof.Rows

inductive RvReps (c : Cx) (O : List Addr) (own : List (Str × Addr)) (h : Heap) : List Value → List RV → Prop
  | nil : RvReps c O own h [] []
  | cons {v : Value} {vs : List Value} {r : RV} {rs : List RV} : RvRep c O own h v r → RvReps c O own h vs rs → RvReps c O own h (v :: vs) (r :: rs)

theorem RvReps.vals {c : Cx} {O : List Addr} {own : List (Str × Addr)} {h : Heap} {vs : List Value} {rs : List RV} (x : RvReps c O own h vs rs) : ∀ {ds : List PV}, Mine.vals rs = some ds → Reps c O h vs ds := by
  induction x with
  | nil => intro ds e; cases e; exact .nil
  | cons v r ih =>
    rename_i rv _
    intro ds e
    cases rv with
    | val d =>
      simp only [Mine.vals] at e
      split at e
      · rename_i ds' e'
        cases e
        exact .cons v (ih e')
      · cases e
    | own x ds => cases e

section
variable {c : Cx} {G : Str → Option PV} {call : Calls} {R : Heap → Heap → Prop} {fr : List Addr} {P : Heap → Prop} {Fl : Heap → Str → Value → Heap → Prop} {A : Around} {env : Env}
  {O : List Addr} {own : List (Str × Addr)} {ρ : Loc} {n : Nat}

theorem star_plain {e : Expr} {rest : List Expr} {sc : Names} {r : Except Str RV} (h : pe G n call sc ρ e = some r) : starEach (e :: rest) env = (false, eval e env) :: starEach rest env := by
  cases peC e <;> first
    | rfl
    | exact pe_no (by assumption) h

theorem ev_args {pos : Pos} (hpe : PeOk c G n) (H : Hy c G call R fr P Fl A env) : ∀ (es : List Expr) (r : Except Str (List RV)) (s : Shared) (Q : List Value → Shared → Prop) (E : Value → Shared → Prop),
    evs (pe G n call env.scope.names ρ) es = some r → Sv c O own env ρ fr P s.heap →
    (∀ rs, r = .ok rs → ∀ vs h' tk, R s.heap h' → RvReps c O own h' vs rs → Q vs { s with heap := h', toks := tk }) → ErP Fl r s E →
    wpAny (model c.prog c.w) A (spliced (backTo pos (starEach es env))) Q E s
  | [], r, s, Q, E, h, sv, hok, her => by
    cases h
    exact Calls.spliced_nil (hok _ rfl _ s.heap s.toks (H.rl.refl _) .nil)
  | e :: es, r, s, Q, E, h, sv, hok, her => by
    simp only [evs] at h
    rcases bd_inv h with ⟨m, hm, rfl⟩ | ⟨a, hm, h⟩
    · rw [star_plain hm]
      refine Calls.spliced_cons (hpe _ _ _ _ _ _ _ _ _ _ _ _ H hm s _ _ sv .no her.to)
    · rw [star_plain hm]
      refine Calls.spliced_cons (hpe _ _ _ _ _ _ _ _ _ _ _ _ H hm s _ _ sv (okP_ok fun v h' tk hR hv => ?_) .ok)
      have sv' := sv.step H hR
      rcases bd_inv h with ⟨m, hm', rfl⟩ | ⟨as, hm', h⟩
      · exact ev_args hpe H es _ _ _ _ hm' sv' (fun _ e => by cases e) (ErP.shift H hR her).to
      · cases h
        refine ev_args hpe H es _ { s with heap := h', toks := tk } _ _ hm' sv' (okAll fun vs h'' tk' hR' hvs => ?_) .ok
        exact hok _ rfl _ _ _ (H.rl.trans hR hR') (.cons (hv.step H.rl hR' fun a ha => (sv'.ot a ha).1) hvs)

theorem plain_args {pos : Pos} : ∀ (es : List Expr) (r : Except Str (List RV)), evs (pe G n call env.scope.names ρ) es = some r → (∀ rs, r = .ok rs → (backTo pos (starEach es env)).any (·.1) = false)
  | [], _, h => fun _ _ => rfl
  | e :: es, r, h => fun rs hr => by
    subst hr
    simp only [evs] at h
    rcases bd_inv h with ⟨m, hm, q⟩ | ⟨a, hm, h⟩
    · cases q
    · rw [star_plain hm]
      rcases bd_inv h with ⟨m, hm', q⟩ | ⟨as, hm', h⟩
      · cases q
      · show (false || (backTo pos (starEach es env)).any (·.1)) = false
        rw [plain_args es _ hm' _ rfl]; rfl

/-- one plain argument -/
theorem ev_one {e : Expr} {pos : Pos} {r : Except Str RV} {s : Shared} {E : Value → Shared → Prop} {Q : Args → Shared → Prop} {f : Value} (hpe : PeOk c G n) (H : Hy c G call R fr P Fl A env) (h : pe G n call env.scope.names ρ e = some r)
    (sv : Sv c O own env ρ fr P s.heap) (hok : OkP R (RvRep c O own) r s (fun v s' => Q ⟨[v], []⟩ s')) (her : ErP Fl r s E) :
    wpAny (model c.prog c.w) A (evalArgs f true (backTo pos (starEach [e] env)) []) Q E s := by
  rw [star_plain h]
  exact Calls.evalArgs_plain (Calls.spliced_cons (wpAny_mono (hpe _ _ _ _ _ _ _ _ _ _ _ _ H h s _ _ sv hok her) (fun v s' q => Calls.spliced_nil q) fun _ _ x => x))
theorem one_plain {e : Expr} {pos : Pos} {r : Except Str RV} (h : pe G n call env.scope.names ρ e = some r) : (backTo pos (starEach [e] env)).any (·.1) = false := by
  rw [star_plain h]; rfl

theorem filter_reps {O : List Addr} {a : Addr} {h : Heap} : ∀ {vs : List Value} {ds : List PV}, Reps c O h vs ds → Reps c (O.filter (· != a)) h vs ds := Reps.sub fun _ hb => (List.mem_filter.mp hb).1

theorem ev_callOn {g : Str} {args : List Expr} {r : Except Str RV} {p pos : Pos} {s : Shared} {Q E : Value → Shared → Prop} (hpe : PeOk c G n) (H : Hy c G call R fr P Fl A env)
    (h : (bd (evs (pe G n call env.scope.names ρ) args) fun rs => callOn call g rs) = some r) (hne : args ≠ []) (hk : env.kindOf g = some .globalImplicit) (hg : fnNames.contains g = true)
    (sv : Sv c O own env ρ fr P s.heap) (hok : OkP R (RvRep c O own) r s Q) (her : ErP Fl r s E) :
    wpAny (model c.prog c.w) A (eval (.Call (.Name g p) args [] pos) env) Q E s := by
  obtain ⟨fa, o, fd, hmg, hb, hd⟩ := H.amb.fn g hg
  have hdb : (g == ("__debug__" : Str)) = false := by
    cases q : g == ("__debug__" : Str) with
    | false => rfl
    | true => rw [beq_iff_eq.mp q] at hg; exact absurd hg (by decide +kernel)
  refine wpAny_Call_NameR (staysIn_global H (H.pB sv.p) hk hmg hdb ?_)
  refine Calls.callWith_function (o := o) (fd := fd) ?_
  obtain ⟨e, es, rfl⟩ := List.exists_cons_of_ne_nil hne
  have main : ∀ (Q' : List Value → Shared → Prop), (∀ rs q, evs (pe G n call env.scope.names ρ) (e :: es) = some (.ok rs) → callOn call g rs = some q → r = q → ∀ vs h' tk, R s.heap h' → RvReps c O own h' vs rs → Q' vs { s with heap := h', toks := tk }) →
      wpAny (model c.prog c.w) A (spliced (backTo pos (starEach (e :: es) env))) Q' E s := by
    intro Q' hQ'
    rcases bd_inv h with ⟨m, hm, rfl⟩ | ⟨rs, hm, h⟩
    · exact ev_args hpe H _ _ _ _ _ hm sv (fun _ e => by cases e) her.to
    · exact ev_args hpe H _ _ _ _ _ hm sv (fun rs' e vs h' tk hR hvs => by cases e; exact hQ' rs r hm h rfl vs h' tk hR hvs) .ok
  have plain : ∃ m, pe G n call env.scope.names ρ e = some m := by
    rcases bd_inv h with ⟨m, hm, rfl⟩ | ⟨rs, hm, h⟩ <;> simp only [evs] at hm <;> rcases bd_inv hm with ⟨m', hm', _⟩ | ⟨a, hm', _⟩ <;> exact ⟨_, hm'⟩
  obtain ⟨m, hm⟩ := plain
  rw [star_plain hm]
  refine Calls.evalArgs_plain ?_
  have := main (fun vs s₁ => (s₁.heap.get? fa = some o ∧ o.data = .func fd) ∧ wpAny (model c.prog c.w) A (PySem.call (.ref fa) ([] ++ vs) []) Q E s₁) ?_
  · rw [star_plain hm] at this; exact this
  intro rs q hrs hq hr vs h' tk hR hvs
  subst hr
  have sv' := sv.step H hR
  refine ⟨⟨H.pB sv'.p _ _ hb, hd⟩, ?_⟩
  have hok' := OkP.shift (t1 := tk) H hR hok
  have her' := ErP.shift (t1 := tk) H hR her
  unfold callOn at hq
  split at hq
  · rename_i x ds
    cases hvs with
    | cons hv hnil =>
      cases hnil
      obtain ⟨a, _, rfl, hv⟩ := hv
      have sub : Reps c (O.filter (· != a)) h' [.ref a] [.list ds] := by
        obtain ⟨ha, ws, k, l, rr⟩ := hv
        exact .cons (.list (by simp) l (filter_reps rr)) .nil
      have ot : OT c (O.filter (· != a)) fr h' := fun b hb => sv'.ot b (List.mem_filter.mp hb).1
      rcases bd_inv hq with ⟨m, hm, rfl⟩ | ⟨d, hm, hq⟩
      · exact H.call g _ _ hg hm fa hmg { s with heap := h', toks := tk } _ _ _ _ sv'.p ot sub (fun _ e => by cases e) fun m' e => by cases e; exact her' m rfl
      · refine H.call g _ _ hg hm fa hmg { s with heap := h', toks := tk } _ _ _ _ sv'.p ot sub (fun d' e v h'' tk' hR' hv' => ?_) fun m' e => by cases e
        cases e
        split at hq
        · rename_i him
          cases hq
          refine hok' _ rfl v h'' tk' hR' ?_
          exact imm_rep him hv'
        · first | exact absN hq | cases hq
  · obtain ⟨ds, hds, hq⟩ := bdo_inv hq
    have hreps := hvs.vals hds
    rcases bd_inv hq with ⟨m, hm, rfl⟩ | ⟨d, hm, hq⟩
    · exact H.call g _ _ hg hm fa hmg { s with heap := h', toks := tk } _ _ _ _ sv'.p sv'.ot hreps (fun _ e => by cases e) fun m' e => by cases e; exact her' m rfl
    · cases hq
      exact H.call g _ _ hg hm fa hmg { s with heap := h', toks := tk } _ _ _ _ sv'.p sv'.ot hreps (fun d' e v h'' tk' hR' hv' => by cases e; exact hok' _ rfl v h'' tk' hR' hv') fun m' e => by cases e
end
end Mine

-- SxEv3
namespace Mine
open PySem PyProof.Rows

section
variable {c : Cx} {G : Str → Option PV} {n : Nat}

theorem pfun_step (hpe : PeOk c G n) : PfunOk c G (n + 1) := by
  intro call R fr P Fl A env own O ρ g args p pos r H h hk s Q E sv hok her
  unfold pfun at h
  split at h
  · rename_i hg
    subst hg
    split at h
    · rename_i e
      refine wpAny_Call_NameR (staysIn_builtin H (H.pB sv.p) hk H.amb.b_len ?_)
      rcases bd_inv h with ⟨m, hm, rfl⟩ | ⟨a, hm, h⟩
      · exact Calls.callWith_builtin (one_plain hm) (ev_one hpe H hm sv .no her.to)
      · obtain ⟨d, hd, h⟩ := bdo_inv h
        cases h
        refine Calls.callWith_builtin (one_plain hm) (ev_one hpe H hm sv (okP_ok fun v h' tk hR hv => ?_) .ok)
        exact ev_len (s := { s with heap := h', toks := tk }) H hd hv (OkP.shift H hR hok)
    · first | exact absN h | cases h
  · split at h
    · rename_i hg
      subst hg
      split at h
      · rename_i e
        refine wpAny_Call_NameR (staysIn_builtin H (H.pB sv.p) hk H.amb.b_str ?_)
        rcases bd_inv h with ⟨m, hm, rfl⟩ | ⟨a, hm, h⟩
        · exact PyProof.Rows.callWith_type (one_plain hm) (ev_one hpe H hm sv .no her.to)
        · refine PyProof.Rows.callWith_type (one_plain hm) (ev_one hpe H hm sv (okP_ok fun v h' tk hR hv => ?_) .ok)
          split at h
          · split at h
            · rename_i i hsm
              cases h
              obtain ⟨_, rfl⟩ := Rep.int_inv hv
              exact PySem.P.str_of_int (small_log hsm) (OkP.here (s := { s with heap := h', toks := tk }) H (OkP.shift H hR hok) (Rep.str _ _) _)
            · first | exact absN h | cases h
          · first | exact absN h | cases h
      · first | exact absN h | cases h
    · split at h
      · rename_i hg
        subst hg
        split at h
        · rename_i e
          refine wpAny_Call_NameR (staysIn_builtin H (H.pB sv.p) hk H.amb.b_list ?_)
          rcases bd_inv h with ⟨m, hm, rfl⟩ | ⟨a, hm, h⟩
          · exact PyProof.Rows.callWith_type (one_plain hm) (ev_one hpe H hm sv .no her.to)
          · refine PyProof.Rows.callWith_type (one_plain hm) (ev_one hpe H hm sv (okP_ok fun v h' tk hR hv => ?_) .ok)
            split at h
            · split at h
              · rename_i ds hz
                cases h
                exact ev_list (s := { s with heap := h', toks := tk }) H hz hv (sv.step H hR).ot.lt (OkP.shift H hR hok)
              · first | exact absN h | cases h
            · first | exact absN h | cases h
        · first | exact absN h | cases h
      · split at h
        · rename_i hg
          subst hg
          split at h
          · rename_i e T
            split at h
            · rename_i T' hT
              split at h
              · rename_i hkT
                refine wpAny_Call_NameR (staysIn_builtin H (H.pB sv.p) hk H.amb.b_isinstance ?_)
                obtain ⟨p', rfl⟩ := name_inv hT
                rcases bd_inv h with ⟨m, hm, rfl⟩ | ⟨a, hm, h⟩
                · rw [star_plain hm]
                  exact Calls.callWith_builtin rfl (Calls.evalArgs_plain (Calls.spliced_cons (hpe _ _ _ _ _ _ _ _ _ _ _ _ H hm s _ _ sv .no her.to)))
                · obtain ⟨d, rfl, h⟩ := vd_inv h
                  obtain ⟨b, hb, h⟩ := bdo_inv h
                  cases h
                  rw [star_plain hm]
                  refine Calls.callWith_builtin rfl (Calls.evalArgs_plain (Calls.spliced_cons (hpe _ _ _ _ _ _ _ _ _ _ _ _ H hm s _ _ sv (okP_ok fun v h' tk hR hv => ?_) .ok)))
                  have hfin : ∀ tk', Q (.bool b) { s with heap := h', toks := tk' } := fun tk' => hok _ rfl _ _ _ hR (Rep.bool _)
                  refine Calls.spliced_cons ?_
                  rcases ev_isi (A := A) (E := E) (s := { s with heap := h', toks := tk }) hb hv hfin with ⟨rfl, q⟩ | ⟨rfl, q⟩
                  · exact staysIn_builtin H (H.pB (sv.step H hR).p) hkT H.amb.b_tuple (Calls.spliced_nil q)
                  · exact staysIn_builtin H (H.pB (sv.step H hR).p) hkT H.amb.b_str (Calls.spliced_nil q)
              · first | exact absN h | cases h
            · first | exact absN h | cases h
          · first | exact absN h | cases h
        · split at h
          · rename_i hg
            split at h
            · first | exact absN h | cases h
            · rename_i hne
              exact ev_callOn hpe H h (fun q => hne q) hk hg sv hok her
          · first | exact absN h | cases h
end
end Mine

-- SxEv4
namespace Mine
open PySem PyProof.Rows

section
variable {c : Cx} {G : Str → Option PV} {n : Nat}

theorem pe_marks {call : Calls} {sc : Names} {ρ : Loc} {e : Expr} {r : Except Str RV} (op : CmpOp) (h : pe G n call sc ρ e = some r) : behindInMarks op e = false := by
  cases peC e <;> first
    | rfl
    | exact pe_no (by assumption) h

theorem ev_type {O : List Addr} {A : Around} {E : Value → Shared → Prop} {s : Shared} {d : PV} {T : Str} {b : Bool} {v : Value} {Q : Value → Shared → Prop} (h : ptype d T = some b) (hv : Rep c O s.heap v d)
    (q : ∀ X, (T = ("list" : Str) → (Value.type X == .type "list") = b) → (T = ("bool" : Str) → (Value.type X == .type "bool") = b) → Q (.type X) s) :
    wpAny (model c.prog c.w) A (PySem.call (.type "type") [v]) Q E s := by
  unfold ptype at h
  split at h
  · rename_i hT
    split at h
    · cases h
      cases hv with
      | list _ l _ => exact call_type_of (Tx := "list") ⟨_, l, rfl⟩ (by decide) (q "list" (fun _ => by decide) fun e => absurd (hT.symm.trans e) (by decide +kernel))
    · cases h
      cases hv
      exact call_type_of (Tx := "NoneType") (typeIs_none s) (by decide) (q "NoneType" (fun _ => by decide) fun e => absurd (hT.symm.trans e) (by decide +kernel))
    · first | exact absN h | cases h
  · split at h
    · rename_i hT
      split at h
      · cases h
        cases hv
        exact call_type_of (Tx := "bool") (PySem.typeIs_bool s _) (by decide) (q "bool" (fun e => absurd (hT.symm.trans e) (by decide +kernel)) fun _ => by decide)
      · first | exact absN h | cases h
    · first | exact absN h | cases h

theorem ptype_name {d : PV} {T : Str} {b : Bool} (h : ptype d T = some b) : T = ("list" : Str) ∨ T = ("bool" : Str) := by
  unfold ptype at h
  split at h
  · exact .inl ‹_›
  · split at h
    · exact .inr ‹_›
    · first | exact absN h | cases h

theorem ptest_step (hpe : PeOk c G n) : PtestOk c G (n + 1) := by
  intro call R fr P Fl A env own O ρ l op e r H h
  unfold ptest at h
  split at h
  · split at h
    · rename_i e' T hl hr
      split at h
      · rename_i hk
        obtain ⟨p', rfl⟩ := name_inv hr
        refine ⟨rfl, fun s Q E sv hok her => ?_⟩
        obtain ⟨p0, pos, rfl⟩ := isTypeOf_inv hl
        refine wpAny_Call_NameR (staysIn_builtin H (H.pB sv.p) hk.1 H.amb.b_type ?_)
        rcases bd_inv h with ⟨m, hm, rfl⟩ | ⟨a, hm, h⟩
        · exact PyProof.Rows.callWith_type (one_plain hm) (ev_one hpe H hm sv .no her.to)
        · obtain ⟨d, rfl, h⟩ := vd_inv h
          obtain ⟨b, hb, rfl⟩ := ofOpt_inv h
          refine PyProof.Rows.callWith_type (one_plain hm) (ev_one hpe H hm sv (okP_ok fun v h' tk hR hv => ?_) .ok)
          refine ev_type (s := { s with heap := h', toks := tk }) hb hv fun X h1 h2 => ?_
          have sv' := sv.step H hR
          have fin : Q (.bool b) { s with heap := h', toks := tk } := hok b rfl h' tk hR
          rcases ptype_name hb with rfl | rfl
          · exact staysIn_builtin H (H.pB sv'.p) hk.2 H.amb.b_list (wpAny_is_plain rfl (by rw [h1 rfl]; exact fin))
          · exact staysIn_builtin H (H.pB sv'.p) hk.2 H.amb.b_bool (wpAny_is_plain rfl (by rw [h2 rfl]; exact fin))
      · first | exact absN h | cases h
    · first | exact absN h | cases h
  · split at h
    · rename_i hn
      obtain ⟨_, _, rfl⟩ := isNone_inv hn
      · refine ⟨rfl, fun s Q E sv hok her => ?_⟩
        rcases bd_inv h with ⟨m, hm, rfl⟩ | ⟨a, hm, h⟩
        · exact hpe _ _ _ _ _ _ _ _ _ _ _ _ H hm s _ _ sv .no her.to
        · obtain ⟨d, ha, h2⟩ := vd_inv h
          subst ha
          clear h
          refine hpe _ _ _ _ _ _ _ _ _ _ _ _ H hm s _ _ sv (okP_ok fun v h' tk hR hv => ?_) .ok
          refine wpAny_pure ?_
          split at h2
          · cases h2; obtain rfl := Rep.none_inv hv; exact isnot_none_none (hok _ rfl h' tk hR)
          · cases h2; obtain ⟨_, _, _, rfl, _⟩ := Rep.list_inv hv; exact isnot_ref_none (hok _ rfl h' tk hR)
          · first | exact absN h2 | cases h2
    · first | exact absN h | cases h
  · obtain ⟨a, hm, h⟩ := bs_inv h
    · obtain ⟨x, rfl, h⟩ := vd_inv h
      rcases bd_inv h with ⟨m, hm', rfl⟩ | ⟨y, hm', h⟩
      · refine ⟨pe_marks _ hm', fun s Q E sv hok her => ?_⟩
        refine hpe _ _ _ _ _ _ _ _ _ _ _ _ H hm s _ _ sv (okP_ok fun v h' tk hR hv => ?_) .ok
        exact hpe _ _ _ _ _ _ _ _ _ _ _ _ H hm' { s with heap := h', toks := tk } _ _ (sv.step H hR) .no (ErP.shift H hR her).to
      · refine ⟨pe_marks _ hm', fun s Q E sv hok her => ?_⟩
        refine hpe _ _ _ _ _ _ _ _ _ _ _ _ H hm s _ _ sv (okP_ok fun v h' tk hR hv => ?_) .ok
        have sv' := sv.step H hR
        refine hpe _ _ _ _ _ _ _ _ _ _ _ _ H hm' { s with heap := h', toks := tk } _ _ sv' (okP_ok fun v' h'' tk' hR' hv' => ?_) .ok
        have sv'' := sv'.step H hR'
        have hv2 := RvRep.step (own := own) (rv := .val x) H.rl hR' (fun a ha => (sv'.ot a ha).1) hv
        split at h
        · obtain ⟨b, hb, rfl⟩ := ofOpt_inv h
          exact ev_cmp (s := { s with heap := h'', toks := tk' }) H (H.pB sv''.p) hb hv2 hv' fun tk'' => hok b rfl h'' tk'' (H.rl.trans hR hR')
        · obtain ⟨b, hb, rfl⟩ := ofOpt_inv h
          obtain ⟨a, _, rfl, ho⟩ := hv'
          exact ev_cmpOwn (s := { s with heap := h'', toks := tk' }) hb hv2 ho (hok b rfl h'' tk' (H.rl.trans hR hR'))

end
end Mine

-- SxEv5
namespace Mine
open PySem PyProof.Rows

section
variable {c : Cx} {G : Str → Option PV} {n : Nat}

theorem pall_step (hpt : PtOk c G n) (hpall : PallOk c G n) : PallOk c G (n + 1) := by
  intro call R fr P Fl A env own O ρ op vs r H h s Q E sv hok her
  unfold pall at h
  split at h
  · cases h
    exact wpAny_pure (hok _ rfl s.heap s.toks (H.rl.refl _))
  · rename_i x rest
    have arm : ∀ (Q : Bool → Shared → Prop) (s : Shared), wpAny (model c.prog c.w) A (isTrue x env (eval x env)) (fun b s' => wpAny (model c.prog c.w) A (match op, b with
        | .And, false => pure false
        | .Or, true => pure true
        | _, _ => allTrue op rest env) Q E s') E s → wpAny (model c.prog c.w) A (allTrue op (x :: rest) env) Q E s := fun Q s hh => by
      show wpAny _ A (do
        match op, ← isTrue x env (eval x env) with
        | .And, false => pure false
        | .Or, true => pure true
        | _, _ => allTrue op rest env) Q E s
      exact wpAny_bind hh
    refine arm Q s ?_
    rcases bd_inv h with ⟨m, hm, rfl⟩ | ⟨b, hm, h⟩
    · exact hpt _ _ _ _ _ _ _ _ _ _ _ _ H hm s _ _ sv (fun _ e => by cases e) her.to
    · refine hpt _ _ _ _ _ _ _ _ _ _ _ _ H hm s _ _ sv (fun b' e h' tk hR => ?_) .ok
      cases e
      have sv' := sv.step H hR
      have next : (pall G n call env.scope.names ρ op rest = some r) → wpAny (model c.prog c.w) A (allTrue op rest env) Q E { s with heap := h', toks := tk } := fun h =>
        hpall _ _ _ _ _ _ _ _ _ _ _ _ _ H h { s with heap := h', toks := tk } _ _ sv' (fun b e h'' tk' hR' => hok b e h'' tk' (H.rl.trans hR hR')) (ErP.shift H hR her)
      cases op <;> cases b
      · cases h; exact wpAny_pure (hok _ rfl h' tk hR)
      · exact next h
      · exact next h
      · cases h; exact wpAny_pure (hok _ rfl h' tk hR)

/-- the tests -/
inductive PtC : Expr → Prop
  | neg (x : Expr) (p : Pos) : PtC (.UnaryOp .Not x p)
  | bool (op : BoolOp) (vs : List Expr) (p : Pos) : PtC (.BoolOp op vs p)
  | cmp (l : Expr) (op : CmpOp) (r : Expr) (p : Pos) : PtC (.Compare l [op] [r] p)
  | no (e : Expr) (h : ∀ G n call sc ρ, pt G (n + 1) call sc ρ e = none) : PtC e
  | rest (e : Expr) (h : ∀ G n call sc ρ, pt G (n + 1) call sc ρ e = bd (pe G n call sc ρ e) fun r => match r with
      | .val (.bool b) => ok b
      | _ => none) (he : ∀ env whole, isTrue e env whole = (do let v ← whole; standAt e.pos; holding [v] (truthy v))) : PtC e
theorem ptC (e : Expr) : PtC e := by
  cases e with
  | UnaryOp op x p =>
    cases op with
    | Not => exact .neg x p
    | _ => exact .rest _ (fun _ _ _ _ _ => rfl) fun _ _ => rfl
  | BoolOp op vs p => exact .bool op vs p
  | Compare l ops rs p =>
    cases ops with
    | nil => exact .no _ fun _ _ _ _ _ => rfl
    | cons op ops =>
      cases ops with
      | cons _ _ => exact .no _ fun _ _ _ _ _ => rfl
      | nil =>
        cases rs with
        | nil => exact .no _ fun _ _ _ _ _ => rfl
        | cons r rs =>
          cases rs with
          | nil => exact .cmp l op r p
          | cons _ _ => exact .no _ fun _ _ _ _ _ => rfl
  | IfExp a b d p => exact .no _ fun _ _ _ _ _ => rfl
  | _ => exact .rest _ (fun _ _ _ _ _ => rfl) fun _ _ => rfl

theorem pt_step (hpe : PeOk c G n) (hpt : PtOk c G n) (hpall : PallOk c G n) (hptest : PtestOk c G n) : PtOk c G (n + 1) := by
  intro call R fr P Fl A env own O ρ e r H h s Q E sv hok her
  cases ptC e with
  | neg x p =>
    have h : (bd (pt G n call env.scope.names ρ x) fun b => ok (!b)) = some r := h
    refine isTrue_not ?_
    rcases bd_inv h with ⟨m, hm, rfl⟩ | ⟨b, hm, h⟩
    · exact hpt _ _ _ _ _ _ _ _ _ _ _ _ H hm s _ _ sv (fun _ e => by cases e) her.to
    · cases h
      exact hpt _ _ _ _ _ _ _ _ _ _ _ _ H hm s _ _ sv (fun b' e h' tk hR => by cases e; exact hok _ rfl h' tk hR) .ok
  | bool op vs p => exact hpall _ _ _ _ _ _ _ _ _ _ _ _ _ H h s _ _ sv hok her
  | cmp l op r p =>
    obtain ⟨hm, hh⟩ := hptest _ _ _ _ _ _ _ own O _ _ _ _ _ H h
    exact wpAny_isTrue_Compare1 (hh s _ _ sv (fun b e h' tk hR => wpAny_truthy_bool (hok b e h' tk hR)) her) hm
  | no _ hn => rw [hn] at h; exact absN h
  | rest _ hr he =>
    rw [hr] at h
    refine isTrue_plain ?_ (he _ _)
    rcases bd_inv h with ⟨m, hm, rfl⟩ | ⟨a, hm, h⟩
    · exact hpe _ _ _ _ _ _ _ _ _ _ _ _ H hm s _ _ sv .no her.to
    · refine hpe _ _ _ _ _ _ _ _ _ _ _ _ H hm s _ _ sv (okP_ok fun v h' tk hR hv => ?_) .ok
      split at h
      · cases h
        obtain rfl := Rep.bool_inv hv
        exact wpAny_truthy_bool (hok _ rfl h' tk hR)
      · first | exact absN h | cases h
end
end Mine

-- SxEv6
namespace Mine
open PySem PyProof.Rows

section
variable {c : Cx} {G : Str → Option PV} {n : Nat}

theorem pfmt_step (hpe : PeOk c G n) : PfmtOk c G (n + 1) := by
  intro call R fr P Fl A env own O ρ e r H h s Q E sv hok her
  cases fmtC e with
  | no _ hn => rw [hn] at h; exact absN h
  | str x k p =>
    obtain rfl := Option.some.inj h
    exact Calls.Constant_str (hok.here H ⟨_, rfl⟩ _)
  | fld v p =>
    rw [fq_fld] at h
    obtain ⟨a, hm, h⟩ := bs_inv h
    refine wpAny_FormattedValue_plain (hpe _ _ _ _ _ _ _ _ _ _ _ _ H hm s _ _ sv (okP_ok fun v h' tk hR hv => ?_) .ok)
    have hok' := OkP.shift (t1 := tk) H hR hok
    split at h
    · split at h
      · rename_i hz
        cases h
        obtain ⟨_, rfl⟩ := Rep.str_inv hv
        exact wpAny_formatField_str (OkP.here (s := { s with heap := h', toks := tk }) H hok' ⟨_, rfl⟩ _) (OkP.here (s := { s with heap := h', toks := tk }) H hok' ⟨_, rfl⟩ _) (Nat.le_trans hz lim_size)
      · first | exact absN h | cases h
    · split at h
      · rename_i hz
        cases h
        obtain ⟨_, rfl⟩ := Rep.int_inv hv
        exact wpAny_formatField_int (small_log hz) (OkP.here (s := { s with heap := h', toks := tk }) H hok' ⟨_, rfl⟩ _)
      · first | exact absN h | cases h
    · first | exact absN h | cases h

theorem rangeOf_inv {d : PV} {ds : List PV} (h : rangeOf d = some ds) : ∃ N : Int, d = .int N ∧ 0 ≤ N ∧ N ≤ 10000 ∧ ds = (List.range N.toNat).map fun (k : Nat) => PV.int (k : Int) := by
  unfold rangeOf at h
  split at h
  · split at h
    · rename_i hb
      cases h
      exact ⟨_, rfl, hb.1, hb.2, rfl⟩
    · first | exact absN h | cases h
  · first | exact absN h | cases h

theorem pits_step (hpe : PeOk c G n) : PitsOk c G (n + 1) := by
  intro call R fr P Fl A env own O ρ e r H h
  unfold pits at h
  have hfold : ∀ {e : Expr} {q : Except Str RV}, pe G n call env.scope.names ρ e = some q → ∀ x, foldedSetIterable e env x = pure x := fun {e} {q} hq x => by
    cases peC e <;> first
      | rfl
      | exact pe_no (by assumption) hq
  split at h
  · rename_i a ha
    split at h
    · rename_i hk
      obtain ⟨p0, pos, rfl⟩ := isRange_inv ha
      refine ⟨fun _ => rfl, fun s Q E sv hok her => ?_⟩
      refine wpAny_Call_NameR (staysIn_builtin H (H.pB sv.p) hk H.amb.b_range ?_)
      rcases bd_inv h with ⟨m, hm, rfl⟩ | ⟨x, hm, h⟩
      · exact PyProof.Rows.callWith_type (one_plain hm) (ev_one hpe H hm sv .no her.to)
      · obtain ⟨d, rfl, h⟩ := vd_inv h
        obtain ⟨ds, hds, rfl⟩ := ofOpt_inv h
        refine PyProof.Rows.callWith_type (one_plain hm) (ev_one hpe H hm sv (okP_ok fun v h' tk hR hv => ?_) .ok)
        obtain ⟨N, rfl, hb1, hb2, rfl⟩ := rangeOf_inv hds
        obtain ⟨tN, rfl⟩ := Rep.int_inv hv
        refine call_range_1 ?_
        refine wpAny_pyIter_range (IsRange.new ..) (small_one (by decide) (by decide) (by (first | lia | omega)) (by (first | lia | omega))) ?_
        have hlen : ((List.range N.toNat).map fun (k : Nat) => PV.int (k : Int)).length = N.toNat := by simp
        have hsz : Builtin.Range.rangeSize 0 N 1 = (N.toNat : Int) := by rw [rangeSize_one]; split <;> (first | lia | omega)
        refine hok _ rfl _ _ _ (H.rl.trans hR (H.rl.of_keeps fun b o e => Heap.get?_push_of_some _ (Heap.get?_push_of_some _ e))) ?_
        have hW := Walks.range (prog := c.prog) (w := c.w) (A := A) H.handled (h'.push { cls := .type "range", data := .fields #[.int 0 tk, .int N tN, .int 1 (tk + 1)] }).objs.size 0 1 N.toNat
        refine ⟨_, _, _, _, _, rfl, by rw [hlen]; exact hW, ?_, ?_, ?_, ?_, fun i h st b hb => by rw [List.mem_singleton.mp hb]; exact ⟨_, _, st, rfl⟩⟩
        · show IsRangeIter _ _ _ _ _
          have e1 : (0 + ((0 : Nat) : Int) * 1) = 0 := by simp
          have e2 : ((N.toNat : Int) - ((0 : Nat) : Int)) = Builtin.Range.rangeSize 0 N 1 := by rw [hsz]; simp
          rw [e1, e2]
          exact Heap.get?_push_size _ rfl
        · intro b hb
          rw [List.mem_singleton.mp hb]
          exact ⟨H.rl.fresh hR (by rw [Heap.size_push]; exact Nat.le_succ _), _, _, Heap.get?_push_size _ rfl, rfl⟩
        · intro b hb
          rw [List.mem_singleton.mp hb]
          refine ⟨fun q => ?_, _, Heap.get?_push_size _ rfl, .inl ⟨_, rfl⟩⟩
          have := (sv.step H hR).ot.lt _ q
          rw [Heap.size_push] at this
          exact absurd this (Nat.not_lt.mpr (Nat.le_succ _))
        · rintro i v hi ⟨t, rfl⟩
          rw [hlen] at hi
          refine ⟨.int i, by simp [hi], fun _ _ => ?_⟩
          have : (0 + (i : Int) * 1) = i := by (first | lia | omega)
          rw [this]
          exact Rep.int _ _
    · first | exact absN h | cases h
  · rcases bd_inv h with ⟨m, hm, rfl⟩ | ⟨x, hm, h⟩
    · exact ⟨hfold hm, fun s Q E sv hok her => hpe _ _ _ _ _ _ _ _ _ _ _ _ H hm s _ _ sv .no her.to⟩
    · obtain ⟨ds, hds, rfl⟩ := ofOpt_inv h
      refine ⟨hfold hm, fun s Q E sv hok her => hpe _ _ _ _ _ _ _ _ _ _ _ _ H hm s _ _ sv (okP_ok fun v h' tk hR hv => ?_) .ok⟩
      have sv' := sv.step H hR
      have push : ∀ o, R s.heap (h'.push o) := fun o => H.rl.trans hR (H.rl.of_keeps fun b o e => Heap.get?_push_of_some _ e)
      have newI : h'.objs.size ∉ O := fun q => absurd (sv'.ot.lt _ q) (Nat.lt_irrefl _)
      have freshI : s.heap.get? h'.objs.size = none := H.rl.fresh hR (Nat.le_refl _)
      unfold itemsOf at hds
      split at hds
      · cases hds
        obtain ⟨_, _, _, rfl, ha, l, rr⟩ := Rep.list_inv hv
        · skip
          rename_i ad vs k
          refine wpAny_pyIter_list l.isList ?_
          refine hok _ rfl _ _ _ (push _) ?_
          have hne : ad ≠ h'.objs.size := Nat.ne_of_lt (Heap.lt_size l)
          have hW := Walks.list (prog := c.prog) (w := c.w) (A := A) H.handled h'.objs.size ad hne vs.toArray
          rw [show vs.toArray.size = ds.length from by rw [List.size_toArray, rr.length]] at hW
          refine ⟨_, _, _, _, _, rfl, hW, ⟨⟨_, Heap.get?_push_size _ rfl, rfl, rfl⟩, (l.push _).isList⟩, ?_, ?_, ?_, fun i h st b hb => by rw [List.mem_singleton.mp hb]; obtain ⟨⟨o, e, _, d⟩, _⟩ := st; exact ⟨o, _, e, d⟩⟩
          · intro b hb; rw [List.mem_singleton.mp hb]; exact ⟨freshI, _, _, Heap.get?_push_size _ rfl, rfl⟩
          · intro b hb
            rcases List.mem_cons.mp hb with rfl | hb
            · exact ⟨newI, _, Heap.get?_push_size _ rfl, .inl ⟨_, rfl⟩⟩
            · rw [List.mem_singleton.mp hb]
              exact ⟨ha, _, l.push _, .inr ⟨_, _, rfl⟩⟩
          · intro i v hi hv
            obtain ⟨v', e1, e2⟩ := rr.get (k := i) (d := _) (List.getElem?_eq_getElem hi)
            have : v = v' := by simpa [e1] using hv.symm
            subst this
            exact ⟨_, List.getElem?_eq_getElem hi, fun h'' k => (e2.up (.of_keeps fun b o e => Heap.get?_push_of_some _ e)).up k⟩
      · cases hds
        obtain ⟨_, _, _, rfl, ha, l, rr⟩ := Rep.tup_inv hv
        · skip
          rename_i ad vs k
          refine wpAny_pyIter_tuple ⟨_, l, rfl, _, rfl⟩ ?_
          refine hok _ rfl _ _ _ (push _) ?_
          have hne : ad ≠ h'.objs.size := Nat.ne_of_lt (Heap.lt_size l)
          have hW := Walks.tuple (prog := c.prog) (w := c.w) (A := A) H.handled h'.objs.size ad hne vs.toArray
          rw [show vs.toArray.size = ds.length from by rw [List.size_toArray, rr.length]] at hW
          refine ⟨_, _, _, _, _, rfl, hW, ⟨⟨_, Heap.get?_push_size _ rfl, rfl, rfl⟩, ⟨_, l.push _, rfl, _, rfl⟩⟩, ?_, ?_, ?_, fun i h st b hb => by rw [List.mem_singleton.mp hb]; obtain ⟨⟨o, e, _, d⟩, _⟩ := st; exact ⟨o, _, e, d⟩⟩
          · intro b hb; rw [List.mem_singleton.mp hb]; exact ⟨freshI, _, _, Heap.get?_push_size _ rfl, rfl⟩
          · intro b hb
            rcases List.mem_cons.mp hb with rfl | hb
            · exact ⟨newI, _, Heap.get?_push_size _ rfl, .inl ⟨_, rfl⟩⟩
            · rw [List.mem_singleton.mp hb]
              exact ⟨ha, _, l.push _, .inr ⟨_, _, rfl⟩⟩
          · intro i v hi hv
            obtain ⟨v', e1, e2⟩ := rr.get (k := i) (d := _) (List.getElem?_eq_getElem hi)
            have : v = v' := by simpa [e1] using hv.symm
            subst this
            exact ⟨_, List.getElem?_eq_getElem hi, fun h'' k => (e2.up (.of_keeps fun b o e => Heap.get?_push_of_some _ e)).up k⟩
      · rename_i x
        cases hds
        cases hv
        have hlen : (x.cps.toList.map fun cp => PV.str ⟨#[cp]⟩).length = x.cps.size := by simp
        have fin : ∀ (T : String) (t : Tok) (St : Nat → Heap → Prop), Walks c.prog c.w A h'.objs.size [h'.objs.size] [h'.objs.size] x.cps.size (SignAt x) St →
            St 0 (h'.push { cls := .type T, data := .fields #[.str x t, .int 0 0] }) → (∀ i h, St i h → ∃ o vs, h.get? h'.objs.size = some o ∧ o.data = .fields vs) → Q (.ref h'.objs.size) { s with heap := h'.push { cls := .type T, data := .fields #[.str x t, .int 0 0] }, toks := tk } := fun T t St hW hst hkk => by
          refine hok _ rfl _ _ _ (push _) ?_
          refine ⟨_, _, _, _, _, rfl, by rw [hlen]; exact hW, hst, ?_, ?_, ?_, fun i h st b hb => by rw [List.mem_singleton.mp hb]; exact hkk i h st⟩
          · intro b hb; rw [List.mem_singleton.mp hb]; exact ⟨freshI, _, _, Heap.get?_push_size _ rfl, rfl⟩
          · intro b hb
            rw [List.mem_singleton.mp hb]
            exact ⟨newI, _, Heap.get?_push_size _ rfl, .inl ⟨_, rfl⟩⟩
          · rintro i v hi ⟨cp, u, hcp, rfl⟩
            exact ⟨.str ⟨#[cp]⟩, by simp [hcp], fun _ _ => Rep.str _ _⟩
        cases ha : x.cps.all (· < 128)
        · exact wpAny_pyIter_wide ha (fin _ _ _ (Walks.strWide H.handled _ x _) ⟨_, Heap.get?_push_size _ rfl, rfl, rfl⟩ fun i h ⟨o, e, _, d⟩ => ⟨o, _, e, d⟩)
        · exact wpAny_pyIter_ascii ha (fin _ _ _ (Walks.strAscii H.handled _ x _) ⟨_, Heap.get?_push_size _ rfl, rfl, rfl⟩ fun i h ⟨o, e, _, d⟩ => ⟨o, _, e, d⟩)
      · first | exact absN hds | cases hds
end
end Mine

-- SxEv7
namespace Mine
open PySem PyProof.Rows

section
variable {c : Cx} {O : List Addr} {h : Heap}

theorem str_uniq {v : Value} {d d' : PV} (x : Rep c O h v d) (x' : Rep c O h v d') (h1 : isStr d = true) (h2 : isStr d' = true) : d = d' := by
  cases d <;> first | exact Bool.noConfusion h1 | skip
  cases d' <;> first | exact Bool.noConfusion h2 | skip
  cases x
  cases x'
  rfl
theorem strs_uniq {vs : List Value} {ds ds' : List PV} (x : Reps c O h vs ds) (x' : Reps c O h vs ds') (h1 : ds.all isStr = true) (h2 : ds'.all isStr = true) : ds = ds' := by
  induction vs generalizing ds ds' with
  | nil => cases x; cases x'; rfl
  | cons v vs ih =>
    cases x with
    | cons y r =>
      cases x' with
      | cons y' r' =>
        simp only [List.all_cons, Bool.and_eq_true] at h1 h2
        rw [ih r r' h1.2 h2.2, str_uniq y y' h1.1 h2.1]
theorem simple_uniq {v : Value} {d d' : PV} (x : Rep c O h v d) (x' : Rep c O h v d') (h1 : simple d = true) (h2 : simple d' = true) : d = d' := by
  cases x with
  | int i t => cases x'; rfl
  | str y t => cases x'; rfl
  | tup ha l r =>
    cases x' with
    | tup ha' l' r' =>
      have e := Option.some.inj ((show _ = _ from l).symm.trans l')
      injection e with _ _ e _
      injection e with e _
      have e : _ = _ := congrArg Array.toList e
      simp only at e
      subst e
      rw [strs_uniq r r' h1 h2]
    | list ha' l' r' =>
      have e := Option.some.inj ((show _ = _ from l).symm.trans l')
      injection e with e _ _ _
      injection e with e
      exact absurd e (by decide)
    | sdict _ => cases h2
  | _ => cases h1

theorem filt_inv {T : PV → M Bool} {F : PV → M PV} : ∀ {ds out : List PV}, filt T F ds = some (.ok out) → ∀ d ∈ ds, ∃ b, T d = some (.ok b) ∧ (b = true → ∃ e, F d = some (.ok e))
  | d :: ds, out, h, d', hd => by
    simp only [filt] at h
    obtain ⟨b, hb, h⟩ := bs_inv h
    cases b with
    | true =>
      simp only [if_true] at h
      obtain ⟨a, ha, h⟩ := bs_inv h
      obtain ⟨as, has, h⟩ := bs_inv h
      rcases List.mem_cons.mp hd with rfl | hd
      · exact ⟨true, hb, fun _ => ⟨a, ha⟩⟩
      · exact filt_inv has d' hd
    | false =>
      simp only [Bool.false_eq_true, if_false] at h
      rcases List.mem_cons.mp hd with rfl | hd
      · exact ⟨false, hb, fun q => by cases q⟩
      · exact filt_inv h d' hd

/-- the test of a comprehension as a test of the value -/
noncomputable def holdsAt (c : Cx) (O : List Addr) (h : Heap) (T : PV → M Bool) (v : Value) : Bool :=
  @decide (∃ d, simple d = true ∧ Rep c O h v d ∧ T d = some (.ok true)) (Classical.propDecidable _)
theorem holdsAt_eq {T : PV → M Bool} {v : Value} {d : PV} {b : Bool} (x : Rep c O h v d) (hs : simple d = true) (hT : T d = some (.ok b)) : holdsAt c O h T v = b := by
  unfold holdsAt
  cases b with
  | true => exact @decide_eq_true _ (Classical.propDecidable _) ⟨d, hs, x, hT⟩
  | false =>
    refine @decide_eq_false _ (Classical.propDecidable _) ?_
    rintro ⟨d', hs', x', hT'⟩
    rw [simple_uniq x' x hs' hs, hT] at hT'
    cases hT'
noncomputable def GivesAt (c : Cx) (O : List Addr) (h : Heap) (F : PV → M PV) (v y : Value) : Prop := ∃ d e, simple d = true ∧ Rep c O h v d ∧ F d = some (.ok e) ∧ Rep c O h y e

theorem paired_reps {T : PV → M Bool} {F : PV → M PV} : ∀ {vs ys : List Value} {ds out : List PV}, Reps c O h vs ds → ds.all simple = true → filt T F ds = some (.ok out) → Paired (GivesAt c O h F) (vs.filter (holdsAt c O h T)) ys → Reps c O h ys out
  | _, ys, _, out, .nil, _, hf, hp => by
    cases hf
    cases hp
    exact .nil
  | _, ys, d :: ds, out, .cons x r, hs, hf, hp => by
    simp only [List.all_cons, Bool.and_eq_true] at hs
    simp only [filt] at hf
    obtain ⟨b, hb, hf⟩ := bs_inv hf
    rw [List.filter_cons, holdsAt_eq x hs.1 hb] at hp
    cases b with
    | true =>
      simp only [if_true] at hf hp
      obtain ⟨a, ha, hf⟩ := bs_inv hf
      obtain ⟨as, has, hf⟩ := bs_inv hf
      cases hf
      cases hp with
      | cons hg hp =>
        obtain ⟨d', e, hs', x', hF, hy⟩ := hg
        rw [simple_uniq x' x hs' hs.1, ha] at hF
        cases hF
        exact .cons hy (paired_reps r hs.2 has hp)
    | false =>
      simp only [Bool.false_eq_true, if_false] at hf hp
      exact paired_reps r hs.2 hf hp
end

theorem closure_two {scope : Scope} {env : Env} {a b : Str} (h : scope.names = [(a, .local), (b, .local)]) : closureFor scope env = pure [] := by
  unfold closureFor; rw [h]; rfl
theorem closure_three {scope : Scope} {env : Env} {a b p : Str} {k : Addr} (h : scope.names = [(a, .local), (b, .local), (p, .free)]) (hc : env.cells.lookup p = some k) : closureFor scope env = pure [(p, k)] := by
  unfold closureFor cellOf
  rw [h]
  simp [hc, forIn, ForIn.forIn]

theorem relab_eq {scope : Scope} {env : Env} (hk : env.scope.kind = .function) : (relabel scope env).names = relab scope.names env.scope.names := by
  unfold relabel relab
  refine List.map_congr_left fun p _ => ?_
  obtain ⟨n, k⟩ := p
  simp [hk, Env.kindOf]

theorem compScope_inv {csc sc : Names} {t : Str} (h : compScopeOk csc sc t = true) : t ≠ (".0" : Str) ∧ (csc = [((".0" : Str), .local), (t, .local)] ∨
    ∃ p, csc = [((".0" : Str), .local), (t, .local), (p, .free)] ∧ p ≠ t ∧ p ≠ (".0" : Str) ∧ sc.lookup p = some .cell) := by
  unfold compScopeOk at h
  split at h
  · simp only [Bool.and_eq_true, beq_iff_eq, bne_iff_ne] at h
    obtain ⟨⟨rfl, rfl⟩, h3⟩ := h
    exact ⟨h3, .inl rfl⟩
  · simp only [Bool.and_eq_true, beq_iff_eq, bne_iff_ne] at h
    obtain ⟨⟨⟨⟨⟨rfl, rfl⟩, h3⟩, h4⟩, h5⟩, h6⟩ := h
    exact ⟨h3, .inr ⟨_, rfl, h4, h5, h6⟩⟩
  · first | exact absN h | cases h

/-- what the rule for a comprehension asks of its table -/
structure CompTab (c : Cx) (O : List Addr) (env : Env) (ρ : Loc) (csc : Scope) (t : Str) (cl : List (Str × Addr)) : Prop where
  clos : closureFor csc env = pure cl
  cell : ∀ y ∈ csc.names, y.2 ≠ .cell
  names : ∀ y ∈ csc.names, y.2 = .local → csc.names.lookup y.1 = some .local
  x : csc.names.lookup t = some .local
  vars : ∀ {own : List (Str × Addr)} {h : Heap} {C : Addr} {m : Str → Option Value} {v : Value} {d : PV}, Vars c O own env ρ h → h.Ns C m → m t = some v → Rep c O h v d →
    Vars c O [] (compEnvC csc cl C env) (compLoc (relab csc.names env.scope.names) ρ t d) h

theorem compTab {c : Cx} {O : List Addr} {own : List (Str × Addr)} {env : Env} {ρ : Loc} {csc : Scope} {t : Str} {h : Heap} (hk : env.scope.kind = .function) (hs : compScopeOk csc.names env.scope.names t = true) (V : Vars c O own env ρ h) :
    ∃ cl, CompTab c O env ρ csc t cl := by
  obtain ⟨h0, hn | ⟨p, hn, h1, h2, h3⟩⟩ := compScope_inv hs
  · have hr : relab csc.names env.scope.names = [((".0" : Str), .local), (t, .local)] := by rw [hn]; rfl
    refine ⟨[], closure_two hn, ?_, ?_, ?_, ?_⟩
    · rw [hn]; intro y hy; simp at hy; rcases hy with rfl | rfl <;> simp
    · rw [hn]; intro y hy _; simp at hy
      rcases hy with rfl | rfl
      · simp
      · (simp only [List.lookup_cons, beq_self_eq_true]; split <;> rfl)
    · rw [hn]; (simp only [List.lookup_cons, beq_self_eq_true]; split <;> rfl)
    · intro own h C m v d V hnC hmt hv
      have hkind : ∀ y, (compEnvC csc [] C env).kindOf y = [((".0" : Str), NameKind.local), (t, .local)].lookup y := fun y => by
        show (relabel csc env).names.lookup y = _
        rw [relab_eq hk, hr]
      refine ⟨⟨m, hnC, fun y sl hy hρ => ?_⟩, fun y sl hy hρ => ?_, fun y hy => ?_⟩
      · unfold compLoc at hρ
        split at hρ
        · rename_i e; subst e; cases hρ; exact ⟨v, hmt, hv⟩
        · split at hρ
          · rename_i q
            rw [hr] at q
            rw [hkind] at hy
            (first | exact absN ((hy).symm.trans q) | (rw [hy] at q; cases q))
          · first | exact absN hρ | cases hρ
      · rw [hkind] at hy
        simp only [List.lookup_cons, List.lookup_nil] at hy
        rcases hy with hy | hy <;> (split at hy <;> first | cases hy | (split at hy <;> cases hy))
      · rw [hkind] at hy
        simp only [List.lookup_cons, List.lookup_nil] at hy
        split at hy <;> first | cases hy | (split at hy <;> cases hy)
  · have hr : relab csc.names env.scope.names = [((".0" : Str), .local), (t, .local), (p, .cell)] := by rw [hn]; simp [relab, h3]
    obtain ⟨k, v0, hk0, hi0⟩ := V.there p h3
    refine ⟨[(p, k)], closure_three hn hk0, ?_, ?_, ?_, ?_⟩
    · rw [hn]; intro y hy; simp at hy; rcases hy with rfl | rfl | rfl <;> simp
    · rw [hn]; intro y hy hl; simp at hy
      rcases hy with rfl | rfl | rfl
      · simp
      · (simp only [List.lookup_cons, beq_self_eq_true]; split <;> rfl)
      · first | exact absN hl | cases hl
    · rw [hn]; (simp only [List.lookup_cons, beq_self_eq_true]; split <;> rfl)
    · intro own h C m v d V hnC hmt hv
      obtain ⟨k', v1, hk1, hi1⟩ := V.there p h3
      have hkk : k' = k := by rw [hk0] at hk1; exact (Option.some.inj hk1).symm
      subst hkk
      have hkind : ∀ y, (compEnvC csc [(p, k')] C env).kindOf y = [((".0" : Str), NameKind.local), (t, .local), (p, .cell)].lookup y := fun y => by
        show (relabel csc env).names.lookup y = _
        rw [relab_eq hk, hr]
      have cellOnly : ∀ y, [((".0" : Str), NameKind.local), (t, .local), (p, .cell)].lookup y = some .cell → y = p := fun y hy => by
        simp only [List.lookup_cons, List.lookup_nil] at hy
        split at hy
        · first | exact absN hy | cases hy
        · split at hy
          · first | exact absN hy | cases hy
          · split at hy
            · rename_i q; exact beq_iff_eq.mp q
            · first | exact absN hy | cases hy
      have noFree : ∀ y, [((".0" : Str), NameKind.local), (t, .local), (p, .cell)].lookup y ≠ some .free := fun y hy => by
        simp only [List.lookup_cons, List.lookup_nil] at hy
        split at hy
        · first | exact absN hy | cases hy
        · split at hy
          · first | exact absN hy | cases hy
          · split at hy <;> cases hy
      refine ⟨⟨m, hnC, fun y sl hy hρ => ?_⟩, fun y sl hy hρ => ?_, fun y hy => ?_⟩
      · unfold compLoc at hρ
        split at hρ
        · rename_i e; subst e; cases hρ; exact ⟨v, hmt, hv⟩
        · split at hρ
          · rename_i q
            rw [hr] at q
            rw [hkind] at hy
            (first | exact absN ((hy).symm.trans q) | (rw [hy] at q; cases q))
          · first | exact absN hρ | cases hρ
      · rw [hkind] at hy
        rcases hy with hy | hy
        · have e := cellOnly y hy
          subst e
          unfold compLoc at hρ
          rw [if_neg h1, hr, if_pos hy] at hρ
          obtain ⟨d', cl, v', e1, e2, e3, e4⟩ := V.cells y sl (.inl h3) hρ
          refine ⟨d', cl, v', e1, ?_, e3, e4⟩
          rw [hk0] at e2
          cases e2
          show [(y, k')].lookup y = _
          simp
        · exact absurd hy (noFree y)
      · rw [hkind] at hy
        have e := cellOnly y hy
        subst e
        exact ⟨k', v1, by show [(y, k')].lookup y = _; simp, hi1⟩

end Mine

-- SxEv8
namespace Mine
open PySem PyProof.Rows

section
variable {c : Cx} {G : Str → Option PV} {n : Nat} {call : Calls} {R : Heap → Heap → Prop} {fr : List Addr} {P : Heap → Prop} {Fl : Heap → Str → Value → Heap → Prop} {A : Around} {env : Env}
  {O : List Addr} {own : List (Str × Addr)} {ρ : Loc}

/-- a comprehension's block has no call and no raise -/
theorem hy_comp {csc : Scope} {cl : List (Str × Addr)} {C : Addr} (H : Hy c G call R fr P Fl A env) (hk : csc.kind = .function) :
    Hy c G noCall KeepsR [] (fun h => c.base.StaysIn h) (fun _ _ _ _ => False) A (compEnvC csc cl C env) where
  amb := H.amb
  rl := rl_keeps []
  pR := fun p k b o e => k b o (p b o e)
  pB := fun p => p
  flR := fun _ x => x
  call := fun _ _ _ _ h => by cases h
  kind := hk
  globals := H.globals
  builtins := H.builtins
  handled := H.handled
  units := H.units

noncomputable def compT (G : Str → Option PV) (n : Nat) (nm : Names) (ρ : Loc) (t : Str) (ifs : List Expr) (d : PV) : M Bool := evTests (pt G n noCall nm (compLoc nm ρ t d)) ifs
noncomputable def compF (G : Str → Option PV) (n : Nat) (nm : Names) (ρ : Loc) (t : Str) (elt : Expr) (d : PV) : M PV := bs (pe G n noCall nm (compLoc nm ρ t d) elt) fun r => vd r fun e => if simpleElt elt t e then ok e else none

theorem pe_target {nm : Names} {t : Str} {p : Pos} {d : PV} {r : Except Str RV} (hx : nm.lookup t = some .local) (h : pe G n noCall nm (compLoc nm ρ t d) (.Name t p) = some r) : oddName t = false ∧ r = .ok (.val d) := by
  cases n with
  | zero => exact absN (show none = some _ from h)
  | succ n =>
    rw [pq_name, hx] at h
    have e : compLoc nm ρ t d t = some (.val d) := by unfold compLoc; rw [if_pos rfl]
    rw [e] at h
    split at h
    · first | exact absN h | cases h
    · rename_i q
      simp only [bound, if_true] at h
      cases h
      exact ⟨by simpa using q, rfl⟩

theorem Vars.move {h h' : Heap} (kn : ∀ b o, h.get? b = some o → (∀ vs, o.data ≠ .fields vs) → h'.get? b = some o) (x : Vars c O own env ρ h) : Vars c O own env ρ h' := by
  have up : ∀ O, UpSeq O h h' := fun O a o vs k _ e hd => kn a o e fun ws q => by (first | exact absN ((hd).symm.trans q) | (rw [hd] at q; cases q))
  have cell : ∀ {cl v}, h.IsCell cl v → h'.IsCell cl v := fun ⟨o, e, hd⟩ => ⟨o, kn _ o e (fun ws q => by (first | exact absN ((hd).symm.trans q) | (rw [hd] at q; cases q))), hd⟩
  obtain ⟨⟨m, hn, hm⟩, hc, ht⟩ := x
  refine ⟨⟨m, ?_, fun x sl hk hx => ?_⟩, fun x sl hk hx => ?_, fun x hk => let ⟨cl, v, e, i⟩ := ht x hk; ⟨cl, v, e, cell i⟩⟩
  · obtain ⟨o, es, ep, e, hd, r⟩ := hn
    exact ⟨o, es, ep, kn _ o e (fun ws q => by (first | exact absN ((hd).symm.trans q) | (rw [hd] at q; cases q))), hd, r⟩
  · obtain ⟨v, e, r⟩ := hm x sl hk hx
    refine ⟨v, e, ?_⟩
    cases sl with
    | val d => exact Rep.up (up _) r
    | own ds =>
      obtain ⟨a, e1, e2, ha, vs, k, e3, r⟩ := r
      exact ⟨a, e1, e2, ha, vs, k, kn _ _ e3 (fun ws q => by cases q), r.up (up _)⟩
  · obtain ⟨d, cl, v, e1, e2, e3, e4⟩ := hc x sl hk hx
    exact ⟨d, cl, v, e1, e2, cell e3, e4.up (up _)⟩

theorem comp_quiet {csc : Scope} {t : Str} {cl : List (Str × Addr)} {ifs : List Expr} {elt : Expr} {h₀ : Heap} {s₂ : Shared} {ds out : List PV} {wr : List Addr} {Pv : Nat → Value → Prop}
    (hpe : PeOk c G n) (hpt : PtOk c G n) (H : Hy c G call R fr P Fl A env) (hk : csc.kind = .function) (tab : CompTab c O env ρ csc t cl) (hb₀ : c.base.StaysIn h₀) (sv : Sv c O own env ρ fr P s₂.heap)
    (hwr : ∀ b ∈ wr, h₀.get? b = none ∧ ∃ o vs, s₂.heap.get? b = some o ∧ o.data = .fields vs)
    (hP : ∀ i v, i < ds.length → Pv i v → ∃ d, ds[i]? = some d ∧ ∀ h'', UpSeq O s₂.heap h'' → Rep c O h'' v d) (hsimple : ds.all simple = true)
    (hf : filt (compT G n (relab csc.names env.scope.names) ρ t ifs) (compF G n (relab csc.names env.scope.names) ρ t elt) ds = some (.ok out)) :
    QuietOnC c.prog c.w A env csc cl t ifs elt wr (fun i v => i < ds.length ∧ Pv i v) (holdsAt c O s₂.heap (compT G n (relab csc.names env.scope.names) ρ t ifs)) (GivesAt c O s₂.heap (compF G n (relab csc.names env.scope.names) ρ t elt)) s₂ := by
  have keep : ∀ {s₃ : Shared}, (∀ b o, b ∉ wr → s₂.heap.get? b = some o → s₃.heap.get? b = some o) → ∀ b o, s₂.heap.get? b = some o → (∀ vs, o.data ≠ .fields vs) → s₃.heap.get? b = some o := fun hk b o e hd => by
    refine hk b o (fun hb => ?_) e
    obtain ⟨_, o', vs, e', hd'⟩ := hwr b hb
    (first | exact absN ((e).symm.trans e') | (rw [e] at e'; cases e'))
    exact hd vs hd'
  have up : ∀ {s₃ : Shared}, (∀ b o, b ∉ wr → s₂.heap.get? b = some o → s₃.heap.get? b = some o) → UpSeq O s₂.heap s₃.heap := fun hk a o vs k _ e hd => keep hk a o e fun ws q => by (first | exact absN ((hd).symm.trans q) | (rw [hd] at q; cases q))
  have state : ∀ {C : Addr} {s₃ : Shared} {m₃ : Str → Option Value} {v : Value} {d : PV}, s₃.heap.Ns C m₃ → m₃ t = some v → Rep c O s₃.heap v d → (∀ b o, b ∉ wr → s₂.heap.get? b = some o → s₃.heap.get? b = some o) →
      Sv c O [] (compEnvC csc cl C env) (compLoc (relab csc.names env.scope.names) ρ t d) [] (fun h => c.base.StaysIn h) s₃.heap := fun {C s₃ m₃ v d} hn hm hv hkk => by
    have hbase : c.base.StaysIn s₃.heap := fun b o e => hkk b o (fun hb => by have := hb₀ b o e; (first | exact absN (((hwr b hb).1).symm.trans this) | (rw [(hwr b hb).1] at this; cases this))) (H.pB sv.p b o e)
    refine ⟨hbase, tab.vars (sv.vars.move (keep hkk)) hn hm hv, fun a ha => ?_⟩
    obtain ⟨_, h2, o, vs, k, e, hd⟩ := sv.ot a ha
    exact ⟨(fun q => nomatch q), h2, o, vs, k, keep hkk a o e (fun ws q => by (first | exact absN ((hd).symm.trans q) | (rw [hd] at q; cases q))), hd⟩
  have names : ∀ C, (compEnvC csc cl C env).scope.names = relab csc.names env.scope.names := fun C => relab_eq H.kind
  refine ⟨fun C i v s₃ m₃ E' hC hp hn hm hkk _ => ?_, fun C i v s₃ m₃ E' hC hp hpv hn hm hkk _ => ?_⟩
  · obtain ⟨d, hd, hv⟩ := hP i v hp.1 hp.2
    have hmem : d ∈ ds := List.mem_of_getElem? hd
    have hs : simple d = true := List.all_eq_true.mp hsimple d hmem
    obtain ⟨b, hb, _⟩ := filt_inv hf d hmem
    rw [holdsAt_eq (hv _ fun _ _ _ _ _ e _ => e) hs hb]
    have S := state hn hm (hv _ (up hkk)) hkk
    unfold compT evTests at hb
    split at hb
    · cases hb
      exact wpAny_pure ⟨rfl, s₃.heap, s₃.toks, rfl, fun _ _ e => e⟩
    · rename_i e
      simp only [List.forIn_cons, List.forIn_nil, if_true, bind_assoc, pure_bind]
      refine wpAny_bind (hpt _ _ _ _ _ A _ [] O _ e _ (hy_comp (cl := cl) (C := C) H hk) (by rw [names]; exact hb) s₃ _ _ S (fun b' e' h' tk hR => ?_) ErP.ok)
      cases e'
      exact wpAny_pure ⟨rfl, h', tk, rfl, hR⟩
    · first | exact absN hb | cases hb
  · obtain ⟨d, hd, hv⟩ := hP i v hp.1 hp.2
    have hmem : d ∈ ds := List.mem_of_getElem? hd
    have hs : simple d = true := List.all_eq_true.mp hsimple d hmem
    obtain ⟨b, hb, hF⟩ := filt_inv hf d hmem
    have hv₂ := hv s₂.heap fun _ _ _ _ _ e _ => e
    rw [holdsAt_eq hv₂ hs hb] at hpv
    obtain ⟨e, hF⟩ := hF hpv
    have S := state hn hm (hv _ (up hkk)) hkk
    have hF' := hF
    unfold compF at hF
    obtain ⟨rv, hrv, hF⟩ := bs_inv hF
    obtain ⟨e', he', hF2⟩ := vd_inv hF
    subst he'
    split at hF2
    · rename_i hse
      cases hF2
      have hgoal : ∀ (y : Value) (s₄ : Shared), Keeps s₃ s₄ → Rep c O s₂.heap y e → (GivesAt c O s₂.heap (compF G n (relab csc.names env.scope.names) ρ t elt) v y ∧ Keeps s₃ s₄) := fun y s₄ hk4 hy => ⟨⟨d, e, hs, hv₂, hF', hy⟩, hk4⟩
      by_cases hname : nameOf elt = some t
      · obtain ⟨p, rfl⟩ := name_inv hname
        have hl := lookup_relabel_local (env := env) tab.x
        obtain ⟨hodd, hr⟩ := pe_target (by rw [← names C]; exact hl) hrv
        cases hr
        obtain ⟨hdb, hcd⟩ := odd_inv (by rw [hodd]; decide)
        exact wpAny_Name (wpAny_loadName_local hk hl hn hm (hgoal v s₃ ⟨s₃.heap, s₃.toks, rfl, fun _ _ e => e⟩ hv₂)) hdb
      · refine hpe _ _ _ _ _ A _ [] O _ elt _ (hy_comp (cl := cl) (C := C) H hk) (by rw [names]; exact hrv) s₃ _ _ S (fun a e2 y h' tk hR hy => ?_) ErP.ok
        cases e2
        refine hgoal y _ ⟨h', tk, rfl, hR⟩ ?_
        unfold simpleElt at hse
        split at hse
        · obtain ⟨_, rfl⟩ := Rep.int_inv hy; exact .int _ _
        · obtain ⟨_, rfl⟩ := Rep.str_inv hy; exact .str _ _
        · exact absurd (beq_iff_eq.mp hse) hname
    · first | exact absN hF2 | cases hF2
end
end Mine

-- SxEv9
namespace Mine
open PySem PyProof.Rows

section
variable {prog : Program} {w : World} {A : Around} {E : Value → Shared → Prop} {env : Env}
/-- a comprehension whose test and item are told once its source is there -/
theorem lc_expr {s : Shared} {elt iter : Expr} {x : Str} {px : Pos} {ifs : List Expr} {scope : Scope} {cl : List (Str × Addr)} {pos : Pos} {Q : Value → Shared → Prop}
    (hclos : closureFor scope env = pure cl) (hcell : ∀ y ∈ scope.names, y.2 ≠ .cell) (hkind : scope.kind = .function)
    (hnames : ∀ y ∈ scope.names, y.2 = .local → scope.names.lookup y.1 = some .local) (hx : scope.names.lookup x = some .local)
    (h : wpAny (model prog w) A (eval iter env) (fun xv s₁ => wpAny (model prog w) A (pyIter xv) (fun it s₂ => ∃ I fp wr n P St p F, it = .ref I ∧ Walks prog w A I fp wr n P St ∧ n ≤ sizeLine ∧ St 0 s₂.heap ∧ (∀ b ∈ fp, b < s₂.heap.objs.size) ∧
      QuietOnC prog w A env scope cl x ifs elt wr P p F s₂ ∧
      (∀ D h' tk ys (vs : List Value), s₂.heap.get? D = none → h'.PlainList D ys → vs.length = n → (∀ j v, vs[j]? = some v → P j v) → Paired F (vs.filter p) ys.toList →
        (∀ b o, b ∉ wr → s₂.heap.get? b = some o → h'.get? b = some o) → Q (.ref D) { s₂ with heap := h', toks := tk })) E s₁) E s)
    (hs : ∀ x, foldedSetIterable iter env x = pure x) :
    wpAny (model prog w) A (eval (.ListComp elt [⟨.Name x px, iter, ifs, 0⟩] scope pos) env) Q E s := by
  rw [eval_ListComp]
  refine wpAny_comprehension_free (use := none) rfl hs hclos hkind hnames (wpAny_mono h (fun xv s₁ h₁ => wpAny_mono h₁ (fun it s₂ h₂ => ?_) fun _ _ e => e) fun _ _ e => e)
  obtain ⟨I, fp, wr, n, P, St, p, F, rfl, W, hsz, hst, hfp, hq, hQ⟩ := h₂
  refine comp_block_walkC (RR := fun acc C => compPost (model prog w) A E none Q acc C) W hsz p F hcell hkind hx hst hfp hq ?_
  intro D C h' tk m' ys vs hD hC hDC hn _ hpl hlen hP hF hk
  exact ⟨m', hn, fun h'' hs'' => hQ D h'' tk ys vs hD (hpl.extBut hs''.extBut hDC) hlen hP hF fun b o hbf e => hs''.extBut b o (by rintro rfl; (first | exact absN ((hC).symm.trans e) | (rw [hC] at e; cases e))) (hk b o hbf e)⟩

theorem lc_assign {s : Shared} {elt iter : Expr} {x y : Str} {px py : Pos} {ifs : List Expr} {scope : Scope} {cl : List (Str × Addr)} {pos spos : Pos} {Q : Flow → Shared → Prop}
    (hsw : swapsWith (.ListComp elt [⟨.Name x px, iter, ifs, 0⟩] scope pos) (some (.Name y py)) spos.line env = pure true)
    (hclos : closureFor scope env = pure cl) (hcell : ∀ z ∈ scope.names, z.2 ≠ .cell) (hkind : scope.kind = .function)
    (hnames : ∀ z ∈ scope.names, z.2 = .local → scope.names.lookup z.1 = some .local) (hx : scope.names.lookup x = some .local)
    (hy : env.kindOf y = some .local) (hp : (env.scope.kind == .class || (env.scope.kind == .module && env.locals != env.globals)) = false)
    (h : wpAny (model prog w) A (eval iter env) (fun xv s₁ => wpAny (model prog w) A (pyIter xv) (fun it s₂ => ∃ I fp wr n P St p F, it = .ref I ∧ Walks prog w A I fp wr n P St ∧ n ≤ sizeLine ∧ St 0 s₂.heap ∧ (∀ b ∈ fp, b < s₂.heap.objs.size) ∧
      QuietOnC prog w A env scope cl x ifs elt wr P p F s₂ ∧ ∃ m, env.locals ∉ wr ∧ s₂.heap.Ns env.locals m ∧
      (∀ D h' tk ys (vs : List Value), s₂.heap.get? D = none → h'.PlainList D ys → vs.length = n → (∀ j v, vs[j]? = some v → P j v) → Paired F (vs.filter p) ys.toList →
        h'.Ns env.locals (fun z => if z = y then some (.ref D) else m z) → (∀ b o, b ≠ env.locals → b ∉ wr → s₂.heap.get? b = some o → h'.get? b = some o) → Q .next { s₂ with heap := h', toks := tk })) E s₁) E s)
    (hs : ∀ x, foldedSetIterable iter env x = pure x) :
    wpAny (model prog w) A (exec (.Assign [.Name y py] (.ListComp elt [⟨.Name x px, iter, ifs, 0⟩] scope pos) spos) env) Q E s := by
  rw [exec_Assign_Name_used _ _ _ _ hsw]
  refine wpAny_bind (wpAny_standAt (wpAny_bind ?_))
  show wpAny _ A (do let _ ← comprehension (.ListComp elt [⟨.Name x px, iter, ifs, 0⟩] scope pos) scope env _ (newList []) false (eval iter env) (some (assign (.Name y py) env))) _ _ s
  refine wpAny_bind (wpAny_mono (wpAny_comprehension_free (use := some (assign (.Name y py) env)) (Q := fun _ s' => Q .next s') rfl hs hclos hkind hnames
    (wpAny_mono h (fun xv s₁ h₁ => wpAny_mono h₁ (fun it s₂ h₂ => ?_) fun _ _ e => e) fun _ _ e => e)) (fun _ s' hq => wpAny_pure (wpAny_pure hq)) fun _ _ e => e)
  obtain ⟨I, fp, wr, n, P, St, p, F, rfl, W, hsz, hst, hfp, hq, m, hLf, hn, hQ⟩ := h₂
  refine comp_block_walkC (RR := fun acc C => compPost (model prog w) A E (some (assign (.Name y py) env)) (fun _ s' => Q .next s') acc C) W hsz p F hcell hkind hx hst hfp hq ?_
  intro D C h' tk m' ys vs hD hC hDC hnC _ hplD hlen hP hF hk
  have hLC : env.locals ≠ C := by rintro rfl; obtain ⟨o, _, _, ho, _⟩ := hn; (first | exact absN ((hC).symm.trans ho) | (rw [hC] at ho; cases ho))
  have hLD : env.locals ≠ D := by rintro rfl; obtain ⟨o, _, _, ho, _⟩ := hn; (first | exact absN ((hD).symm.trans ho) | (rw [hD] at ho; cases ho))
  show wpAny _ A (assign (.Name y py) env (.ref D)) _ _ _
  refine wpAny_assign_Name (wpAny_storeName_local hy (hn.at' fun o e => hk _ o hLf e) (fun h₂ hn₂ hs₂ => ?_) hp)
  refine ⟨m', hnC.sameBut hs₂ (Ne.symm hLC), fun h₃ hs₃ => ?_⟩
  exact hQ D h₃ _ ys vs hD ((hplD.extBut hs₂.extBut (Ne.symm hLD)).extBut hs₃.extBut hDC) hlen hP hF (hn₂.sameBut hs₃ hLC) fun b o hbL hbf e =>
    hs₃.extBut b o (by rintro rfl; (first | exact absN ((hC).symm.trans e) | (rw [hC] at e; cases e))) (hs₂.extBut b o hbL (hk b o hbf e))
end

section
variable {c : Cx} {G : Str → Option PV} {n : Nat} {call : Calls} {R : Heap → Heap → Prop} {fr : List Addr} {P : Heap → Prop} {Fl : Heap → Str → Value → Heap → Prop} {A : Around} {env : Env}
  {O : List Addr} {own : List (Str × Addr)} {ρ : Loc} {s : Shared} {E : Value → Shared → Prop}

/-- the comprehension's value -/
noncomputable def compM (G : Str → Option PV) (n : Nat) (call : Calls) (sc : Names) (ρ : Loc) (elt it : Expr) (ifs : List Expr) (t : Str) (csc : Names) : M (List PV) :=
  bd (pits G n call sc ρ it) fun ds => if ds.all simple ∧ ds.length ≤ lim then bs (filt (compT G n (relab csc sc) ρ t ifs) (compF G n (relab csc sc) ρ t elt) ds) fun out => ok out else none

theorem places_reps {h : Heap} {ds : List PV} {Pv : Nat → Value → Prop} : ∀ {vs : List Value} {k : Nat}, vs.length + k = ds.length → (∀ j v, vs[j]? = some v → Pv (j + k) v) → (∀ i v, i < ds.length → Pv i v → ∃ d, ds[i]? = some d ∧ Rep c O h v d) → Reps c O h vs (ds.drop k)
  | [], k, hl, _, _ => by
    rw [List.drop_of_length_le (by simp at hl; (first | lia | omega))]; exact .nil
  | v :: vs, k, hl, hp, hP => by
    simp only [List.length_cons] at hl
    have hk : k < ds.length := by (first | lia | omega)
    obtain ⟨d, hd, r⟩ := hP k v hk (by simpa using hp 0 v rfl)
    have e : ds.drop k = d :: ds.drop (k + 1) := by rw [List.drop_eq_getElem_cons hk]; (first | exact absN ((List.getElem?_eq_getElem hk).symm.trans hd) | (rw [List.getElem?_eq_getElem hk] at hd; cases hd)); rfl
    rw [e]
    exact .cons r (places_reps (k := k + 1) (by (first | lia | omega)) (fun j v hj => by have := hp (j + 1) v hj; rw [Nat.add_assoc, Nat.add_comm 1 k] at this; exact this) hP)

theorem comp_run {elt it : Expr} {ifs : List Expr} {t : Str} {csc : Scope} {r : Except Str (List PV)} {cl : List (Str × Addr)} {Q : Value → Shared → Prop} (hpe : PeOk c G n) (hpt : PtOk c G n) (hpits : PitsOk c G n) (H : Hy c G call R fr P Fl A env) (sv : Sv c O own env ρ fr P s.heap)
    (h : compM G n call env.scope.names ρ elt it ifs t csc.names = some r) (hk : csc.kind = .function) (tab : CompTab c O env ρ csc t cl) (er : ErP Fl r s E)
    (hQ : ∀ I s₂ fp wr k Pv St p F out, r = .ok out → (∃ h₂ tk, s₂ = { s with heap := h₂, toks := tk }) → R s.heap s₂.heap → Walks c.prog c.w A I fp wr k Pv St → k ≤ sizeLine → St 0 s₂.heap → (∀ b ∈ fp, b < s₂.heap.objs.size) →
      QuietOnC c.prog c.w A env csc cl t ifs elt wr Pv p F s₂ → Sv c O own env ρ fr P s₂.heap → (∀ b ∈ wr, s.heap.get? b = none ∧ ∃ o vs, s₂.heap.get? b = some o ∧ o.data = .fields vs) →
      (∀ (ys : Array Value) (vs : List Value), vs.length = k → (∀ j v, vs[j]? = some v → Pv j v) → Paired F (vs.filter p) ys.toList → Reps c O s₂.heap ys.toList out) → Q (.ref I) s₂) :
    (∀ x, foldedSetIterable it env x = pure x) ∧ wpAny (model c.prog c.w) A (eval it env) (fun xv s₁ => wpAny (model c.prog c.w) A (pyIter xv) Q E s₁) E s := by
  unfold compM at h
  rcases bd_inv h with ⟨m, hm, rfl⟩ | ⟨ds, hds, h⟩
  · obtain ⟨hs, hw⟩ := hpits _ _ _ _ _ A _ own O _ it _ H hm
    exact ⟨hs, hw s Q E sv (fun _ e => by cases e) er.to⟩
  · obtain ⟨hs, hw⟩ := hpits _ _ _ _ _ A _ own O _ it _ H hds
    split at h
    · rename_i hc
      obtain ⟨hsimple, hlen⟩ := hc
      obtain ⟨out, hout, h⟩ := bs_inv h
      cases h
      refine ⟨hs, hw s Q E sv (fun ds' e it' h' tk hR hi => ?_) ErP.ok⟩
      cases e
      obtain ⟨I, fp, wr, Pv, St, rfl, W, hst, hwr, hfp, hP, _⟩ := hi
      have sv2 := sv.step H hR
      refine hQ I _ fp wr _ _ St _ _ out rfl ⟨h', tk, rfl⟩ hR W.bound (Nat.le_trans hlen lim_size) hst (fun b hb => let ⟨_, _, e, _⟩ := hfp b hb; Heap.lt_size e)
        (comp_quiet (s₂ := { s with heap := h', toks := tk }) hpe hpt H hk tab (H.pB sv.p) sv2 hwr hP hsimple hout) sv2 hwr fun ys vs hl hv hp => ?_
      have hr : Reps c O h' vs ds := by
        have := places_reps (c := c) (O := O) (h := h') (k := 0) (vs := vs) (by simpa using hl) (Pv := Pv) (fun j v hj => (hv j v hj).2) (fun i v hi hp => let ⟨d, e, q⟩ := hP i v hi hp; ⟨d, e, q _ fun _ _ _ _ _ e _ => e⟩)
        simpa using this
      exact paired_reps hr hsimple hout hp
    · first | exact absN h | cases h

theorem ev_comp {elt it : Expr} {ifs : List Expr} {t : Str} {px pos : Pos} {csc : Scope} {r : Except Str (List PV)} {Q : Value → Shared → Prop} (hpe : PeOk c G n) (hpt : PtOk c G n) (hpits : PitsOk c G n) (H : Hy c G call R fr P Fl A env) (sv : Sv c O own env ρ fr P s.heap)
    (h : compM G n call env.scope.names ρ elt it ifs t csc.names = some r) (hk : csc.kind = .function) (hsc : compScopeOk csc.names env.scope.names t = true) (er : ErP Fl r s E)
    (hok : ∀ out, r = .ok out → ∀ v h' tk, R s.heap h' → Rep c O h' v (.list out) → Q v { s with heap := h', toks := tk }) :
    wpAny (model c.prog c.w) A (eval (.ListComp elt [⟨.Name t px, it, ifs, 0⟩] csc pos) env) Q E s := by
  obtain ⟨cl, tab⟩ := compTab H.kind hsc sv.vars
  have hs := (comp_run (Q := fun _ _ => True) hpe hpt hpits H sv h hk tab er (fun _ _ _ _ _ _ _ _ _ _ _ _ _ _ _ _ _ _ _ _ _ => trivial)).1
  refine lc_expr tab.clos tab.cell hk tab.names tab.x (comp_run hpe hpt hpits H sv h hk tab er ?_).2 hs
  rintro I s₂ fp wr k Pv St p F out rfl ⟨h₂, tk, rfl⟩ hR W hsz hst hfp hq sv2 hwr hpr
  refine ⟨I, fp, wr, k, Pv, St, p, F, rfl, W, hsz, hst, hfp, hq, fun D h' tk' ys vs hD hpl hl hv hp hk => ?_⟩
  have hr := hpr ys vs hl hv hp
  have up : UpSeq O h₂ h' := fun a o vs k _ e hd => hk a o (fun hb => by
    obtain ⟨_, o', vs', e', hd'⟩ := hwr a hb
    have e' : h₂.get? a = some o' := e'
    (first | exact absN ((e).symm.trans e') | (rw [e] at e'; cases e')); (first | exact absN ((hd).symm.trans hd') | (rw [hd] at hd'; cases hd'))) e
  obtain ⟨nn, hpl⟩ := hpl
  refine hok out rfl _ h' tk' (H.rl.skip hR (fun b hb => (hwr b hb).1) hk) (.list (fun ha => ?_) (vs := ys.toList) (by rw [Array.toArray_toList]; exact hpl) (hr.up up))
  obtain ⟨_, _, o, _, _, e, _⟩ := sv2.ot D ha
  have hD : h₂.get? D = none := hD
  have e : h₂.get? D = some o := e
  (first | exact absN ((hD).symm.trans e) | (rw [hD] at e; cases e))
end
end Mine

-- SxEv10
namespace Mine
open PySem PyProof.Rows

theorem catS_cps : ∀ (ys : List Str) (a : Array Nat), a ++ (catS ys).cps = ys.foldl (fun acc p => acc ++ Str.empty.cps ++ p.cps) a
  | [], a => by show a ++ #[] = a; simp
  | y :: ys, a => by
    rw [List.foldl_cons, ← catS_cps ys]
    show a ++ (y.cps ++ (catS ys).cps) = a ++ #[] ++ y.cps ++ (catS ys).cps
    simp [Array.append_assoc]
theorem join_catS (ys : List Str) : Txt.join Str.empty ys = catS ys := by
  unfold Txt.join Builtin.Str.glued
  cases ys with
  | nil => rfl
  | cons y ys =>
    simp only [List.drop_succ_cons, List.drop_zero, List.headD_cons]
    rw [← catS_cps]
    rfl
theorem length_append (x y : Str) : (x ++ y).length = x.length + y.length := Array.size_append
theorem catS_length : ∀ ys : List Str, (catS ys).length = (ys.map (·.length)).sum
  | [] => rfl
  | y :: ys => by
    show (y ++ catS ys).length = _
    rw [length_append, catS_length ys]; simp

section
variable {c : Cx} {G : Str → Option PV} {n : Nat} {call : Calls} {R : Heap → Heap → Prop} {fr : List Addr} {P : Heap → Prop} {Fl : Heap → Str → Value → Heap → Prop} {A : Around} {env : Env}
  {O : List Addr} {own : List (Str × Addr)} {ρ : Loc} {E : Value → Shared → Prop}

theorem pfmt_no {sc : Names} {e : Expr} {m : Str} (h : pfmt G n call sc ρ e = some (.error m)) : False := by
  cases n with
  | zero => exact absN (show none = some _ from h)
  | succ n =>
    cases fmtC e with
    | no _ hn => rw [hn] at h; exact absN h
    | str x k p => cases h
    | fld v p =>
      rw [fq_fld] at h
      obtain ⟨a, _, h⟩ := bs_inv h
      split at h <;> first | exact absN h | (split at h <;> first | exact absN h | cases h)
theorem fmts_no {sc : Names} {m : Str} : ∀ {es : List Expr}, evs (pfmt G n call sc ρ) es = some (.error m) → False
  | [], h => by cases h
  | e :: es, h => by
    simp only [evs] at h
    rcases bd_inv h with ⟨m', hm, q⟩ | ⟨a, hm, h⟩
    · cases q; exact pfmt_no hm
    · rcases bd_inv h with ⟨m', hm', q⟩ | ⟨as, hm', h⟩
      · cases q; exact fmts_no hm'
      · first | exact absN h | cases h

theorem ev_joins (hf : PfmtOk c G n) (H : Hy c G call R fr P Fl A env) : ∀ (es : List Expr) (r : Except Str (List Str)) (s : Shared) (acc : Str) (Q : Str → Shared → Prop), evs (pfmt G n call env.scope.names ρ) es = some r → Sv c O own env ρ fr P s.heap →
    (∀ xs, r = .ok xs → (acc ++ catS xs).length ≤ sizeLine) → (∀ xs, r = .ok xs → ∀ h' tk, R s.heap h' → Q (acc ++ catS xs) { s with heap := h', toks := tk }) → ErP Fl r s E → (∀ m, r = .error m → False) →
    Joins (model c.prog c.w) A E (evalEach es env) acc Q s
  | [], r, s, acc, Q, h, sv, hl, hok, er, ne => by
    cases h
    have := hok _ rfl s.heap s.toks (H.rl.refl _)
    have e : acc ++ catS [] = acc := congrArg Str.mk (Array.append_empty)
    rw [e] at this
    exact this
  | e :: es, r, s, acc, Q, h, sv, hl, hok, er, ne => by
    simp only [evs] at h
    rcases bd_inv h with ⟨m, hm, rfl⟩ | ⟨a, hm, h⟩
    · exact absurd rfl (ne m)
    · refine hf _ _ _ _ _ _ _ _ _ _ _ _ H hm s _ _ sv (okP_ok fun v h' tk hR hv => ?_) .ok
      obtain ⟨t, rfl⟩ := hv
      rcases bd_inv h with ⟨m, hm', rfl⟩ | ⟨as, hm', h⟩
      · exact absurd rfl (ne m)
      · cases h
        have assoc : acc ++ catS (a :: as) = (acc ++ a) ++ catS as := (congrArg Str.mk (Array.append_assoc)).symm
        refine ⟨a, t, rfl, ?_, ev_joins hf H es _ { s with heap := h', toks := tk } (acc ++ a) Q hm' (sv.step H hR) (fun xs e => ?_) (fun xs e h'' tk' hR' => ?_) .ok (fun _ e => by cases e)⟩
        · have := hl _ rfl
          rw [assoc, length_append] at this
          (first | lia | omega)
        · cases e
          have := hl _ rfl
          rw [assoc] at this
          exact this
        · cases e
          have := hok _ rfl h'' tk' (H.rl.trans hR hR')
          rw [assoc] at this
          exact this

theorem compM_of {elt it : Expr} {ifs : List Expr} {t : Str} {csc sc : Names} {r : Except Str RV}
    (h : (bd (pits G n call sc ρ it) fun ds => if ds.all simple = true ∧ ds.length ≤ lim then
        bs (filt (fun d => evTests (pt G n noCall (relab csc sc) (compLoc (relab csc sc) ρ t d)) ifs)
            (fun d => bs (pe G n noCall (relab csc sc) (compLoc (relab csc sc) ρ t d) elt) fun r => vd r fun e => if simpleElt elt t e = true then ok e else none) ds)
          fun out => ok (RV.val (PV.list out))
      else none) = some r) :
    ∃ r', compM G n call sc ρ elt it ifs t csc = some r' ∧ (∀ m, r' = .error m → r = .error m) ∧ ∀ out, r' = .ok out → r = .ok (.val (.list out)) := by
  unfold compM
  rcases bd_inv h with ⟨m, hm, rfl⟩ | ⟨ds, hm, h⟩
  · rw [hm]; exact ⟨.error m, rfl, fun _ e => by cases e; rfl, fun _ e => by cases e⟩
  · rw [hm]
    dsimp only [bd]
    split at h
    · rename_i hds
      obtain ⟨out, hout, h⟩ := bs_inv h
      cases h
      rw [if_pos hds]
      refine ⟨.ok out, ?_, (fun _ e => by cases e), fun _ e => by cases e; rfl⟩
      have hout : filt (compT G n (relab csc sc) ρ t ifs) (compF G n (relab csc sc) ρ t elt) ds = some (.ok out) := hout
      rw [hout]; rfl
    · first | exact absN h | cases h

theorem pe_step (hpe : PeOk c G n) (hpt : PtOk c G n) (hptest : PtestOk c G n) (hfun : PfunOk c G n) (hfmt : PfmtOk c G n) (hpits : PitsOk c G n) : PeOk c G (n + 1) := by
  intro call R fr P Fl A env own O ρ e r H h s Q E sv hok her
  cases peC e with
  | const c k p => exact ev_const H h hok
  | name x p => exact ev_name H sv h hok
  | conj a b p =>
    rw [pq_and] at h
    refine PyProof.Rows.BoolOp_and ?_
    rcases bd_inv h with ⟨m, hm, rfl⟩ | ⟨a, hm, h⟩
    · exact hpe _ _ _ _ _ _ _ _ _ _ _ _ H hm s _ _ sv .no her.to
    · refine hpe _ _ _ _ _ _ _ _ _ _ _ _ H hm s _ _ sv (okP_ok fun v h' tk hR hv => ?_) .ok
      split at h
      · rename_i x
        obtain rfl := Rep.bool_inv hv
        refine wpAny_truthy_bool ?_
        cases x with
        | true =>
          simp only [if_true] at h ⊢
          exact PyProof.Rows.BoolOp_one (hpe _ _ _ _ _ _ _ _ _ _ _ _ H h _ _ _ (sv.step H hR) (OkP.shift H hR hok) (ErP.shift H hR her))
        | false =>
          simp only [Bool.false_eq_true, if_false] at h ⊢
          cases h
          exact hok _ rfl _ h' tk hR (Rep.bool _)
      · first | exact absN h | cases h
  | bin l op r p =>
    rw [pq_bin] at h
    refine wpAny_BinOp ?_
    rcases bd_inv h with ⟨m, hm, rfl⟩ | ⟨a, hm, h⟩
    · exact hpe _ _ _ _ _ _ _ _ _ _ _ _ H hm s _ _ sv .no her.to
    · obtain ⟨x, hx, h1⟩ := vd_inv h
      subst hx
      clear h
      refine hpe _ _ _ _ _ _ _ _ _ _ _ _ H hm s _ _ sv (okP_ok fun v h' tk hR hv => ?_) .ok
      have sv' := sv.step H hR
      rcases bd_inv h1 with ⟨m, hm', rfl⟩ | ⟨b, hm', h2⟩
      · exact hpe _ _ _ _ _ _ _ _ _ _ _ _ H hm' _ _ _ sv' .no (ErP.shift H hR her).to
      · obtain ⟨y, hy, h3⟩ := vd_inv h2
        subst hy
        refine hpe _ _ _ _ _ _ _ _ _ _ _ _ H hm' { s with heap := h', toks := tk } _ _ sv' (okP_ok fun v' h'' tk' hR' hv' => ?_) .ok
        obtain ⟨d, hd, h4⟩ := bdo_inv h3
        cases h4
        have sv'' := sv'.step H hR'
        exact ev_bin (s := { s with heap := h'', toks := tk' }) H hd (Rep.up (H.rl.seq hR' _) hv) hv' sv''.ot.lt (OkP.shift H (H.rl.trans hR hR') hok)
  | neg i k p q =>
    cases h
    exact PyProof.Rows.UnaryOp_ (wpAny_Constant_int (PyProof.Rows.neg_int (hok.here H (Rep.int _ _) _)))
  | cmp l op r p =>
    rw [pq_cmp] at h
    rcases bd_inv h with ⟨m, hm, rfl⟩ | ⟨b, hm, h⟩
    · obtain ⟨hmk, hh⟩ := hptest _ _ _ _ _ _ _ own O _ _ _ _ _ H hm
      exact wpAny_Compare1 (hh s _ _ sv (fun _ e => by cases e) her.to) hmk
    · cases h
      obtain ⟨hmk, hh⟩ := hptest _ _ _ _ _ _ _ own O _ _ _ _ _ H hm
      exact wpAny_Compare1 (hh s _ _ sv (fun b' e h' tk hR => by cases e; exact hok _ rfl _ h' tk hR (Rep.bool _)) .ok) hmk
  | call g q as p =>
    rw [pq_call] at h
    split at h
    · rename_i hg
      exact hfun _ _ _ _ _ _ _ _ _ _ _ _ _ _ _ H h hg s _ _ sv hok her
    · first | exact absN h | cases h
  | join x k cp m apos e p =>
    rw [pq_join] at h
    · split at h
      · rename_i hc
        · obtain ⟨hm, hx, hl⟩ := hc
          subst hm
          subst hx
          · obtain ⟨a, ha, h⟩ := bs_inv h
            have hst := star_plain (env := env) (rest := []) ha
            refine Call_method1 rfl hst hl (Calls.Constant_str ⟨"str", "str.join", F.plainAttrs_str, F.slot_str_join, F.type_str_join, typeIs_str _ _ _, (fun _ e => nomatch e), ?_⟩)
            refine Calls.callWith_builtin (args := [(false, eval e env)]) rfl (Calls.evalArgs_plain (Calls.spliced_cons (hpe _ _ _ _ _ _ _ _ _ _ _ _ H ha _ _ _ sv (fun a' e' v h' tk hR hv => Calls.spliced_nil ?_) .ok)))
            cases e'
            split at h
            · split at h
              · rename_i ys hys
                split at h
                · rename_i hz
                  cases h
                  obtain ⟨_, _, _, rfl, ha, l, r⟩ := Rep.list_inv hv
                  · skip
                    refine join_list (items := _) ⟨_, l, rfl, _, rfl⟩ (r.strs hys) ?_ fun t' k => ?_
                    · rw [catS_length] at hz
                      show _ + _ * 0 ≤ _
                      rw [Nat.mul_zero, Nat.add_zero]
                      exact Nat.le_trans hz (by decide)
                    · rw [join_catS]
                      exact hok _ rfl _ h' k hR (Rep.str _ _)
                · first | exact absN h | cases h
              · first | exact absN h | cases h
            · first | exact absN h | cases h
      · first | exact absN h | cases h
  | fstr a b rest p =>
    rw [pq_fstr] at h
    · refine wpAny_JoinedStr ?_
      rcases bd_inv h with ⟨m, hm, rfl⟩ | ⟨xs, hm, h⟩
      · exact (fmts_no hm).elim
      · split at h
        · rename_i hz
          cases h
          have e0 : Str.empty ++ catS xs = catS xs := congrArg Str.mk (Array.empty_append)
          refine ev_joins hfmt H _ _ s _ _ hm sv (fun xs' e => ?_) (fun xs' e h' tk hR => ?_) .ok (fun _ e => by cases e)
          · cases e
            rw [e0]; exact Nat.le_trans hz lim_size
          · cases e
            rw [e0]
            exact ⟨Nat.le_trans hz lim_size, hok _ rfl _ h' _ hR (Rep.str _ _)⟩
        · first | exact absN h | cases h
  | sub v sl p =>
    rw [pq_sub] at h
    refine PyProof.Rows.Subscript_ ?_
    rcases bd_inv h with ⟨m, hm, rfl⟩ | ⟨a, hm, h⟩
    · exact hpe _ _ _ _ _ _ _ _ _ _ _ _ H hm s _ _ sv .no her.to
    · refine hpe _ _ _ _ _ _ _ _ _ _ _ _ H hm s _ _ sv (okP_ok fun v h' tk hR hv => ?_) .ok
      have sv' := sv.step H hR
      have okS := OkP.shift (t1 := tk) H hR hok
      have erS := ErP.shift (t1 := tk) H hR her
      split at h
      · obtain ⟨x, hx, h1⟩ := vd_inv h
        subst hx
        clear h
        refine wpAny_Slice ?_
        split at h1
        · rw [evalPart_some, evalPart_none]
          rcases bd_inv h1 with ⟨m, hm', rfl⟩ | ⟨i, hm', h2⟩
          · exact hpe _ _ _ _ _ _ _ _ _ _ _ _ H hm' _ _ _ sv' .no erS.to
          · obtain ⟨y, hy, h3⟩ := vd_inv h2
            subst hy
            refine hpe _ _ _ _ _ _ _ _ _ _ _ _ H hm' _ _ _ sv' (fun b' e v' h'' tk' hR' hv' => wpAny_pure (wpAny_pure ?_)) .ok
            cases e
            obtain ⟨d, hd, h4⟩ := bdo_inv h3
            cases h4
            exact ev_slice_from (s := { s with heap := h'', toks := tk' }) H hd (Rep.up (H.rl.seq hR' _) hv) hv' (sv'.step H hR').ot.lt (OkP.shift H (H.rl.trans hR hR') hok)
        · rw [evalPart_none, evalPart_some]
          refine wpAny_pure ?_
          rcases bd_inv h1 with ⟨m, hm', rfl⟩ | ⟨i, hm', h2⟩
          · exact hpe _ _ _ _ _ _ _ _ _ _ _ _ H hm' _ _ _ sv' .no erS.to
          · obtain ⟨y, hy, h3⟩ := vd_inv h2
            subst hy
            refine hpe _ _ _ _ _ _ _ _ _ _ _ _ H hm' _ _ _ sv' (fun b' e v' h'' tk' hR' hv' => wpAny_pure ?_) .ok
            cases e
            obtain ⟨d, hd, h4⟩ := bdo_inv h3
            cases h4
            exact ev_slice_to (s := { s with heap := h'', toks := tk' }) H hd (Rep.up (H.rl.seq hR' _) hv) hv' (sv'.step H hR').ot.lt (OkP.shift H (H.rl.trans hR hR') hok)
        · first | exact absN h1 | cases h1
      · first | exact absN h | cases h
      · rename_i hns1 hns2
        rcases bd_inv h with ⟨m, hm', rfl⟩ | ⟨i, hm', h2⟩
        · exact hpe _ _ _ _ _ _ _ _ _ _ _ _ H hm' _ _ _ sv' .no erS.to
        · obtain ⟨y, hy, h3⟩ := vd_inv h2
          subst hy
          refine hpe _ _ _ _ _ _ _ _ _ _ _ _ H hm' _ _ _ sv' (okP_ok fun v' h'' tk' hR' hv' => ?_) .ok
          obtain ⟨d, hd, h4⟩ := bdo_inv h3
          cases h4
          exact ev_sub (s := { s with heap := h'', toks := tk' }) H (H.pB (sv'.step H hR').p) hd (hv.step H.rl hR' fun a ha => (sv'.ot a ha).1) hv' (fun lo hi st p q => hns2 _ _ _ _ q) (OkP.shift H (H.rl.trans hR hR') hok)
  | tup es k p =>
    rw [pq_tup] at h
    refine PyProof.Rows.Tuple_ ?_
    rcases bd_inv h with ⟨m, hm, rfl⟩ | ⟨rs, hm, h⟩
    · exact ev_args hpe H _ _ _ _ _ hm sv (fun _ e => by cases e) her.to
    · obtain ⟨ds, hds, h⟩ := bdo_inv h
      split at h
      · rename_i hz
        cases h
        refine ev_args hpe H _ _ s _ _ hm sv (okAll fun vs h' tk hR hv => ?_) .ok
        have hr := hv.vals hds
        refine wpAny_newObj_type (hok _ rfl _ _ _ (H.rl.trans hR (H.rl.of_keeps fun _ _ e => Heap.get?_push_of_some _ e)) (Reps.newTup hr (sv.step H hR).ot.lt)) ?_
        show vs.toArray.size ≤ sizeLine
        rw [List.size_toArray, hr.length]; exact Nat.le_trans hz lim_size
      · first | exact absN h | cases h
  | list es p =>
    rw [pq_list] at h
    refine PyProof.Rows.List_ ?_
    rcases bd_inv h with ⟨m, hm, rfl⟩ | ⟨rs, hm, h⟩
    · exact ev_args hpe H _ _ _ _ _ hm sv (fun _ e => by cases e) her.to
    · obtain ⟨ds, hds, h⟩ := bdo_inv h
      split at h
      · rename_i hz
        cases h
        refine ev_args hpe H _ _ s _ _ hm sv (okAll fun vs h' tk hR hv => ?_) .ok
        have hr := hv.vals hds
        refine wpAny_newObj_type (hok _ rfl _ _ _ (H.rl.trans hR (H.rl.of_keeps fun _ _ e => Heap.get?_push_of_some _ e)) (Reps.newList hr (sv.step H hR).ot.lt)) ?_
        show vs.toArray.size ≤ sizeLine
        rw [List.size_toArray, hr.length]; exact Nat.le_trans hz lim_size
      · first | exact absN h | cases h
  | comp elt t tp it ifs csc p =>
    rw [pq_comp] at h
    · split at h
      · rename_i hc
        obtain ⟨hk, hsc⟩ := hc
        obtain ⟨r', hcm, he', ho'⟩ := compM_of h
        exact ev_comp hpe hpt hpits H sv hcm hk hsc (fun m e v h' tk q => her m (he' m e) v h' tk q) fun out e v h' tk hR hv => hok _ (ho' out e) v h' tk hR hv
      · first | exact absN h | cases h
  | no _ hn => rw [hn] at h; exact absN h

theorem expr_ok (c : Cx) (G : Str → Option PV) : ∀ n, PeOk c G n ∧ PtOk c G n ∧ PallOk c G n ∧ PtestOk c G n ∧ PfunOk c G n ∧ PfmtOk c G n ∧ PitsOk c G n
  | 0 => by
    refine ⟨?_, ?_, ?_, ?_, ?_, ?_, ?_⟩
    · intro _ _ _ _ _ _ _ _ _ _ _ _ _ h; exact absN (show none = some _ from h)
    · intro _ _ _ _ _ _ _ _ _ _ _ _ _ h; exact absN (show none = some _ from h)
    · intro _ _ _ _ _ _ _ _ _ _ _ _ _ _ h; exact absN (show none = some _ from h)
    · intro _ _ _ _ _ _ _ _ _ _ _ _ _ _ _ h; exact absN (show none = some _ from h)
    · intro _ _ _ _ _ _ _ _ _ _ _ _ _ _ _ _ h; exact absN (show none = some _ from h)
    · intro _ _ _ _ _ _ _ _ _ _ _ _ _ h; exact absN (show none = some _ from h)
    · intro _ _ _ _ _ _ _ _ _ _ _ _ _ h; exact absN (show none = some _ from h)
  | n + 1 => by
    obtain ⟨h1, h2, h3, h4, h5, h6, h7⟩ := expr_ok c G n
    exact ⟨pe_step h1 h2 h4 h5 h6 h7, pt_step h1 h2 h3 h4, pall_step h2 h3, ptest_step h1, pfun_step h1, pfmt_step h1, pits_step h1⟩
end
end Mine

-- SxSt
namespace Mine
open PySem PyProof.Rows

/-- the frames on the stack -/
noncomputable def frs (l : List Env) : List Addr := l.filterMap (·.frame)

structure Pst (c : Cx) (l : List Env) (h : Heap) : Prop where
  stays : c.base.StaysIn h
  frames : h.FunFrames c.base l
  dicts : ∀ a ∈ frs l, ∃ o es ep, h.get? a = some o ∧ o.data = .dict es ep

theorem funFrames_anew {base h h' : Heap} : ∀ {l : List Env}, h.FunFrames base l → (∀ a ∈ frs l, ∃ o, h'.get? a = some o ∧ ∀ vs, o.data ≠ .fields vs) → h'.FunFrames base l
  | [], _, _ => trivial
  | env :: l, ⟨hk, ⟨L, o, hf, hn, ho, hd⟩, hr⟩, hA => by
    obtain ⟨o', ho', hd'⟩ := hA L (List.mem_filterMap.mpr ⟨env, List.mem_cons_self, hf⟩)
    exact ⟨hk, ⟨L, o', hf, hn, ho', hd'⟩, funFrames_anew hr fun a ha => hA a (by
      obtain ⟨e, he, hf'⟩ := List.mem_filterMap.mp ha
      exact List.mem_filterMap.mpr ⟨e, List.mem_cons_of_mem _ he, hf'⟩)⟩
theorem funFrames_none {base h : Heap} : ∀ {l : List Env}, h.FunFrames base l → ∀ a ∈ frs l, base.get? a = none
  | [], _, a, ha => nomatch ha
  | env :: l, ⟨hk, ⟨L, o, hf, hn, ho, hd⟩, hr⟩, a, ha => by
    obtain ⟨e, he, hf'⟩ := List.mem_filterMap.mp ha
    rcases List.mem_cons.mp he with rfl | he
    · (first | exact absN ((hf).symm.trans hf') | (rw [hf] at hf'; cases hf')); exact hn
    · exact funFrames_none hr a (List.mem_filterMap.mpr ⟨e, he, hf'⟩)

theorem Pst.anew {c : Cx} {l : List Env} {h h' : Heap} (x : Pst c l h) (hs : c.base.StaysIn h') (hd : ∀ a ∈ frs l, ∃ o es ep, h'.get? a = some o ∧ o.data = .dict es ep) : Pst c l h' :=
  ⟨hs, funFrames_anew x.frames fun a ha => let ⟨o, es, ep, e, d⟩ := hd a ha; ⟨o, e, fun vs q => by (first | exact absN ((d).symm.trans q) | (rw [d] at q; cases q))⟩, hd⟩
theorem Pst.step {c : Cx} {l : List Env} {h h' : Heap} (x : Pst c l h) (k : GrowR (frs l) h h') : Pst c l h' :=
  x.anew (fun b o e => k.1 b o (fun hb => by (first | exact absN ((funFrames_none x.frames b hb).symm.trans e) | (rw [funFrames_none x.frames b hb] at e; cases e))) (x.stays b o e))
    fun a ha => let ⟨o, es, ep, e, d⟩ := x.dicts a ha; let ⟨sl, e'⟩ := k.2.1 a o e; ⟨_, es, ep, e', d⟩
/-- one object is written anew -/
theorem Pst.change {c : Cx} {l : List Env} {h h' : Heap} {z : Addr} (x : Pst c l h) (hz : c.base.get? z = none) (k : ∀ b, b ≠ z → h'.get? b = h.get? b)
    (hd : z ∈ frs l → ∃ o es ep, h'.get? z = some o ∧ o.data = .dict es ep) : Pst c l h' :=
  x.anew (fun b o e => (k b fun q => by rw [q, hz] at e; cases e).trans (x.stays b o e)) fun a ha => by
    by_cases q : a = z
    · subst q; exact hd ha
    · obtain ⟨o, es, ep, e, d⟩ := x.dicts a ha
      exact ⟨o, es, ep, (k a q).trans e, d⟩

/-- an exception under way over the frames l, which left what stood in h -/
noncomputable def Flies (PE : Addr) (l : List Env) (h : Heap) (m : Str) (v : Value) (h' : Heap) : Prop :=
  ∃ e t u B, v = .ref e ∧ (∀ b o, b ∉ frs l → h.get? b = some o → B.get? b = some o) ∧ Heap.FlyingW B l e (.ref PE) (.ref t) h' ∧ h'.TupAt t [.str m u] ∧ h.UpToSlots h'
theorem Flies.before {PE : Addr} {l : List Env} {h h1 h' : Heap} {m : Str} {v : Value} (k : GrowR (frs l) h h1) (x : Flies PE l h1 m v h') : Flies PE l h m v h' := by
  obtain ⟨e, t, u, B, hv, hB, hf, ht, hs⟩ := x
  exact ⟨e, t, u, B, hv, fun b o hb ho => hB b o hb (k.1 b o hb ho), hf, ht, k.2.1.up.trans hs⟩
theorem Pst.landed {c : Cx} {l : List Env} {h h' B : Heap} (x : Pst c l h) (hB : ∀ b o, b ∉ frs l → h.get? b = some o → B.get? b = some o) (k : B.StaysIn h') (hs : h.UpToSlots h') : GrowR (frs l) h h' := by
  have ex : ∀ b o, b ∉ frs l → h.get? b = some o → h'.get? b = some o := fun b o hb e => k b o (hB b o hb e)
  refine ⟨ex, fun b o e => ?_, fun a o vs n _ e hd => ?_⟩
  · by_cases hb : b ∈ frs l
    · obtain ⟨o', es, ep, e', d⟩ := x.dicts b hb
      (first | exact absN ((e).symm.trans e') | (rw [e] at e'; cases e'))
      exact hs b o e fun vs q => by (first | exact absN ((d).symm.trans q) | (rw [d] at q; cases q))
    · exact ⟨o.slots, ex b o hb e⟩
  · refine ex a o (fun hb => ?_) e
    obtain ⟨o', es, ep, e', d⟩ := x.dicts a hb
    (first | exact absN ((e).symm.trans e') | (rw [e] at e'; cases e'))
    (first | exact absN ((hd).symm.trans d) | (rw [hd] at d; cases d))

/-- the class that is raised -/
structure Exc (c : Cx) (PE : Addr) : Prop where
  own : ∃ bm newId initId B, OwnClsQ "PatternError" PE bm newId c.mg c.base ∧ ExcBaseFacts B newId initId bm
  str : ∀ (A : Around) (s : Shared) (e t : Addr) (m : Str) (u : Tok) (Q E : Value → Shared → Prop), A.units + 8 < cLine → c.base.StaysIn s.heap →
    (∃ o vs, s.heap.get? e = some o ∧ o.cls = .ref PE ∧ o.data = .fields vs ∧ vs[0]? = some (.ref t)) → s.heap.TupAt t [.str m u] → Q (.str m u) s → wpAny (model c.prog c.w) A (PySem.call (.type "str") [.ref e]) Q E s

/-- a def's body under way -/
structure Bx (c : Cx) (G : Str → Option PV) (PE : Addr) (call : Calls) (A : Around) (env : Env) (outer : List Env) (L : Addr) (h₀ : Heap) : Prop where
  hy : Hy c G call (GrowR (frs (env :: outer))) (frs (env :: outer)) (Pst c (env :: outer)) (Flies PE (env :: outer)) A env
  exc : Exc c PE
  stack : A.frames = some (env :: outer)
  frame : env.frame = some L
  locals : env.locals = L
  new : h₀.get? L = none
  base0 : c.base.StaysIn h₀
  cellNew : ∀ x cl, env.cells.lookup x = some cl → h₀.get? cl = none
  cellInj : ∀ x y cl, env.cells.lookup x = some cl → env.cells.lookup y = some cl → x = y

structure Iv (c : Cx) (O : List Addr) (own : List (Str × Addr)) (env : Env) (ρ : Loc) (outer : List Env) (h₀ h : Heap) : Prop where
  sv : Sv c O own env ρ (frs (env :: outer)) (Pst c (env :: outer)) h
  grow : GrowR (frs outer) h₀ h
  owned : ∀ x a, own.lookup x = some a → a ∈ O ∧ h₀.get? a = none
  inj : ∀ x y a, own.lookup x = some a → own.lookup y = some a → x = y

/-- what a statement leaves alone -/
noncomputable def BodyR (O : List Addr) (h h' : Heap) : Prop := ∀ b o, h.get? b = some o → b ∉ O → ((∃ vs, o.data = .fields vs) ∨ ∃ vs n, o.data = .seq vs n) → h'.get? b = some o
structure Aft (c : Cx) (O : List Addr) (env : Env) (ρ' : Loc) (outer : List Env) (h₀ h h' : Heap) (O' : List Addr) (own' : List (Str × Addr)) : Prop where
  iv : Iv c O' own' env ρ' outer h₀ h'
  more : ∀ a ∈ O', a ∈ O ∨ h.get? a = none
  sub : ∀ a ∈ O, a ∈ O'
  keep : BodyR O h h'
  stay : ∀ a, h'.get? a = none → h.get? a = none
noncomputable def FlowIs (c : Cx) (O : List Addr) (own : List (Str × Addr)) (h : Heap) : Flow → Fl → Prop
  | .next, .next => True
  | .brk, .brk => True
  | .ret v, .ret rv => RvRep c O own h v rv
  | _, _ => False
noncomputable def PostQ (c : Cx) (O : List Addr) (env : Env) (outer : List Env) (h₀ : Heap) (r : Except Str (Fl × Loc)) (s : Shared) (Q : Flow → Shared → Prop) : Prop :=
  ∀ fl ρ', r = .ok (fl, ρ') → ∀ f h' tk O' own', Aft c O env ρ' outer h₀ s.heap h' O' own' → FlowIs c O' own' h' f fl → Q f { s with heap := h', toks := tk }
noncomputable def FlB (c : Cx) (PE : Addr) (env : Env) (outer : List Env) (h₀ : Heap) (m : Str) (v : Value) (h' : Heap) : Prop :=
  ∃ h, GrowR (frs outer) h₀ h ∧ Pst c (env :: outer) h ∧ (Flies PE (env :: outer) h m v h' ∨ ∃ e u, v = .ref e ∧ Heap.MadeExcOf h h' e (.ref PE) [.str m u])
noncomputable def PostE {α : Type} (c : Cx) (PE : Addr) (env : Env) (outer : List Env) (h₀ : Heap) (r : Except Str α) (s : Shared) (E : Value → Shared → Prop) : Prop :=
  ∀ m, r = .error m → ∀ v h' tk, FlB c PE env outer h₀ m v h' → E v { s with heap := h', toks := tk }

theorem more_both {c : Cx} {O O' : List Addr} {h : Heap} (k : ∀ a ∈ O', a ∈ O ∨ h.get? a = none) :
    (∀ {v : Value} {d : PV}, Rep c O h v d → Rep c O' h v d) ∧ ∀ {vs : List Value} {ds : List PV}, Reps c O h vs ds → Reps c O' h vs ds :=
  Rep.both (fun {a _ _} ha x => ⟨fun q => (k a q).elim ha fun e => absN (e.symm.trans x), x⟩) (fun {a _ _} ha x => ⟨fun q => (k a q).elim ha fun e => absN (e.symm.trans x), x⟩)
theorem Rep.more {c : Cx} {O O' : List Addr} {h : Heap} (k : ∀ a ∈ O', a ∈ O ∨ h.get? a = Option.none) {v : Value} {d : PV} (x : Rep c O h v d) : Rep c O' h v d := (more_both k).1 x
theorem Reps.more {c : Cx} {O O' : List Addr} {h : Heap} (k : ∀ a ∈ O', a ∈ O ∨ h.get? a = Option.none) {vs : List Value} {ds : List PV} (x : Reps c O h vs ds) : Reps c O' h vs ds := (more_both k).2 x

section
variable {c : Cx} {G : Str → Option PV} {PE : Addr} {call : Calls} {A : Around} {env : Env} {outer : List Env} {L : Addr} {h₀ : Heap} {O : List Addr} {own : List (Str × Addr)} {ρ : Loc} {h h' : Heap}

theorem stay_but {z : Addr} (k : ∀ b, b ≠ z → h'.get? b = h.get? b) (hz : ∃ o, h'.get? z = some o) : ∀ a, h'.get? a = none → h.get? a = none := fun a e => by
  by_cases q : a = z
  · subst q; obtain ⟨o, e'⟩ := hz; (first | exact absN ((e).symm.trans e') | (rw [e] at e'; cases e'))
  · rw [← k a q]; exact e
theorem stay_all (k : AllSlots h h') : ∀ a, h'.get? a = none → h.get? a = none := fun a e => by
  cases q : h.get? a with
  | none => rfl
  | some o => obtain ⟨sl, e'⟩ := k a o q; (first | exact absN ((e).symm.trans e') | (rw [e] at e'; cases e'))
theorem BodyR.refl : BodyR O h h := fun _ _ e _ _ => e
theorem BodyR.upSeq (k : BodyR O h h') : UpSeq O h h' := fun a o vs n ha e hd => k a o e ha (.inr ⟨vs, n, hd⟩)
theorem BodyR.trans {h'' : Heap} {O' : List Addr} (x : BodyR O h h') (m : ∀ a ∈ O', a ∈ O ∨ h.get? a = none) (y : BodyR O' h' h'') : BodyR O h h'' := fun b o e hb hd =>
  y b o (x b o e hb hd) (fun q => (m b q).elim hb fun z => by (first | exact absN ((z).symm.trans e) | (rw [z] at e; cases e))) hd
theorem BodyR.of_grow {l : List Env} (P : Pst c l h) (k : GrowR (frs l) h h') : BodyR O h h' := fun b o e _ hd => by
  refine k.1 b o (fun hb => ?_) e
  obtain ⟨o', es, ep, e', d⟩ := P.dicts b hb
  (first | exact absN ((e).symm.trans e') | (rw [e] at e'; cases e'))
  rcases hd with ⟨vs, q⟩ | ⟨vs, n, q⟩ <;> ((first | exact absN ((d).symm.trans q) | (rw [d] at q; cases q)))
theorem Aft.refl (x : Iv c O own env ρ outer h₀ h) : Aft c O env ρ outer h₀ h h O own := ⟨x, fun _ a => .inl a, fun _ a => a, .refl, fun _ e => e⟩

theorem frs_head (hf : env.frame = some L) : frs (env :: outer) = L :: frs outer := by simp [frs, hf]
theorem Bx.L_mem (B : Bx c G PE call A env outer L h₀) : L ∈ frs (env :: outer) := by rw [frs_head B.frame]; exact List.mem_cons_self

/-- a part's value was found -/
theorem Iv.step (B : Bx c G PE call A env outer L h₀) (x : Iv c O own env ρ outer h₀ h) (k : GrowR (frs (env :: outer)) h h') : Iv c O own env ρ outer h₀ h' := by
  refine ⟨x.sv.step B.hy k, ?_, x.owned, x.inj⟩
  have e := frs_head (outer := outer) B.frame
  rw [e] at k
  refine ⟨fun b o hb ho => ?_, x.grow.2.1.trans k.2.1, fun a o vs n q ho hd => k.2.2 a o vs n q (x.grow.2.2 a o vs n q ho hd) hd⟩
  refine k.1 b o (fun q => ?_) (x.grow.1 b o hb ho)
  rcases List.mem_cons.mp q with q | q
  · rw [q, B.new] at ho; cases ho
  · exact hb q
theorem Aft.of_step (B : Bx c G PE call A env outer L h₀) (x : Iv c O own env ρ outer h₀ h) (k : GrowR (frs (env :: outer)) h h') : Aft c O env ρ outer h₀ h h' O own :=
  ⟨x.step B k, fun _ a => .inl a, fun _ a => a, .of_grow x.sv.p k, stay_all k.2.1⟩
theorem Aft.trans {h'' : Heap} {O' O'' : List Addr} {own' own'' : List (Str × Addr)} {ρ' ρ'' : Loc} (x : Aft c O env ρ' outer h₀ h h' O' own') (y : Aft c O' env ρ'' outer h₀ h' h'' O'' own'') :
    Aft c O env ρ'' outer h₀ h h'' O'' own'' :=
  ⟨y.iv, fun a ha => (y.more a ha).elim (x.more a) fun e => .inr (x.stay a e), fun a ha => y.sub a (x.sub a ha), x.keep.trans x.more y.keep, fun a e => x.stay a (y.stay a e)⟩

theorem slot_seqs (k : ∀ b o vs n, h.get? b = some o → o.data = .seq vs n → h'.get? b = some o) {x : Str} {v : Value} : ∀ {sl : Slot}, SlotRep c O own h x v sl → SlotRep c O own h' x v sl
  | .val _, r => Rep.up (fun a o vs n _ e hd => k a o vs n e hd) r
  | .own _, ⟨a, e, ev, ha, vs, n, l, r⟩ => ⟨a, e, ev, ha, vs, n, k _ _ _ _ l rfl, r.up (fun a o vs n _ e hd => k a o vs n e hd)⟩

/-- a plain name gets a value -/
theorem Iv.setLocal {x : Str} {v : Value} {d : PV} {m : Str → Option Value} (B : Bx c G PE call A env outer L h₀) (I : Iv c O own env ρ outer h₀ h) (hk : env.kindOf x = some .local) (hv : Rep c O h v d)
    (hn : h.Ns env.locals m) (hm : ∀ x sl, env.kindOf x = some .local → ρ x = some sl → ∃ v, m x = some v ∧ SlotRep c O own h x v sl)
    (hn' : h'.Ns env.locals (fun y => if y = x then some v else m y)) (hs : Heap.SameBut env.locals h h') : Aft c O env (upd ρ x (.val d)) outer h₀ h h' O own := by
  rw [B.locals] at hn hn' hs
  have hLd : ∀ o, h.get? L = some o → ∃ es ep, o.data = .dict es ep := fun o e => let ⟨o', es, ep, e', d, _⟩ := hn; by (first | exact absN ((e).symm.trans e') | (rw [e] at e'; cases e')); exact ⟨es, ep, d⟩
  have sq : ∀ b o vs n, h.get? b = some o → o.data = .seq vs n → h'.get? b = some o := fun b o vs n e hd => (hs.2 b fun q => by
    subst q; obtain ⟨es, ep, d⟩ := hLd o e; (first | exact absN ((hd).symm.trans d) | (rw [hd] at d; cases d))).trans e
  have cl : ∀ {b v}, h.IsCell b v → h'.IsCell b v := fun {b v} ⟨o, e, hd⟩ => ⟨o, (hs.2 b fun q => by subst q; obtain ⟨es, ep, d⟩ := hLd o e; (first | exact absN ((hd).symm.trans d) | (rw [hd] at d; cases d))).trans e, hd⟩
  have hLb : c.base.get? L = none := funFrames_none I.sv.p.frames L B.L_mem
  have keep : BodyR O h h' := fun b o e _ hd => (hs.2 b fun q => by
    subst q; obtain ⟨es, ep, d⟩ := hLd o e; rcases hd with ⟨vs, q⟩ | ⟨vs, n, q⟩ <;> ((first | exact absN ((d).symm.trans q) | (rw [d] at q; cases q)))).trans e
  refine ⟨⟨⟨I.sv.p.change hLb hs.2 fun _ => let ⟨o', es, ep, e', d, _⟩ := hn'; ⟨o', es, ep, e', d⟩, ?_, fun a ha => ?_⟩, ?_, I.owned, I.inj⟩, fun _ a => .inl a, fun _ a => a, keep, stay_but hs.2 (let ⟨o', _, _, e', _⟩ := hn'; ⟨o', e'⟩)⟩
  · have V := I.sv.vars
    refine ⟨⟨_, by rw [B.locals]; exact hn', fun y sl hy hρ => ?_⟩, fun y sl hy hρ => ?_, fun y hy => let ⟨a, w, e, i⟩ := V.there y hy; ⟨a, w, e, cl i⟩⟩
    · by_cases q : y = x
      · subst q
        unfold upd at hρ
        rw [if_pos rfl] at hρ
        cases hρ
        exact ⟨v, if_pos rfl, Rep.up (fun a o vs n _ e hd => sq a o vs n e hd) hv⟩
      · unfold upd at hρ
        rw [if_neg q] at hρ
        obtain ⟨w, e, r⟩ := hm y sl hy hρ
        exact ⟨w, (if_neg q).trans e, slot_seqs sq r⟩
    · have q : y ≠ x := fun q => by subst q; rw [hk] at hy; rcases hy with hy | hy <;> cases hy
      unfold upd at hρ
      rw [if_neg q] at hρ
      obtain ⟨d', a, w, e1, e2, e3, e4⟩ := V.cells y sl hy hρ
      exact ⟨d', a, w, e1, e2, cl e3, e4.up (fun a o vs n _ e hd => sq a o vs n e hd)⟩
  · obtain ⟨h1, h2, o, vs, n, e, hd⟩ := I.sv.ot a ha
    exact ⟨h1, h2, o, vs, n, sq a o vs n e hd, hd⟩
  · exact (rl_grow (frs outer)).skip (wr := [L]) I.grow (fun b hb => by rw [List.mem_singleton.mp hb]; exact B.new) fun b o hb e => (hs.2 b fun q => hb (by rw [q]; exact List.mem_singleton.mpr rfl)).trans e

/-- a name of an inner block gets a value -/
theorem Iv.setCell {x : Str} {v : Value} {d : PV} {cl : Addr} (B : Bx c G PE call A env outer L h₀) (I : Iv c O own env ρ outer h₀ h) (hk : env.kindOf x = some .cell) (hc : env.cells.lookup x = some cl) (hv : Rep c O h v d)
    {v0 : Option Value} (hi : h.IsCell cl v0) (hi' : h'.IsCell cl (some v)) (hs : Heap.SameBut cl h h') : Aft c O env (upd ρ x (.val d)) outer h₀ h h' O own := by
  have hcd : ∀ o, h.get? cl = some o → ∃ v, o.data = .cell v := fun o e => let ⟨o', e', d⟩ := hi; by (first | exact absN ((e).symm.trans e') | (rw [e] at e'; cases e')); exact ⟨_, d⟩
  have sq : ∀ b o vs n, h.get? b = some o → o.data = .seq vs n → h'.get? b = some o := fun b o vs n e hd => (hs.2 b fun q => by
    subst q; obtain ⟨v, d⟩ := hcd o e; (first | exact absN ((hd).symm.trans d) | (rw [hd] at d; cases d))).trans e
  have hcb : c.base.get? cl = none := by
    cases q : c.base.get? cl with
    | none => rfl
    | some o => have := B.base0 _ _ q; (first | exact absN ((B.cellNew x cl hc).symm.trans this) | (rw [B.cellNew x cl hc] at this; cases this))
  have hcf : cl ∉ frs (env :: outer) := fun q => by
    obtain ⟨o, es, ep, e, d⟩ := I.sv.p.dicts cl q
    obtain ⟨v, d'⟩ := hcd o e
    (first | exact absN ((d).symm.trans d') | (rw [d] at d'; cases d'))
  have keep : BodyR O h h' := fun b o e _ hd => (hs.2 b fun q => by
    subst q; obtain ⟨v, d⟩ := hcd o e; rcases hd with ⟨vs, q⟩ | ⟨vs, n, q⟩ <;> ((first | exact absN ((d).symm.trans q) | (rw [d] at q; cases q)))).trans e
  refine ⟨⟨⟨I.sv.p.change hcb hs.2 fun q => absurd q hcf, ?_, fun a ha => ?_⟩, ?_, I.owned, I.inj⟩, fun _ a => .inl a, fun _ a => a, keep, stay_but hs.2 (let ⟨o', e', _⟩ := hi'; ⟨o', e'⟩)⟩
  · obtain ⟨⟨m, hn, hm⟩, hcells, hthere⟩ := I.sv.vars
    have hLc : env.locals ≠ cl := fun q => by
      obtain ⟨o, es, ep, e, d, _⟩ := hn
      rw [q] at e
      obtain ⟨v, d'⟩ := hcd o e
      (first | exact absN ((d).symm.trans d') | (rw [d] at d'; cases d'))
    refine ⟨⟨m, hn.sameBut hs hLc, fun y sl hy hρ => ?_⟩, fun y sl hy hρ => ?_, fun y hy => ?_⟩
    · have q : y ≠ x := fun q => by subst q; (first | exact absN ((hk).symm.trans hy) | (rw [hk] at hy; cases hy))
      unfold upd at hρ
      rw [if_neg q] at hρ
      obtain ⟨w, e, r⟩ := hm y sl hy hρ
      exact ⟨w, e, slot_seqs sq r⟩
    · by_cases q : y = x
      · subst q
        unfold upd at hρ
        rw [if_pos rfl] at hρ
        cases hρ
        exact ⟨d, cl, v, rfl, hc, hi', Rep.up (fun a o vs n _ e hd => sq a o vs n e hd) hv⟩
      · unfold upd at hρ
        rw [if_neg q] at hρ
        obtain ⟨d', a, w, e1, e2, e3, e4⟩ := hcells y sl hy hρ
        exact ⟨d', a, w, e1, e2, e3.sameBut hs (fun z => q (B.cellInj y x cl (z ▸ e2) hc)), e4.up (fun a o vs n _ e hd => sq a o vs n e hd)⟩
    · obtain ⟨a, w, e, i⟩ := hthere y hy
      by_cases z : a = cl
      · subst z; exact ⟨a, _, e, hi'⟩
      · exact ⟨a, w, e, i.sameBut hs z⟩
  · obtain ⟨h1, h2, o, vs, n, e, hd⟩ := I.sv.ot a ha
    exact ⟨h1, h2, o, vs, n, sq a o vs n e hd, hd⟩
  · exact (rl_grow (frs outer)).skip (wr := [cl]) I.grow (fun b hb => by rw [List.mem_singleton.mp hb]; exact B.cellNew x cl hc) fun b o hb e => (hs.2 b fun q => hb (by rw [q]; exact List.mem_singleton.mpr rfl)).trans e

/-- an owned list is changed in place -/
theorem Iv.setOwn {x : Str} {a : Addr} {ds' : List PV} {vs' : List Value} {n' : Nat} (I : Iv c O own env ρ outer h₀ h) (hk : env.kindOf x = some .local) {ds : List PV} (hρ : ρ x = some (.own ds)) (ho : own.lookup x = some a)
    (hl : IsL h' a vs'.toArray n') (hr : Reps c O h vs' ds') (hs : Heap.SameBut a h h') : Aft c O env (upd ρ x (.own ds')) outer h₀ h h' O own := by
  obtain ⟨haO, han⟩ := I.owned x a ho
  obtain ⟨haf, hab, oa, vsa, na, ea, hda⟩ := I.sv.ot a haO
  have up : UpSeq O h h' := fun b o vs n hb e hd => (hs.2 b fun q => hb (q ▸ haO)).trans e
  have cl : ∀ {b v}, h.IsCell b v → h'.IsCell b v := fun {b v} ⟨o, e, hd⟩ => ⟨o, (hs.2 b fun q => by subst q; (first | exact absN ((ea).symm.trans e) | (rw [ea] at e; cases e)); (first | exact absN ((hda).symm.trans hd) | (rw [hda] at hd; cases hd))).trans e, hd⟩
  refine ⟨⟨⟨I.sv.p.change hab hs.2 fun q => absurd q haf, ?_, fun b hb => ?_⟩, ?_, I.owned, I.inj⟩, fun _ a => .inl a, fun _ a => a, fun b o e hb _ => (hs.2 b fun q => hb (q ▸ haO)).trans e, stay_but hs.2 ⟨_, hl⟩⟩
  · obtain ⟨⟨m, hn, hm⟩, hcells, hthere⟩ := I.sv.vars
    have hLa : env.locals ≠ a := fun q => by
      obtain ⟨o, es, ep, e, d, _⟩ := hn
      rw [q, ea] at e; cases e
      (first | exact absN ((hda).symm.trans d) | (rw [hda] at d; cases d))
    refine ⟨⟨m, hn.sameBut hs hLa, fun y sl hy hρy => ?_⟩, fun y sl hy hρy => ?_, fun y hy => let ⟨b, w, e, i⟩ := hthere y hy; ⟨b, w, e, cl i⟩⟩
    · by_cases q : y = x
      · subst q
        unfold upd at hρy
        rw [if_pos rfl] at hρy
        cases hρy
        obtain ⟨w, e, a', e1, e2, _⟩ := hm y _ hy hρ
        (first | exact absN ((ho).symm.trans e1) | (rw [ho] at e1; cases e1))
        exact ⟨w, e, a, ho, e2, haO, vs', n', hl, hr.up up⟩
      · unfold upd at hρy
        rw [if_neg q] at hρy
        obtain ⟨w, e, r⟩ := hm y sl hy hρy
        refine ⟨w, e, ?_⟩
        cases sl with
        | val d => exact Rep.up up r
        | own es =>
          obtain ⟨b, e1, e2, hb, vs, n, l, r⟩ := r
          exact ⟨b, e1, e2, hb, vs, n, (hs.2 b fun z => q (I.inj y x a (z ▸ e1) ho)).trans l, r.up up⟩
    · have q : y ≠ x := fun q => by subst q; rw [hk] at hy; rcases hy with hy | hy <;> cases hy
      unfold upd at hρy
      rw [if_neg q] at hρy
      obtain ⟨d', b, w, e1, e2, e3, e4⟩ := hcells y sl hy hρy
      exact ⟨d', b, w, e1, e2, cl e3, e4.up up⟩
  · by_cases q : b = a
    · subst q; exact ⟨haf, hab, _, _, _, hl, rfl⟩
    · obtain ⟨h1, h2, o, vs, n, e, hd⟩ := I.sv.ot b hb
      exact ⟨h1, h2, o, vs, n, (hs.2 b q).trans e, hd⟩
  · exact (rl_grow (frs outer)).skip (wr := [a]) I.grow (fun b hb => by rw [List.mem_singleton.mp hb]; exact han) fun b o hb e => (hs.2 b fun q => hb (by rw [q]; exact List.mem_singleton.mpr rfl)).trans e

/-- a new owned list -/
theorem Iv.newOwn {x : Str} {a : Addr} {m : Str → Option Value} {h1 : Heap} (B : Bx c G PE call A env outer L h₀) (I : Iv c O own env ρ outer h₀ h) (hk : env.kindOf x = some .local)
    (h1e : h1 = h.push { cls := .type "list", data := .seq #[] }) (ha : a = h.objs.size) (hn : h.Ns env.locals m) (hm : ∀ x sl, env.kindOf x = some .local → ρ x = some sl → ∃ v, m x = some v ∧ SlotRep c O own h x v sl)
    (hn' : h'.Ns env.locals (fun y => if y = x then some (.ref a) else m y)) (hs : Heap.SameBut env.locals h1 h') : Aft c O env (upd ρ x (.own [])) outer h₀ h h' (a :: O) ((x, a) :: own) := by
  have hLo : ∃ o, h.get? env.locals = some o := let ⟨o, _, _, e, _⟩ := hn; ⟨o, e⟩
  have hLa : env.locals ≠ a := by obtain ⟨o, e⟩ := hLo; rw [ha]; exact Nat.ne_of_lt (Heap.lt_size e)
  have hna : h.get? a = none := by
    cases q : h.get? a with
    | none => rfl
    | some o => exact absurd (Heap.lt_size q) (by rw [ha]; exact Nat.lt_irrefl _)
  have hp : ∀ b o, h.get? b = some o → h1.get? b = some o := fun b o e => by rw [h1e]; exact Heap.get?_push_of_some _ e
  have h1a : h1.get? a = some { cls := .type "list", data := .seq #[] } := by rw [h1e, ha]; exact Heap.get?_push_size _ rfl
  have ha' : IsL h' a ([] : List Value).toArray 0 := (hs.2 a (Ne.symm hLa)).trans h1a
  rw [B.locals] at hn hn' hs hLa
  have hLd : ∀ o, h.get? L = some o → ∃ es ep, o.data = .dict es ep := fun o e => let ⟨o', es, ep, e', d, _⟩ := hn; by (first | exact absN ((e).symm.trans e') | (rw [e] at e'; cases e')); exact ⟨es, ep, d⟩
  have ex : ∀ b o, b ≠ L → h.get? b = some o → h'.get? b = some o := fun b o hb e => (hs.2 b hb).trans (hp b o e)
  have sq : ∀ b o vs n, h.get? b = some o → o.data = .seq vs n → h'.get? b = some o := fun b o vs n e hd => ex b o (fun q => by
    subst q; obtain ⟨es, ep, d⟩ := hLd o e; (first | exact absN ((hd).symm.trans d) | (rw [hd] at d; cases d))) e
  have cl : ∀ {b v}, h.IsCell b v → h'.IsCell b v := fun {b v} ⟨o, e, hd⟩ => ⟨o, ex b o (fun q => by subst q; obtain ⟨es, ep, d⟩ := hLd o e; (first | exact absN ((hd).symm.trans d) | (rw [hd] at d; cases d))) e, hd⟩
  have hLb : c.base.get? L = none := funFrames_none I.sv.p.frames L B.L_mem
  have mo : ∀ b ∈ a :: O, b ∈ O ∨ h.get? b = none := fun b hb => (List.mem_cons.mp hb).elim (fun q => .inr (by rw [q]; exact hna)) .inl
  have slot : ∀ {y : Str} {v : Value} {sl : Slot}, y ≠ x → SlotRep c O own h y v sl → SlotRep c (a :: O) ((x, a) :: own) h' y v sl := fun {y v sl} hyx r => by
    have hb : (y == x) = false := by simpa using hyx
    cases sl with
    | val d => exact Rep.up (fun a o vs n _ e hd => sq a o vs n e hd) (Rep.more mo r)
    | own es =>
      obtain ⟨b, e1, e2, hb', vs, n, l, r⟩ := r
      exact ⟨b, by rw [List.lookup_cons, hb]; exact e1, e2, List.mem_cons_of_mem _ hb', vs, n, sq _ _ _ _ l rfl, (r.more mo).up (fun a o vs n _ e hd => sq a o vs n e hd)⟩
  have han : h₀.get? a = none := by
    cases q : h₀.get? a with
    | none => rfl
    | some o => obtain ⟨sl, e⟩ := I.grow.2.1 a o q; (first | exact absN ((hna).symm.trans e) | (rw [hna] at e; cases e))
  have hab : c.base.get? a = none := by
    cases q : c.base.get? a with
    | none => rfl
    | some o => have := B.base0 _ _ q; (first | exact absN ((han).symm.trans this) | (rw [han] at this; cases this))
  have hgrow : GrowR (frs outer) h₀ h' := (rl_grow (frs outer)).skip (wr := [L]) I.grow (fun b hb => by rw [List.mem_singleton.mp hb]; exact B.new) fun b o hb e => ex b o (fun q => hb (by rw [q]; exact List.mem_singleton.mpr rfl)) e
  have hP : Pst c (env :: outer) h' := I.sv.p.anew (fun b o e => ex b o (fun q => by rw [q, hLb] at e; cases e) (I.sv.p.stays b o e)) fun b hb => by
    by_cases q : b = L
    · subst q
      obtain ⟨o', es, ep, e', d, _⟩ := hn'
      exact ⟨o', es, ep, e', d⟩
    · obtain ⟨o, es, ep, e, d⟩ := I.sv.p.dicts b hb
      exact ⟨o, es, ep, ex b o q e, d⟩
  refine ⟨⟨⟨hP, ?_, fun b hb => ?_⟩, hgrow, fun y b hy => ?_, fun y z b hy hz => ?_⟩, mo, fun _ q => List.mem_cons_of_mem _ q, fun b o e _ hd => ex b o (fun q => by
    subst q; obtain ⟨es, ep, d⟩ := hLd o e; rcases hd with ⟨vs, q⟩ | ⟨vs, n, q⟩ <;> ((first | exact absN ((d).symm.trans q) | (rw [d] at q; cases q)))) e, fun b e => ?_⟩
  · have V := I.sv.vars
    refine ⟨⟨_, by rw [B.locals]; exact hn', fun y sl hy hρ => ?_⟩, fun y sl hy hρ => ?_, fun y hy => let ⟨a, w, e, i⟩ := V.there y hy; ⟨a, w, e, cl i⟩⟩
    · by_cases q : y = x
      · subst q
        unfold upd at hρ
        rw [if_pos rfl] at hρ
        cases hρ
        exact ⟨.ref a, if_pos rfl, a, by rw [List.lookup_cons, beq_self_eq_true], rfl, List.mem_cons_self, [], 0, ha', .nil⟩
      · unfold upd at hρ
        rw [if_neg q] at hρ
        obtain ⟨w, e, r⟩ := hm y sl hy hρ
        exact ⟨w, (if_neg q).trans e, slot q r⟩
    · have q : y ≠ x := fun q => by subst q; rw [hk] at hy; rcases hy with hy | hy <;> cases hy
      unfold upd at hρ
      rw [if_neg q] at hρ
      obtain ⟨d', b, w, e1, e2, e3, e4⟩ := V.cells y sl hy hρ
      exact ⟨d', b, w, e1, e2, cl e3, (e4.more mo).up (fun a o vs n _ e hd => sq a o vs n e hd)⟩
  · rcases List.mem_cons.mp hb with rfl | hb
    · refine ⟨fun q => ?_, hab, _, _, _, ha', rfl⟩
      obtain ⟨o, es, ep, e, d⟩ := I.sv.p.dicts b q
      (first | exact absN ((hna).symm.trans e) | (rw [hna] at e; cases e))
    · obtain ⟨h1, h2, o, vs, n, e, hd⟩ := I.sv.ot b hb
      exact ⟨h1, h2, o, vs, n, sq b o vs n e hd, hd⟩
  · rw [List.lookup_cons] at hy
    split at hy
    · cases hy; exact ⟨List.mem_cons_self, han⟩
    · obtain ⟨h1, h2⟩ := I.owned y b hy
      exact ⟨List.mem_cons_of_mem _ h1, h2⟩
  · have old : ∀ z, own.lookup z = some a → False := fun z hz => by
      obtain ⟨h1, _⟩ := I.owned z a hz
      obtain ⟨_, _, o, _, _, e, _⟩ := I.sv.ot a h1
      (first | exact absN ((hna).symm.trans e) | (rw [hna] at e; cases e))
    rw [List.lookup_cons] at hy hz
    split at hy
    · rename_i q1
      cases hy
      split at hz
      · rename_i q2
        rw [beq_iff_eq.mp q1, beq_iff_eq.mp q2]
      · exact (old z hz).elim
    · split at hz
      · cases hz; exact (old y hy).elim
      · exact I.inj y z b hy hz
  · by_cases q : b = L
    · subst q; obtain ⟨o', _, _, e', _⟩ := hn'; (first | exact absN ((e).symm.trans e') | (rw [e] at e'; cases e'))
    · cases z : h.get? b with
      | none => rfl
      | some o => (first | exact absN ((ex b o q z).symm.trans e) | (rw [ex b o q z] at e; cases e))
end
end Mine

-- SxSt2
namespace Mine
open PySem PyProof.Rows

section
variable {c : Cx} {G : Str → Option PV} {PE : Addr} {call : Calls} {A : Around} {env : Env} {outer : List Env} {L : Addr} {h₀ : Heap} {O : List Addr} {own : List (Str × Addr)} {ρ : Loc} {n : Nat} {ow : List Str}
  {s : Shared} {E : Value → Shared → Prop}

theorem PostE.here {α : Type} {r : Except Str α} (x : PostE c PE env outer h₀ r s E) (h' : Heap) (tk : Nat) : PostE c PE env outer h₀ r { s with heap := h', toks := tk } E := fun m e v h'' tk' q => x m e v h'' tk' q
theorem PostE.to {α β : Type} {m : Str} (x : PostE c PE env outer h₀ (.error m : Except Str α) s E) : PostE c PE env outer h₀ (.error m : Except Str β) s E := fun _ e => by cases e; exact x m rfl
theorem PostE.ok {α : Type} {a : α} : PostE c PE env outer h₀ (.ok a : Except Str α) s E := fun _ e => by cases e
theorem PostQ.after {r : Except Str (Fl × Loc)} {Q : Flow → Shared → Prop} {h1 : Heap} {tk1 : Nat} {O1 : List Addr} {own1 : List (Str × Addr)} {ρ1 : Loc} (x : PostQ c O env outer h₀ r s Q) (a : Aft c O env ρ1 outer h₀ s.heap h1 O1 own1) :
    PostQ c O1 env outer h₀ r { s with heap := h1, toks := tk1 } Q := fun fl ρ' e f h' tk O' own' y hf => x fl ρ' e f h' tk O' own' (a.trans y) hf

theorem ev_in {e : Expr} {r : Except Str RV} {Q : Value → Shared → Prop} (B : Bx c G PE call A env outer L h₀) (I : Iv c O own env ρ outer h₀ s.heap) (h : pe G n call env.scope.names ρ e = some r)
    (hQ : ∀ rv, r = .ok rv → ∀ v h' tk, GrowR (frs (env :: outer)) s.heap h' → RvRep c O own h' v rv → Q v { s with heap := h', toks := tk }) (hE : PostE c PE env outer h₀ r s E) :
    wpAny (model c.prog c.w) A (eval e env) Q E s :=
  (expr_ok c G n).1 _ _ _ _ _ _ _ own O _ _ _ B.hy h s _ _ I.sv (fun rv e v h' tk hR hv => hQ rv e v h' tk hR hv) fun m e v h' tk hf => hE m e v h' tk ⟨s.heap, I.grow, I.sv.p, .inl hf⟩

theorem kind_no (H : env.scope.kind = .function) : (env.scope.kind == .class || (env.scope.kind == .module && env.locals != env.globals)) = false := by rw [H]; rfl

/-- a name gets a value -/
theorem store_ok {x : Str} {v : Value} {d : PV} {A' : Around} {Q : Unit → Shared → Prop} (B : Bx c G PE call A env outer L h₀) (I : Iv c O own env ρ outer h₀ s.heap) (hk : env.scope.names.lookup x = some .local ∨ env.scope.names.lookup x = some .cell) (hv : Rep c O s.heap v d)
    (hQ : ∀ h' tk, Aft c O env (upd ρ x (.val d)) outer h₀ s.heap h' O own → Q () { s with heap := h', toks := tk }) : wpAny (model c.prog c.w) A' (storeName env x v) Q E s := by
  rcases hk with hk | hk
  · obtain ⟨m, hn, hm⟩ := I.sv.vars.locals
    exact wpAny_storeName_local hk hn (fun h' hn' hs => hQ h' _ (I.setLocal B hk hv hn hm hn' hs)) (kind_no B.hy.kind)
  · obtain ⟨cl, v0, hc, hi⟩ := I.sv.vars.there x hk
    exact wpAny_storeName_cell B.hy.kind hk hc hi fun h' hi' hs => hQ h' s.toks (I.setCell B hk hc hv hi hi' hs)

/-- a name gets a value while an iterator of the part's own is written -/
theorem Iv.setLocalW {x : Str} {v : Value} {d : PV} {m : Str → Option Value} {h h₂ h' : Heap} {wr : List Addr} (B : Bx c G PE call A env outer L h₀) (I : Iv c O own env ρ outer h₀ h) (hk : env.kindOf x = some .local) (hR : GrowR (frs (env :: outer)) h h₂)
    (hn : h₂.Ns env.locals m) (hm : ∀ x sl, env.kindOf x = some .local → ρ x = some sl → ∃ v, m x = some v ∧ SlotRep c O own h₂ x v sl) (hwr : ∀ b ∈ wr, h.get? b = none ∧ ∃ o vs, h₂.get? b = some o ∧ o.data = .fields vs)
    (hn' : h'.Ns env.locals (fun y => if y = x then some v else m y)) (hs : ∀ b o, b ≠ env.locals → b ∉ wr → h₂.get? b = some o → h'.get? b = some o) (hv : Rep c O h' v d) : Aft c O env (upd ρ x (.val d)) outer h₀ h h' O own := by
  have I2 := I.step B hR
  rw [B.locals] at hn hn' hs
  have hLd : ∀ o, h₂.get? L = some o → ∃ es ep, o.data = .dict es ep := fun o e => let ⟨o', es, ep, e', d, _⟩ := hn; by (first | exact absN ((e).symm.trans e') | (rw [e] at e'; cases e')); exact ⟨es, ep, d⟩
  have nw : ∀ b o, h₂.get? b = some o → (∀ vs, o.data ≠ .fields vs) → b ∉ wr := fun b o e hd q => by
    obtain ⟨_, o', vs, e', d⟩ := hwr b q
    (first | exact absN ((e).symm.trans e') | (rw [e] at e'; cases e')); exact hd vs d
  have sq : ∀ b o vs n, h₂.get? b = some o → o.data = .seq vs n → h'.get? b = some o := fun b o vs n e hd => hs b o (fun q => by
    subst q; obtain ⟨es, ep, d⟩ := hLd o e; (first | exact absN ((hd).symm.trans d) | (rw [hd] at d; cases d))) (nw b o e fun vs q => by (first | exact absN ((hd).symm.trans q) | (rw [hd] at q; cases q))) e
  have cl : ∀ {b v}, h₂.IsCell b v → h'.IsCell b v := fun {b v} ⟨o, e, hd⟩ => ⟨o, hs b o (fun q => by subst q; obtain ⟨es, ep, d⟩ := hLd o e; (first | exact absN ((hd).symm.trans d) | (rw [hd] at d; cases d))) (nw b o e fun vs q => by (first | exact absN ((hd).symm.trans q) | (rw [hd] at q; cases q))) e, hd⟩
  have hLb : c.base.get? L = none := funFrames_none I.sv.p.frames L B.L_mem
  have hP : Pst c (env :: outer) h' := I2.sv.p.anew (fun b o e => hs b o (fun q => by rw [q, hLb] at e; cases e) (fun q => by have := I.sv.p.stays b o e; (first | exact absN (((hwr b q).1).symm.trans this) | (rw [(hwr b q).1] at this; cases this))) (I2.sv.p.stays b o e)) fun b hb => by
    by_cases q : b = L
    · subst q
      obtain ⟨o', es, ep, e', d, _⟩ := hn'
      exact ⟨o', es, ep, e', d⟩
    · obtain ⟨o, es, ep, e, d⟩ := I2.sv.p.dicts b hb
      exact ⟨o, es, ep, hs b o q (nw b o e fun vs q => by (first | exact absN ((d).symm.trans q) | (rw [d] at q; cases q))) e, d⟩
  have hgrow : GrowR (frs outer) h₀ h' := (rl_grow (frs outer)).skip (wr := L :: wr) I2.grow (fun b hb => by
    rcases List.mem_cons.mp hb with rfl | hb
    · exact B.new
    · exact stay_all I.grow.2.1 b (hwr b hb).1) fun b o hb e => hs b o (fun q => hb (by rw [q]; exact List.mem_cons_self)) (fun q => hb (List.mem_cons_of_mem _ q)) e
  refine ⟨⟨⟨hP, ?_, fun a ha => ?_⟩, hgrow, I.owned, I.inj⟩, fun _ a => .inl a, fun _ a => a, fun b o e hb hd => ?_, fun a e => ?_⟩
  · have V := I2.sv.vars
    refine ⟨⟨_, by rw [B.locals]; exact hn', fun y sl hy hρ => ?_⟩, fun y sl hy hρ => ?_, fun y hy => let ⟨a, w, e, i⟩ := V.there y hy; ⟨a, w, e, cl i⟩⟩
    · by_cases q : y = x
      · subst q
        unfold upd at hρ
        rw [if_pos rfl] at hρ
        cases hρ
        exact ⟨v, if_pos rfl, hv⟩
      · unfold upd at hρ
        rw [if_neg q] at hρ
        obtain ⟨w, e, r⟩ := hm y sl hy hρ
        exact ⟨w, (if_neg q).trans e, slot_seqs sq r⟩
    · have q : y ≠ x := fun q => by subst q; rw [hk] at hy; rcases hy with hy | hy <;> cases hy
      unfold upd at hρ
      rw [if_neg q] at hρ
      obtain ⟨d', a, w, e1, e2, e3, e4⟩ := V.cells y sl hy hρ
      exact ⟨d', a, w, e1, e2, cl e3, e4.up (fun a o vs n _ e hd => sq a o vs n e hd)⟩
  · obtain ⟨h1, h2, o, vs, n, e, hd⟩ := I2.sv.ot a ha
    exact ⟨h1, h2, o, vs, n, sq a o vs n e hd, hd⟩
  · have e2 := BodyR.of_grow (O := O) I.sv.p hR b o e hb hd
    refine hs b o (fun q => ?_) (fun q => by (first | exact absN (((hwr b q).1).symm.trans e) | (rw [(hwr b q).1] at e; cases e))) e2
    subst q
    obtain ⟨es, ep, d⟩ := hLd o e2
    rcases hd with ⟨vs, q⟩ | ⟨vs, n, q⟩ <;> ((first | exact absN ((d).symm.trans q) | (rw [d] at q; cases q)))
  · cases z : h.get? a with
    | none => rfl
    | some o =>
      obtain ⟨sl, e2⟩ := hR.2.1 a o z
      by_cases q : a = L
      · subst q; obtain ⟨o', _, _, e', _⟩ := hn'; (first | exact absN ((e).symm.trans e') | (rw [e] at e'; cases e'))
      · rw [hs a _ q (fun q => by (first | exact absN (((hwr a q).1).symm.trans z) | (rw [(hwr a q).1] at z; cases z))) e2] at e; cases e

theorem swaps_no {e : Expr} {r : Except Str RV} {sc : Names} {x : Str} {p : Pos} {line : Nat} (h : pe G n call sc ρ e = some r) (hc : isComp e = false) : swapsWith e (some (.Name x p)) line env = pure false := by
  cases n with
  | zero => exact absN (show none = some _ from h)
  | succ n => cases e <;> first | rfl | (exact absN (show none = some _ from h); done) | (exfalso; cases hc; done)
theorem swaps_expr {e : Expr} {x : Str} {a : Expr} {line : Nat} (h : isAppend e = some (x, a)) : swapsWith e none line env = pure false := by
  cases e <;> first | rfl | cases h

noncomputable def PxOk (c : Cx) (G : Str → Option PV) (n : Nat) : Prop :=
  ∀ PE call A env outer L h₀ ow O own ρ st r, Bx c G PE call A env outer L h₀ → px G call ow n env.scope.names ρ st = some r → ∀ s Q E, PassesOwn (model c.prog c.w) A env E → Iv c O own env ρ outer h₀ s.heap →
    PostQ c O env outer h₀ r s Q → PostE c PE env outer h₀ r s E → wpAny (model c.prog c.w) A (exec st env) Q E s
noncomputable def PxsOk (c : Cx) (G : Str → Option PV) (n : Nat) : Prop :=
  ∀ PE call A env outer L h₀ ow O own ρ ss r, Bx c G PE call A env outer L h₀ → pxs G call ow n env.scope.names ρ ss = some r → ∀ s Q E, PassesOwn (model c.prog c.w) A env E → Iv c O own env ρ outer h₀ s.heap →
    PostQ c O env outer h₀ r s Q → PostE c PE env outer h₀ r s E → wpAny (model c.prog c.w) A (execs ss env) Q E s

theorem pxs_step (hpx : PxOk c G n) (hpxs : PxsOk c G n) : PxsOk c G (n + 1) := by
  intro PE call A env outer L h₀ ow O own ρ ss r B h s Q E hE I pq pe
  unfold pxs at h
  split at h
  · cases h
    exact wpAny_execs_nil (pq _ _ rfl .next s.heap s.toks O own (.refl I) trivial)
  · refine wpAny_execs_cons ?_
    rcases bd_inv h with ⟨m, hm, rfl⟩ | ⟨⟨fl, ρ1⟩, hm, h1⟩
    · exact hpx _ _ _ _ _ _ _ _ _ _ _ _ _ B hm s _ _ hE I (fun _ _ e => by cases e) pe.to
    · refine hpx _ _ _ _ _ _ _ _ _ _ _ _ _ B hm s _ _ hE I (fun fl' ρ' e f h' tk O' own' a hf => ?_) .ok
      cases e
      clear h
      dsimp only at h1
      cases fl with
      | next =>
        cases f with
        | next => exact hpxs _ _ _ _ _ _ _ _ _ _ _ _ _ B h1 _ _ _ hE a.iv (pq.after a) (pe.here _ _)
        | _ => exact hf.elim
      | brk =>
        cases h1
        cases f with
        | brk => exact pq _ _ rfl .brk h' tk O' own' a trivial
        | _ => exact hf.elim
      | ret rv =>
        cases h1
        cases f with
        | ret v => exact pq _ _ rfl (.ret v) h' tk O' own' a hf
        | _ => exact hf.elim

/-- x = [] -/
theorem px_nil {x : Str} {xp p pos : Pos} {Q : Flow → Shared → Prop} (B : Bx c G PE call A env outer L h₀) (I : Iv c O own env ρ outer h₀ s.heap) (hk : env.scope.names.lookup x = some .local)
    (pq : PostQ c O env outer h₀ (.ok (.next, upd ρ x (.own []))) s Q) : wpAny (model c.prog c.w) A (exec (.Assign [.Name x xp] (.List [] p) pos) env) Q E s := by
  refine wpAny_Assign_Name (PyProof.Rows.List_ (Calls.spliced_nil (wpAny_newObj_type ?_)))
  obtain ⟨m, hn, hm⟩ := I.sv.vars.locals
  refine wpAny_storeName_local hk (hn.at' fun o e => Heap.get?_push_of_some _ e) (fun h' hn' hs => ?_) (kind_no B.hy.kind)
  exact pq _ _ rfl .next h' _ _ _ (I.newOwn B hk rfl rfl hn hm hn' hs) trivial

/-- x = [.. for ..] -/
theorem px_comp {x : Str} {xp pos : Pos} {e : Expr} {r : Except Str RV} {Q : Flow → Shared → Prop} (B : Bx c G PE call A env outer L h₀) (I : Iv c O own env ρ outer h₀ s.heap) (hc : isComp e = true) (hk : env.scope.names.lookup x = some .local) (hsw : swapOk x xp e = true)
    (h : pe G n call env.scope.names ρ e = some r) (hQ : ∀ d, r = .ok (.val d) → ∀ h' tk, Aft c O env (upd ρ x (.val d)) outer h₀ s.heap h' O own → Q .next { s with heap := h', toks := tk }) (hE : PostE c PE env outer h₀ r s E) :
    wpAny (model c.prog c.w) A (exec (.Assign [.Name x xp] e pos) env) Q E s := by
  cases n with
  | zero => exact absN (show none = some _ from h)
  | succ n =>
  cases peC e with
  | no _ hn => rw [hn] at h; exact absN h
  | comp elt t tp it ifs csc p =>
    rw [pq_comp] at h
    · split at h
      · rename_i hcc
        obtain ⟨hkk, hsc⟩ := hcc
        obtain ⟨r', hcm, he', ho'⟩ := compM_of h
        obtain ⟨cl, tab⟩ := compTab B.hy.kind hsc I.sv.vars
        obtain ⟨hpe, hpt, _, _, _, _, hpits⟩ := expr_ok c G n
        have er : ErP (Flies PE (env :: outer)) r' s E := fun m e v h' tk hf => hE m (he' m e) v h' tk ⟨s.heap, I.grow, I.sv.p, .inl hf⟩
        have hs := (comp_run (Q := fun _ _ => True) hpe hpt hpits B.hy I.sv hcm hkk tab er (fun _ _ _ _ _ _ _ _ _ _ _ _ _ _ _ _ _ _ _ _ _ => trivial)).1
        have hsw' : swapsWith (.ListComp elt [⟨.Name t tp, it, ifs, 0⟩] csc p) (some (.Name x xp)) pos.line env = pure true := by
          have hb : env.blockKind = .function := by unfold Env.blockKind; rw [B.hy.kind]; rfl
          have hkx : env.kindOf x = some .local := hk
          show (pure (env.blockKind == .function && env.kindOf x == some .local && xp.line == p.line && !(csc.names.any fun q => q.1 == x && (q.2 == .local || q.2 == .cell))) : Sem Bool) = pure true
          have hsw : (xp.line == p.line && !(csc.names.any fun q => q.1 == x && (q.2 == .local || q.2 == .cell))) = true := hsw
          rw [hb, hkx, Bool.and_assoc, hsw]
          rfl
        refine lc_assign hsw' tab.clos tab.cell hkk tab.names tab.x hk (kind_no B.hy.kind) (comp_run hpe hpt hpits B.hy I.sv hcm hkk tab er ?_).2 hs
        rintro J s₂ fp wr k Pv St pp F out rfl ⟨h₂, tk, rfl⟩ hR W hsz hst hfp hq sv2 hwr hpr
        have I2 := I.step B hR
        obtain ⟨m, hn, hm⟩ := I2.sv.vars.locals
        refine ⟨J, fp, wr, k, Pv, St, pp, F, rfl, W, hsz, hst, hfp, hq, m, fun q => ?_, hn, fun D h' tk' ys vs hD hpl hl hv hp hn' hkeep => ?_⟩
        · obtain ⟨_, o, vs, e, d⟩ := hwr _ q
          obtain ⟨o', es, ep, e', d', _⟩ := hn
          have e : h₂.get? env.locals = some o := e
          (first | exact absN ((e).symm.trans e') | (rw [e] at e'; cases e')); (first | exact absN ((d).symm.trans d') | (rw [d] at d'; cases d'))
        · have hr := hpr ys vs hl hv hp
          have hnL : ∀ o vs, h₂.get? env.locals = some o → o.data = .seq vs 0 ∨ (∃ n, o.data = .seq vs n) → False := fun o vs e d => by
            obtain ⟨o', es, ep, e', d', _⟩ := hn
            have e' : h₂.get? env.locals = some o' := e'
            (first | exact absN ((e).symm.trans e') | (rw [e] at e'; cases e'))
            rcases d with d | ⟨_, d⟩ <;> ((first | exact absN ((d).symm.trans d') | (rw [d] at d'; cases d')))
          have up : UpSeq O h₂ h' := fun a o vs k _ e hd => hkeep a o (fun q => by subst q; exact hnL o vs e (.inr ⟨_, hd⟩)) (fun hb => by
            obtain ⟨_, o', vs', e', hd'⟩ := hwr a hb
            have e' : h₂.get? a = some o' := e'
            (first | exact absN ((e).symm.trans e') | (rw [e] at e'; cases e')); (first | exact absN ((hd).symm.trans hd') | (rw [hd] at hd'; cases hd'))) e
          obtain ⟨nn, hpl⟩ := hpl
          refine hQ _ (ho' out rfl) h' tk' (I.setLocalW B hk hR hn hm hwr hn' hkeep (.list (fun ha => ?_) (vs := ys.toList) (by rw [Array.toArray_toList]; exact hpl) (hr.up up)))
          obtain ⟨_, _, o, _, _, e, _⟩ := sv2.ot D ha
          have hD : h₂.get? D = none := hD
          have e : h₂.get? D = some o := e
          (first | exact absN ((hD).symm.trans e) | (rw [hD] at e; cases e))
      · first | exact absN h | cases h
  | _ => cases hc
end
end Mine

-- SxSt3
namespace Mine
open PySem PyProof.Rows

section
variable {c : Cx} {G : Str → Option PV} {PE : Addr} {call : Calls} {A : Around} {env : Env} {outer : List Env} {L : Addr} {h₀ : Heap} {O : List Addr} {own : List (Str × Addr)} {ρ : Loc} {n : Nat} {ow : List Str}
  {s : Shared} {E : Value → Shared → Prop}

theorem assignEach_names {sc : Names} {ts : List Expr} : ∀ {ds : List PV} {ρ ρ' : Loc}, bindAll sc ρ ts ds = some ρ' → (assignEach ts env).length = ds.length ∧ (assignEach ts env).findIdx? (·.1) = none := by
  induction ts with
  | nil =>
    intro ds ρ ρ' h
    cases ds with
    | nil => exact ⟨rfl, rfl⟩
    | cons d ds => exact absN h
  | cons t ts ih =>
    intro ds ρ ρ' h
    cases ds with
    | nil => rw [bind_no] at h; exact absN h
    | cons d ds =>
      cases nameC t with
      | no _ _ hb => rw [hb] at h; exact absN h
      | yes x p =>
        rw [bind_yes] at h
        split at h
        · obtain ⟨h1, h2⟩ := ih h
          have e : assignEach (.Name x p :: ts) env = (false, assign (.Name x p) env) :: assignEach ts env := rfl
          rw [e]
          refine ⟨by simp [h1], ?_⟩
          rw [List.findIdx?_cons, h2]
          rfl
        · exact absN h

theorem bind_all (B : Bx c G PE call A env outer L h₀) (ts : List Expr) : ∀ {ds : List PV} {vs : List Value} {ρ ρ' : Loc} {s : Shared} {Q : Unit → Shared → Prop}, bindAll env.scope.names ρ ts ds = some ρ' → Iv c O own env ρ outer h₀ s.heap → Reps c O s.heap vs ds →
    (∀ h' tk, Aft c O env ρ' outer h₀ s.heap h' O own → Q () { s with heap := h', toks := tk }) → wpAny (model c.prog c.w) A (assignInOrder ((assignEach ts env).map (·.2)) vs) Q E s := by
  induction ts with
  | nil =>
    intro ds vs ρ ρ' s Q h I hr hQ
    cases ds with
    | nil =>
      cases h
      exact PyProof.Rows.assignInOrder_nil (hQ s.heap s.toks (.refl I))
    | cons d ds => exact absN h
  | cons t ts ih =>
    intro ds vs ρ ρ' s Q h I hr hQ
    cases ds with
    | nil => rw [bind_no] at h; exact absN h
    | cons d ds =>
      cases nameC t with
      | no _ _ hb => rw [hb] at h; exact absN h
      | yes x p =>
        rw [bind_yes] at h
        split at h
        · rename_i hk
          cases hr with
          | cons hv hr =>
            have e : assignEach (.Name x p :: ts) env = (false, assign (.Name x p) env) :: assignEach ts env := rfl
            rw [e]
            refine PyProof.Rows.assignInOrder_cons (PyProof.Rows.assign_Name (store_ok B I hk hv fun h1 tk1 a => ?_))
            exact ih h a.iv (hr.up a.keep.upSeq) fun h2 tk2 a2 => hQ h2 tk2 (a.trans a2)
        · first | exact absN h | cases h

theorem px_unpack {ts : List Expr} {k : Nat} {tp pos : Pos} {e : Expr} {r : Except Str RV} {Q : Flow → Shared → Prop} (B : Bx c G PE call A env outer L h₀) (I : Iv c O own env ρ outer h₀ s.heap) (he : isTup e = false) (h : pe G n call env.scope.names ρ e = some r)
    (hQ : ∀ rv, r = .ok rv → ∃ ds ρ', rv = .val (.tup ds) ∧ bindAll env.scope.names ρ ts ds = some ρ' ∧ ∀ h' tk, Aft c O env ρ' outer h₀ s.heap h' O own → Q .next { s with heap := h', toks := tk }) (hE : PostE c PE env outer h₀ r s E) :
    wpAny (model c.prog c.w) A (exec (.Assign [.Tuple ts k tp] e pos) env) Q E s := by
  refine PyProof.Rows.Assign_Tuple ?_ (by cases e <;> rfl) (by cases e <;> first | rfl | cases he)
  refine ev_in B I h (fun rv er v h' tk hR hv => ?_) hE
  obtain ⟨ds, ρ', rfl, hb, hq⟩ := hQ rv er
  obtain ⟨_, _, _, rfl, ha, l, rr⟩ := Rep.tup_inv hv
  · skip
    rename_i a vs nn
    obtain ⟨h1, h2⟩ := assignEach_names (env := env) hb
    refine wpAny_assign_Tuple (items := vs.toArray) B.hy.handled ⟨_, l, rfl, _, rfl⟩ (by rw [List.size_toArray, rr.length]; exact h1) h2 fun h3 ext => ?_
    have kp : KeepsR h' h3 := fun b o e => ext b o (Nat.ne_of_lt (Heap.lt_size e)) e
    have g3 : GrowR (frs (env :: outer)) s.heap h3 := (rl_grow _).trans hR ((rl_grow _).of_keeps kp)
    have a1 := Aft.of_step B I g3
    exact bind_all (s := { s with heap := h3, toks := tk }) B ts hb a1.iv (rr.up (.of_keeps kp)) fun h4 tk4 a4 => hq h4 tk4 (a1.trans a4)

theorem name_own {x : Str} {p : Pos} {ds : List PV} {Q : Value → Shared → Prop} (B : Bx c G PE call A env outer L h₀) (I : Iv c O own env ρ outer h₀ s.heap) (hk : env.scope.names.lookup x = some .local) (ho : oddName x = false) (hρ : ρ x = some (.own ds))
    (hQ : ∀ a vs k, own.lookup x = some a → IsL s.heap a vs.toArray k → Reps c O s.heap vs ds → Q (.ref a) s) : wpAny (model c.prog c.w) A (eval (.Name x p) env) Q E s := by
  obtain ⟨m, hn, hm⟩ := I.sv.vars.locals
  obtain ⟨v, e, a, e1, rfl, _, vs, k, l, r⟩ := hm x _ hk hρ
  obtain ⟨hd, _⟩ := odd_inv (by rw [ho]; decide)
  exact wpAny_Name (wpAny_loadName_local B.hy.kind hk hn e (hQ a vs k e1 l r)) hd

theorem px_append {x : Str} {a e : Expr} {pos : Pos} {ds : List PV} {r : Except Str RV} {Q : Flow → Shared → Prop} (B : Bx c G PE call A env outer L h₀) (I : Iv c O own env ρ outer h₀ s.heap) (he : isAppend e = some (x, a)) (hk : env.scope.names.lookup x = some .local) (hρ : ρ x = some (.own ds))
    (h : pe G n call env.scope.names ρ a = some r) (hQ : ∀ rv, r = .ok rv → ∃ d, rv = .val d ∧ ds.length < lim ∧ ∀ h' tk, Aft c O env (upd ρ x (.own (ds ++ [d]))) outer h₀ s.heap h' O own → Q .next { s with heap := h', toks := tk }) (hE : PostE c PE env outer h₀ r s E) :
    wpAny (model c.prog c.w) A (exec (.Expr e pos) env) Q E s := by
  refine wpAny_Expr_any ?_ (by unfold interactive; rw [B.hy.kind]; rfl) (swaps_expr he)
  obtain ⟨xp, apos, cpos, rfl, hline, hodd⟩ := isAppend_inv he
  have hst := star_plain (env := env) (rest := []) h
  refine wpAny_Call_append rfl (by rw [hst]; rfl) hline (by rw [hst]; rfl) (name_own B I hk hodd hρ fun D vs k ho l rr => ⟨D, vs.toArray, rfl, ⟨_, _, l, rfl, rfl, rfl⟩, ?_⟩)
  refine ev_in B I h (fun rv er v h' tk hR hv => ?_) hE
  obtain ⟨d, rfl, hlen, hq⟩ := hQ rv er
  have a1 := Aft.of_step B I hR
  have hD : D ∉ frs (env :: outer) := (I.sv.ot D (I.owned x D ho).1).1
  have l' : IsL h' D vs.toArray k := hR.1 D _ hD l
  refine wpAny_list_append_plain (s := { s with heap := h', toks := tk }) ⟨k, l'⟩ (fun h2 hpl hs => ?_) (by rw [List.size_toArray, rr.length]; exact Nat.le_trans (Nat.le_of_lt hlen) lim_size)
  obtain ⟨k2, hpl⟩ := hpl
  have rr' : Reps c O h' vs ds := rr.up ((rl_grow _).seq hR O)
  refine hq h2 tk (a1.trans (a1.iv.setOwn hk hρ ho (vs' := vs ++ [v]) (by simpa using hpl) (rr'.append (.cons hv .nil)) hs))

theorem px_del {x : Str} {e : Expr} {pos : Pos} {ds : List PV} {Q : Flow → Shared → Prop} (B : Bx c G PE call A env outer L h₀) (I : Iv c O own env ρ outer h₀ s.heap) (he : isLast e = some x) (hk : env.scope.names.lookup x = some .local) (hρ : ρ x = some (.own ds))
    (h0 : ds.length ≠ 0) (h1 : ds.length ≤ lim) (hQ : ∀ h' tk, Aft c O env (upd ρ x (.own ds.dropLast)) outer h₀ s.heap h' O own → Q .next { s with heap := h', toks := tk }) :
    wpAny (model c.prog c.w) A (exec (.Delete [e] pos) env) Q E s := by
  obtain ⟨xp, p, q, r, kk, rfl, hodd⟩ := isLast_inv he
  refine wpAny_Delete (wpAny_deleteEach_cons (wpAny_delete_Subscript (name_own B I hk hodd hρ fun D vs k ho l rr => ?_)))
  refine PyProof.Rows.UnaryOp_ (wpAny_Constant_int (PyProof.Rows.neg_int ?_))
  have hsz : vs.length = ds.length := rr.length
  have hlast : vs.toArray.toList.eraseIdx (ds.length - 1) = vs.dropLast := by
    show vs.eraseIdx (ds.length - 1) = vs.dropLast
    rw [← hsz, List.eraseIdx_eq_take_drop_succ, List.dropLast_eq_take, List.drop_of_length_le (by (first | lia | omega)), List.append_nil]
  refine PyProof.Rows.delItem_at (its := vs.toArray) (n := k) (k := ds.length - 1) l (by decide) ?_ (fun h' hs hob => wpAny_deleteEach_nil ?_) (by rw [List.size_toArray, hsz]; exact Nat.le_trans h1 lim_size)
  · rw [List.size_toArray, hsz]
    unfold seqIndex?
    have h2 : (0 : Int) ≤ -1 + (ds.length : Int) := by (first | lia | omega)
    have h3 : -1 + (ds.length : Int) < (ds.length : Int) := by (first | lia | omega)
    have h4 : (-1 + (ds.length : Int)).toNat = ds.length - 1 := by (first | lia | omega)
    simp [h2, h3, h4]
  · rw [hlast] at hob
    exact hQ h' _ (I.setOwn hk hρ ho (vs' := vs.dropLast) hob rr.dropLast hs)

/-- raise PatternError(e) -/
theorem px_raise {a e : Expr} {pos : Pos} {r : Except Str RV} {Q : Flow → Shared → Prop} (B : Bx c G PE call A env outer L h₀) (I : Iv c O own env ρ outer h₀ s.heap) (he : isRaise e = some a) (hk : env.scope.names.lookup ("PatternError" : Str) = some .globalImplicit)
    (h : pe G n call env.scope.names ρ a = some r) (hQ : ∀ rv, r = .ok rv → ∃ m, rv = .val (.str m) ∧ PostE c PE env outer h₀ (.error m : Except Str Unit) s E) (hE : PostE c PE env outer h₀ r s E) :
    wpAny (model c.prog c.w) A (exec (.Raise (some e) none pos) env) Q E s := by
  obtain ⟨gp, cp, rfl⟩ := isRaise_inv he
  obtain ⟨bm, newId, initId, Bn, O1, FB⟩ := B.exc.own
  obtain ⟨tl, N, nm, q, bs, hdct, sn, sub, ab, col, dd, k0, k1, k2, k3, k5, mN, hC, hN, hni, T⟩ := O1.own.obj
  have hst := star_plain (env := env) (rest := []) h
  refine wpAny_Raise_call_subT (C := PE) (nm := nm) (q := q) (N := N) (bs := bs) (bm := tl) (hdct := hdct) (sn := sn) (sub := sub) (ab := ab) (col := col) (dd := dd) (k0 := k0) (k1 := k1) (k2 := k2) (k3 := k3) (k5 := k5)
    FB (mN := mN) (T.hasType FB.hasBase) B.hy.handled (by rw [hst]; rfl) hni (staysIn_global B.hy (B.hy.pB I.sv.p) hk O1.bound (by decide) ⟨rfl, ?_⟩)
  rw [hst]
  refine Calls.evalArgs_plain (Calls.spliced_cons (ev_in B I h (fun rv er v h' tk hR hv => Calls.spliced_nil ?_) hE))
  obtain ⟨m, rfl, hm⟩ := hQ rv er
  have I2 := I.step B hR
  have st := B.hy.pB I2.sv.p
  cases hv with
  | str _ u =>
    refine ⟨rfl, by rw [sizeLine_eq]; show 1 ≤ _; decide, st _ _ hC, hN.keeps st, T.keeps st, fun h2 e2 hx => ?_⟩
    exact hm m rfl _ h2 _ ⟨h', I2.grow, I2.sv.p, .inr ⟨e2, u, rfl, hx⟩⟩
end
end Mine

-- SxSt4
namespace Mine
open PySem PyProof.Rows

section
variable {c : Cx} {G : Str → Option PV} {PE : Addr} {call : Calls} {A : Around} {env : Env} {outer : List Env} {L : Addr} {h₀ : Heap} {O : List Addr} {own : List (Str × Addr)} {ρ : Loc} {n : Nat} {ow : List Str}
  {s : Shared} {E : Value → Shared → Prop}

/-- the state while a loop is under way -/
structure Lp (c : Cx) (O : List Addr) (env : Env) (outer : List Env) (h₀ hs h' : Heap) (fp wr : List Addr) (ρi : Loc) (hi : Heap) (Oi : List Addr) (owni : List (Str × Addr)) : Prop where
  aft : Aft c O env ρi outer h₀ hs hi Oi owni
  up : UpSeq O h' hi
  more : ∀ a ∈ Oi, a ∈ O ∨ h'.get? a = none
  fpo : ∀ b ∈ fp, b ∉ wr → ∃ o, hi.get? b = some o ∧ ((∃ vs, o.data = .fields vs) ∨ ∃ vs n, o.data = .seq vs n)
  fpn : ∀ b ∈ fp, b ∉ Oi
  fph : ∀ b ∈ fp, ∃ o, h'.get? b = some o
  stay : ∀ a, hi.get? a = none → h'.get? a = none

/-- only the iterator moved -/
theorem Iv.moved {wr : List Addr} {h h' : Heap} (B : Bx c G PE call A env outer L h₀) (I : Iv c O own env ρ outer h₀ h) (hwr0 : ∀ b ∈ wr, h₀.get? b = none) (hwr : ∀ b ∈ wr, ∃ o vs, h.get? b = some o ∧ o.data = .fields vs)
    (k : ∀ b o, b ∉ wr → h.get? b = some o → h'.get? b = some o) : Iv c O own env ρ outer h₀ h' := by
  have nf : ∀ b o, h.get? b = some o → (∀ vs, o.data ≠ .fields vs) → h'.get? b = some o := fun b o e hd => k b o (fun q => by
    obtain ⟨o', vs, e', d⟩ := hwr b q
    (first | exact absN ((e).symm.trans e') | (rw [e] at e'; cases e')); exact hd vs d) e
  refine ⟨⟨I.sv.p.anew (fun b o e => k b o (fun q => ?_) (I.sv.p.stays b o e)) fun a ha => ?_, I.sv.vars.move nf, fun a ha => ?_⟩, (rl_grow _).skip I.grow hwr0 k, I.owned, I.inj⟩
  · have := B.base0 b o e
    (first | exact absN ((hwr0 b q).symm.trans this) | (rw [hwr0 b q] at this; cases this))
  · obtain ⟨o, es, ep, e, d⟩ := I.sv.p.dicts a ha
    exact ⟨o, es, ep, nf a o e (fun vs q => by (first | exact absN ((d).symm.trans q) | (rw [d] at q; cases q))), d⟩
  · obtain ⟨h1, h2, o, vs, n, e, hd⟩ := I.sv.ot a ha
    exact ⟨h1, h2, o, vs, n, nf a o e (fun vs q => by (first | exact absN ((hd).symm.trans q) | (rw [hd] at q; cases q))), hd⟩

theorem Lp.moved {wr fp : List Addr} {hs h' hi h1 : Heap} {ρi : Loc} {Oi : List Addr} {owni : List (Str × Addr)} (B : Bx c G PE call A env outer L h₀) (X : Lp c O env outer h₀ hs h' fp wr ρi hi Oi owni) (hwr : ∀ b ∈ wr, hs.get? b = none) (hwo : ∀ b ∈ wr, ∃ o vs, hi.get? b = some o ∧ o.data = .fields vs)
    (hw1 : ∀ b ∈ wr, ∃ o, h1.get? b = some o) (hwh : ∀ b ∈ wr, ∃ o vs, h'.get? b = some o ∧ o.data = .fields vs) (h0s : ∀ a, hs.get? a = none → h₀.get? a = none) (k : ∀ b o, b ∉ wr → hi.get? b = some o → h1.get? b = some o) : Lp c O env outer h₀ hs h' fp wr ρi h1 Oi owni where
  aft := ⟨X.aft.iv.moved B (fun b hb => h0s b (hwr b hb)) hwo k, X.aft.more, X.aft.sub, fun b o e hb hd => k b o (fun q => by (first | exact absN ((hwr b q).symm.trans e) | (rw [hwr b q] at e; cases e))) (X.aft.keep b o e hb hd), fun a e => by
    cases q : hs.get? a with
    | none => rfl
    | some o =>
      cases z : hi.get? a with
      | none => (first | exact absN ((X.aft.stay a z).symm.trans q) | (rw [X.aft.stay a z] at q; cases q))
      | some o' => rw [k a o' (fun w => by (first | exact absN ((hwr a w).symm.trans q) | (rw [hwr a w] at q; cases q))) z] at e; cases e⟩
  up := fun a o vs n ha e hd => k a o (fun q => by
    obtain ⟨o', vs', e', d⟩ := hwh a q
    (first | exact absN ((e).symm.trans e') | (rw [e] at e'; cases e')); (first | exact absN ((hd).symm.trans d) | (rw [hd] at d; cases d))) (X.up a o vs n ha e hd)
  more := X.more
  fpo := fun b hb hw => let ⟨o, e, d⟩ := X.fpo b hb hw; ⟨o, k b o hw e, d⟩
  fpn := X.fpn
  fph := X.fph
  stay := fun a e => by
    by_cases w : a ∈ wr
    · obtain ⟨o, e'⟩ := hw1 a w; (first | exact absN ((e).symm.trans e') | (rw [e] at e'; cases e'))
    · cases z : hi.get? a with
      | none => exact X.stay a z
      | some o' => (first | exact absN ((k a o' w z).symm.trans e) | (rw [k a o' w z] at e; cases e))

theorem Lp.after {wr fp : List Addr} {hs h' hi h1 : Heap} {ρi ρ1 : Loc} {Oi O1 : List Addr} {owni own1 : List (Str × Addr)} (X : Lp c O env outer h₀ hs h' fp wr ρi hi Oi owni) (a : Aft c Oi env ρ1 outer h₀ hi h1 O1 own1) (hwo : ∀ b ∈ wr, ∃ o vs, hi.get? b = some o ∧ o.data = .fields vs) :
    Lp c O env outer h₀ hs h' fp wr ρ1 h1 O1 own1 where
  aft := X.aft.trans a
  up := fun b o vs n hb e hd => a.keep b o (X.up b o vs n hb e hd) (fun q => (X.more b q).elim hb fun z => by (first | exact absN ((z).symm.trans e) | (rw [z] at e; cases e))) (.inr ⟨_, _, hd⟩)
  more := fun b hb => (a.more b hb).elim (X.more b) fun e => .inr (X.stay b e)
  fpo := fun b hb hw => let ⟨o, e, d⟩ := X.fpo b hb hw; ⟨o, a.keep b o e (X.fpn b hb) d, d⟩
  fpn := fun b hb q => (a.more b q).elim (X.fpn b hb) fun e => by
    by_cases w : b ∈ wr
    · obtain ⟨o, _, e', _⟩ := hwo b w; (first | exact absN ((e).symm.trans e') | (rw [e] at e'; cases e'))
    · obtain ⟨o, e', _⟩ := X.fpo b hb w; (first | exact absN ((e).symm.trans e') | (rw [e] at e'; cases e'))
  fph := X.fph
  stay := fun b e => X.stay b (a.stay b e)

theorem px_for {x : Str} {xp pos : Pos} {it : Expr} {body : List Stmt} {m : Except Str (List PV)} {r : Except Str (Fl × Loc)} {Q : Flow → Shared → Prop} (hpits : PitsOk c G n) (hpxs : PxsOk c G n) (B : Bx c G PE call A env outer L h₀) (hE : PassesOwn (model c.prog c.w) A env E)
    (I : Iv c O own env ρ outer h₀ s.heap) (hk : env.scope.names.lookup x = some .local) (hm : pits G n call env.scope.names ρ it = some m) (he : ∀ e, m = .error e → r = .error e) (hr : ∀ ds, m = .ok ds → ploop (onBody (pxs G call ow n env.scope.names) body) x ds ρ = some r)
    (pq : PostQ c O env outer h₀ r s Q) (pe : PostE c PE env outer h₀ r s E) : wpAny (model c.prog c.w) A (exec (.For (.Name x xp) it body [] pos) env) Q E s := by
  obtain ⟨hs, hw⟩ := hpits _ _ _ _ _ A _ own O _ it _ B.hy hm
  refine wpAny_For (hw s _ _ I.sv (fun ds e itv h' tk hR hi => ?_) fun e q v h' tk hf => pe e (he e q) v h' tk ⟨s.heap, I.grow, I.sv.p, .inl hf⟩) hs
  subst e
  have hloop := hr ds rfl
  obtain ⟨J, fp, wr, Pv, St, rfl, W, hst, hwr, hfp, hP, hSt⟩ := hi
  have h0s : ∀ a, s.heap.get? a = none → h₀.get? a = none := stay_all I.grow.2.1
  have X0 : Lp c O env outer h₀ s.heap h' fp wr ρ h' O own := ⟨Aft.of_step B I hR, fun _ _ _ _ _ e _ => e, fun _ a => .inl a, fun b hb _ => (hfp b hb).2, fun b hb => (hfp b hb).1, fun b hb => let ⟨o, e, _⟩ := (hfp b hb).2; ⟨o, e⟩, fun _ e => e⟩
  refine codeAny_forLoop (R := fun r s' => match r with | .ok f => Q f s' | .error e => cameBackBy (model c.prog c.w) A env E e s')
    (fun k s' => ∃ i ρi hi tki Oi owni, s' = { s with heap := hi, toks := tki } ∧ k = ds.length + 1 - i ∧ i ≤ ds.length ∧ St i hi ∧ Lp c O env outer h₀ s.heap h' fp wr ρi hi Oi owni ∧ ploop (onBody (pxs G call ow n env.scope.names) body) x (ds.drop i) ρi = some r) ?_ (ds.length + 1)
    ⟨0, ρ, h', tk, O, own, rfl, rfl, Nat.zero_le _, hst, X0, hloop⟩
  rintro k s' ⟨i, ρi, hi, tki, Oi, owni, rfl, rfl, hle, hsti, X, hlp⟩
  by_cases hlt : i < ds.length
  · refine W.item i _ _ _ hlt hsti fun v h1 tk1 hPv hst1 hk1 => ?_
    have X1 : Lp c O env outer h₀ s.heap h' fp wr ρi h1 Oi owni := X.moved B (fun b hb => (hwr b hb).1) (hSt i hi hsti) (fun b hb => let ⟨o, _, e, _⟩ := hSt _ _ hst1 b hb; ⟨o, e⟩) (fun b hb => (hwr b hb).2) h0s hk1
    obtain ⟨d, hd, hrep⟩ := hP i v hlt hPv
    have hrep1 : Rep c Oi h1 v d := by
      have r0 : Rep c Oi h' v d := Rep.more X.more (hrep h' fun _ _ _ _ _ e _ => e)
      refine Rep.up (fun a o vs nn ha e hdd => X1.up a o vs nn (fun q => ha (X.aft.sub a q)) e hdd) r0
    refine wpAny_assign_Name (store_ok (s := { s with heap := h1, toks := tk1 }) B X1.aft.iv (.inl hk) hrep1 fun h2 tk2 a2 => ?_)
    have X2 := X1.after a2 (hSt _ _ hst1)
    have hst2 : St (i + 1) h2 := W.frame _ _ _ hst1 fun b hb o e => by
      by_cases w : b ∈ wr
      · obtain ⟨o', vs, e', dd⟩ := hSt _ _ hst1 b w
        have e'' : h1.get? b = some o' := e'
        (first | exact absN ((e).symm.trans e'') | (rw [e] at e''; cases e''))
        exact a2.keep b o e (X1.fpn b hb) (.inl ⟨vs, dd⟩)
      · obtain ⟨o', e', dd⟩ := X1.fpo b hb w
        (first | exact absN ((e).symm.trans e') | (rw [e] at e'; cases e'))
        exact a2.keep b o e (X1.fpn b hb) dd
    have hdrop : ds.drop i = d :: ds.drop (i + 1) := by rw [List.drop_eq_getElem_cons hlt]; (first | exact absN ((List.getElem?_eq_getElem hlt).symm.trans hd) | (rw [List.getElem?_eq_getElem hlt] at hd; cases hd)); rfl
    rw [hdrop] at hlp
    unfold ploop at hlp
    refine wpAny_passesOwn hE ?_
    unfold onBody at hlp
    rcases bd_inv hlp with ⟨e, hme, hre⟩ | ⟨⟨fl, ρ3⟩, hmo, hlp3⟩
    · subst hre
      exact hpxs _ _ _ _ _ _ _ _ _ _ _ _ _ B hme _ _ _ hE a2.iv (fun _ _ q => by cases q) (pe.here h2 tk2).to
    · refine hpxs _ _ _ _ _ _ _ _ _ _ _ _ _ B hmo { s with heap := h2, toks := tk2 } _ _ hE a2.iv (fun fl' ρ' q f h3 tk3 O3 own3 a3 hf => ?_) .ok
      cases q
      dsimp only at hlp3
      have X3 := X2.after a3 (hSt _ _ hst2)
      cases fl with
      | next =>
        cases f with
        | next =>
          refine ⟨ds.length + 1 - (i + 1), by (first | lia | omega), i + 1, _, h3, tk3, O3, own3, rfl, rfl, hlt, ?_, X3, hlp3⟩
          refine W.frame _ _ _ hst2 fun b hb o e => ?_
          by_cases w : b ∈ wr
          · obtain ⟨o', vs, e', dd⟩ := hSt _ _ hst2 b w
            have e'' : h2.get? b = some o' := e'
            (first | exact absN ((e).symm.trans e'') | (rw [e] at e''; cases e''))
            exact a3.keep b o e (X2.fpn b hb) (.inl ⟨vs, dd⟩)
          · obtain ⟨o', e', dd⟩ := X2.fpo b hb w
            (first | exact absN ((e).symm.trans e') | (rw [e] at e'; cases e'))
            exact a3.keep b o e (X2.fpn b hb) dd
        | _ => exact hf.elim
      | brk =>
        cases hlp3
        cases f with
        | brk => exact pq _ _ rfl .next h3 tk3 O3 own3 X3.aft trivial
        | _ => exact hf.elim
      | ret rv =>
        cases hlp3
        cases f with
        | ret v => exact pq _ _ rfl (.ret v) h3 tk3 O3 own3 X3.aft hf
        | _ => exact hf.elim
  · have hin : i = ds.length := by (first | lia | omega)
    subst hin
    refine W.done _ _ _ hsti fun h1 tk1 hk1 => wpAny_execs_nil ?_
    rw [List.drop_length] at hlp
    cases hlp
    have X1 : Aft c O env ρi outer h₀ s.heap h1 Oi owni := ⟨X.aft.iv.moved B (fun b hb => h0s b (hwr b hb).1) (hSt _ hi hsti) hk1, X.aft.more, X.aft.sub, fun b o e hb hd => hk1 b o (fun q => by (first | exact absN (((hwr b q).1).symm.trans e) | (rw [(hwr b q).1] at e; cases e))) (X.aft.keep b o e hb hd), fun a e => by
      cases q : s.heap.get? a with
      | none => rfl
      | some o =>
        cases z : hi.get? a with
        | none => (first | exact absN ((X.aft.stay a z).symm.trans q) | (rw [X.aft.stay a z] at q; cases q))
        | some o' => rw [hk1 a o' (fun w => by (first | exact absN (((hwr a w).1).symm.trans q) | (rw [(hwr a w).1] at q; cases q))) z] at e; cases e⟩
    exact pq _ _ rfl .next h1 tk1 Oi owni X1 trivial
end
end Mine

-- SxSt5
namespace Mine
open PySem PyProof.Rows

section
variable {c : Cx} {G : Str → Option PV} {PE : Addr} {call : Calls} {A : Around} {env : Env} {outer : List Env} {L : Addr} {h₀ : Heap} {O : List Addr} {own : List (Str × Addr)} {ρ : Loc} {n : Nat} {ow : List Str}
  {s : Shared} {E : Value → Shared → Prop}

/-- a name that the evaluator does not follow is bound or unbound -/
theorem Iv.setRaw {x : Str} {u : Option Value} {m : Str → Option Value} {h h' : Heap} (B : Bx c G PE call A env outer L h₀) (I : Iv c O own env ρ outer h₀ h) (hx : ρ x = none)
    (hn : h.Ns env.locals m) (hm : ∀ x sl, env.kindOf x = some .local → ρ x = some sl → ∃ v, m x = some v ∧ SlotRep c O own h x v sl)
    (hn' : h'.Ns env.locals (fun y => if y = x then u else m y)) (hs : Heap.SameBut env.locals h h') : Aft c O env ρ outer h₀ h h' O own := by
  rw [B.locals] at hn hn' hs
  have hLd : ∀ o, h.get? L = some o → ∃ es ep, o.data = .dict es ep := fun o e => let ⟨o', es, ep, e', d, _⟩ := hn; by (first | exact absN ((e).symm.trans e') | (rw [e] at e'; cases e')); exact ⟨es, ep, d⟩
  have sq : ∀ b o vs n, h.get? b = some o → o.data = .seq vs n → h'.get? b = some o := fun b o vs n e hd => (hs.2 b fun q => by
    subst q; obtain ⟨es, ep, d⟩ := hLd o e; (first | exact absN ((hd).symm.trans d) | (rw [hd] at d; cases d))).trans e
  have cl : ∀ {b v}, h.IsCell b v → h'.IsCell b v := fun {b v} ⟨o, e, hd⟩ => ⟨o, (hs.2 b fun q => by subst q; obtain ⟨es, ep, d⟩ := hLd o e; (first | exact absN ((hd).symm.trans d) | (rw [hd] at d; cases d))).trans e, hd⟩
  have hLb : c.base.get? L = none := funFrames_none I.sv.p.frames L B.L_mem
  have keep : BodyR O h h' := fun b o e _ hd => (hs.2 b fun q => by
    subst q; obtain ⟨es, ep, d⟩ := hLd o e; rcases hd with ⟨vs, q⟩ | ⟨vs, n, q⟩ <;> ((first | exact absN ((d).symm.trans q) | (rw [d] at q; cases q)))).trans e
  refine ⟨⟨⟨I.sv.p.change hLb hs.2 fun _ => let ⟨o', es, ep, e', d, _⟩ := hn'; ⟨o', es, ep, e', d⟩, ?_, fun a ha => ?_⟩, ?_, I.owned, I.inj⟩, fun _ a => .inl a, fun _ a => a, keep, stay_but hs.2 (let ⟨o', _, _, e', _⟩ := hn'; ⟨o', e'⟩)⟩
  · have V := I.sv.vars
    refine ⟨⟨_, by rw [B.locals]; exact hn', fun y sl hy hρ => ?_⟩, fun y sl hy hρ => ?_, fun y hy => let ⟨a, w, e, i⟩ := V.there y hy; ⟨a, w, e, cl i⟩⟩
    · have q : y ≠ x := fun q => by subst q; (first | exact absN ((hx).symm.trans hρ) | (rw [hx] at hρ; cases hρ))
      obtain ⟨w, e, r⟩ := hm y sl hy hρ
      exact ⟨w, (if_neg q).trans e, slot_seqs sq r⟩
    · obtain ⟨d', a, w, e1, e2, e3, e4⟩ := V.cells y sl hy hρ
      exact ⟨d', a, w, e1, e2, cl e3, e4.up (fun a o vs n _ e hd => sq a o vs n e hd)⟩
  · obtain ⟨h1, h2, o, vs, n, e, hd⟩ := I.sv.ot a ha
    exact ⟨h1, h2, o, vs, n, sq a o vs n e hd, hd⟩
  · exact (rl_grow (frs outer)).skip (wr := [L]) I.grow (fun b hb => by rw [List.mem_singleton.mp hb]; exact B.new) fun b o hb e => (hs.2 b fun q => hb (by rw [q]; exact List.mem_singleton.mpr rfl)).trans e

theorem glob_any {A' : Around} {x : Str} {pos : Pos} {v : Value} {Q : Value → Shared → Prop} (B : Bx c G PE call A env outer L h₀) (hs : c.base.StaysIn s.heap) (hk : env.kindOf x = some .globalImplicit) (hv : c.mg x = some v)
    (hd : (x == ("__debug__" : Str)) = false) (q : Q v s) : wpAny (model c.prog c.w) A' (eval (.Name x pos) env) Q E s :=
  Calls.Name_function_global B.hy.kind hk (Calls.loadGlobal_global (by rw [B.hy.globals]; exact B.hy.amb.ns.keeps hs) hv q) hd
theorem builtin_any {A' : Around} {x : Str} {pos : Pos} {v : Value} {Q : Value → Shared → Prop} (B : Bx c G PE call A env outer L h₀) (hs : c.base.StaysIn s.heap) (hk : env.kindOf x = some .globalImplicit) (hv : c.mg x = none ∧ c.mb x = some v)
    (hd : (x == ("__debug__" : Str)) = false) (q : Q v s) : wpAny (model c.prog c.w) A' (eval (.Name x pos) env) Q E s :=
  Calls.Name_function_global B.hy.kind hk (Calls.loadGlobal_builtin (by rw [B.hy.globals]; exact B.hy.amb.ns.keeps hs) hv.1 (by rw [B.hy.builtins]; exact B.hy.amb.nb.keeps hs) hv.2 q) hd

theorem px_try {x y v : Str} {xp ap pos : Pos} {e : Expr} {hd : ExceptHandler} {r : Except Str RV} {Q : Flow → Shared → Prop} (B : Bx c G PE call A env outer L h₀) (I : Iv c O own env ρ outer h₀ s.heap) (hh : isHandler hd = some (y, v))
    (hx : env.scope.names.lookup x = some .local) (hy : env.scope.names.lookup y = some .local) (hv : env.scope.names.lookup v = some .local) (hP : env.scope.names.lookup ("PatternError" : Str) = some .globalImplicit) (hS : env.scope.names.lookup ("str" : Str) = some .globalImplicit)
    (hc : isComp e = false) (hov : oddName v = false) (hρv : ρ v = none) (h : pe G n call env.scope.names ρ e = some r)
    (hok : ∀ rv, r = .ok rv → ∃ d, rv = .val d ∧ ∀ h' tk, Aft c O env (upd ρ x (.val d)) outer h₀ s.heap h' O own → Q .next { s with heap := h', toks := tk })
    (herr : ∀ m, r = .error m → ∀ h' tk, Aft c O env (upd ρ y (.val (.str m))) outer h₀ s.heap h' O own → Q .next { s with heap := h', toks := tk }) :
    wpAny (model c.prog c.w) A (exec (.Try [.Assign [.Name x xp] e ap] [hd] [] [] pos) env) Q E s := by
  refine wpAny_Try_except (wpAny_execs_cons (wpAny_Assign_Name ?_ (swaps_no h hc)))
  refine (expr_ok c G n).1 _ _ _ _ _ _ _ own O _ _ _ B.hy h s _ _ I.sv (fun rv er vv h' tk hR hvv => ?_) fun m er vv h' tk hf => ?_
  · obtain ⟨d, rfl, hq⟩ := hok rv er
    have a1 := Aft.of_step B I hR
    exact store_ok (s := { s with heap := h', toks := tk }) B a1.iv (.inl hx) hvv fun h2 tk2 a2 => wpAny_execs_nil (wpAny_execs_nil (hq h2 tk2 (a1.trans a2)))
  · subst er
    obtain ⟨e, t, u, Bh, rfl, hB, hfl, htup, hup⟩ := hf
    obtain ⟨cp, yp, gp, vp, kp, ap', hp, rfl, hyv⟩ := isHandler_inv hh
    obtain ⟨bm, newId, initId, Bn, O1, FB⟩ := B.exc.own
    refine wpAny_looks_onW B.stack B.frame hfl fun h₄ hheld₄ hsm₄ => ?_
    refine wpAny_landsW hheld₄ fun h₅ hfl₅ hsm₅ => ?_
    have g₅ := I.sv.p.landed hB hfl₅.1 ((hup.trans hsm₄).trans hsm₅)
    have I₅ := I.step B g₅
    refine handleBy_own_as FB.hasBase (glob_any B (B.hy.pB I₅.sv.p) hP O1.bound (by decide +kernel) ⟨rfl, O1.keeps (B.hy.pB I₅.sv.p), hfl₅.there, ?_⟩)
    refine lands_againW hfl₅ fun h₆ hfl₆ hsm₆ => ?_
    have g₆ := I.sv.p.landed hB hfl₆.1 (((hup.trans hsm₄).trans hsm₅).trans hsm₆)
    have a₆ := Aft.of_step B I g₆
    obtain ⟨oe, ws, hoe, hoec, hoed, hoe0⟩ := hfl₆.first
    have htup₆ := ((htup.of_slots hsm₄).of_slots hsm₅).of_slots hsm₆
    obtain ⟨m₆, hn₆, hm₆⟩ := a₆.iv.sv.vars.locals
    have hLd : ∀ o, h₆.get? env.locals = some o → ∃ es ep, o.data = .dict es ep := fun o e => let ⟨o', es, ep, e', d, _⟩ := hn₆; by (first | exact absN ((e).symm.trans e') | (rw [e] at e'; cases e')); exact ⟨es, ep, d⟩
    refine wpAny_storeName_local hv hn₆ (fun h₇ hn₇ hs₇ => ?_) (kind_no B.hy.kind)
    have a₇ := a₆.iv.setRaw B hρv hn₆ hm₆ hn₇ hs₇
    have hoe₇ : h₇.get? e = some oe := (hs₇.2 e fun q => by rw [q] at hoe; obtain ⟨es, ep, d⟩ := hLd oe hoe; (first | exact absN ((hoed).symm.trans d) | (rw [hoed] at d; cases d))).trans hoe
    have htup₇ : h₇.TupAt t [.str m u] := by
      obtain ⟨o, k, ho, hcl, hdt⟩ := htup₆
      exact ⟨o, k, (hs₇.2 t fun q => by rw [q] at ho; obtain ⟨es, ep, d⟩ := hLd o ho; (first | exact absN ((hdt).symm.trans d) | (rw [hdt] at d; cases d))).trans ho, hcl, hdt⟩
    refine wpAny_execs_cons (wpAny_Assign_Name (wpAny_Call_NameR (builtin_any B (B.hy.pB a₇.iv.sv.p) hS B.hy.amb.b_str (by decide +kernel) ?_)))
    obtain ⟨hd1, _⟩ := odd_inv (by rw [hov]; decide)
    refine PyProof.Rows.callWith_type rfl (Calls.evalArgs_plain (Calls.spliced_cons (wpAny_Name (wpAny_loadName_local B.hy.kind hv hn₇ (if_pos rfl) (Calls.spliced_nil ?_)) hd1)))
    refine B.exc.str _ _ e t m u _ _ (Nat.lt_of_le_of_lt (Nat.add_le_add_left (by decide) _) B.hy.units) (B.hy.pB a₇.iv.sv.p) ⟨oe, ws, hoe₇, hoec, hoed, hoe0⟩ htup₇ ?_
    refine store_ok (s := { s with heap := h₇, toks := _ }) B a₇.iv (.inl hy) (Rep.str m u) fun h₈ tk₈ a₈ => wpAny_execs_nil ?_
    obtain ⟨m₈, hn₈, hm₈⟩ := a₈.iv.sv.vars.locals
    refine wpAny_nameGoes_keeps hv hn₈ (kind_no B.hy.kind) fun h₉ w hn₉ hs₉ => ?_
    have a₉ := a₈.iv.setRaw B (show upd ρ y (.val (.str m)) v = none by unfold upd; rw [if_neg (Ne.symm hyv)]; exact hρv) hn₈ hm₈ hn₉ hs₉
    exact herr m rfl h₉ _ (((a₆.trans a₇).trans a₈).trans a₉)
end
end Mine

-- SxSt6
namespace Mine
open PySem PyProof.Rows

section
variable {c : Cx} {G : Str → Option PV} {n : Nat}

theorem px_step (hpxs : PxsOk c G n) : PxOk c G (n + 1) := by
  intro PE call A env outer L h₀ ow O own ρ st r B h s Q E hE I pq pe
  have hpits : PitsOk c G n := (expr_ok c G n).2.2.2.2.2.2
  cases pxC st with
  | set x xp e p =>
    rw [xq_set] at h
    split at h
    · split at h
      · rename_i hc
        obtain ⟨hnil, hk⟩ := hc
        cases h
        obtain ⟨p, rfl⟩ := isNil_inv hnil
        exact px_nil B I hk pq
      · first | exact absN h | cases h
    · split at h
      · first | exact absN h | cases h
      · rename_i hcomp
        split at h
        · rename_i hk
          cases hcc : isComp e with
          | true =>
            have hsw : env.scope.names.lookup x = some .local ∧ swapOk x xp e = true := by
              by_cases q : env.scope.names.lookup x = some .local ∧ swapOk x xp e = true
              · exact q
              · exact absurd ⟨hcc, q⟩ hcomp
            rcases bd_inv h with ⟨m, hm, rfl⟩ | ⟨rv, hm, h1⟩
            · exact px_comp B I hcc hsw.1 hsw.2 hm (fun _ q => by cases q) pe.to
            · obtain ⟨d, hd, h2⟩ := vd_inv h1
              subst hd
              cases h2
              exact px_comp B I hcc hsw.1 hsw.2 hm (fun d' q h' tk a => by cases q; exact pq _ _ rfl .next h' tk O own a trivial) .ok
          | false =>
            rcases bd_inv h with ⟨m, hm, rfl⟩ | ⟨rv, hm, h1⟩
            · exact wpAny_Assign_Name (ev_in B I hm (fun _ q => by cases q) pe.to) (swaps_no hm hcc)
            · obtain ⟨d, hd, h2⟩ := vd_inv h1
              subst hd
              cases h2
              refine wpAny_Assign_Name (ev_in B I hm (okP_ok fun v h' tk hR hv => ?_) .ok) (swaps_no hm hcc)
              have a1 := Aft.of_step B I hR
              exact store_ok (s := { s with heap := h', toks := tk }) B a1.iv hk hv fun h2 tk2 a2 => pq _ _ rfl .next h2 tk2 O own (a1.trans a2) trivial
        · first | exact absN h | cases h
  | unp ts k q e p =>
    rw [xq_unp] at h
    split at h
    · first | exact absN h | cases h
    · rename_i ht
      rcases bd_inv h with ⟨m, hm, rfl⟩ | ⟨rv, hm, h1⟩
      · exact px_unpack B I (by simpa using ht) hm (fun _ q => by cases q) pe.to
      · refine px_unpack B I (by simpa using ht) hm (fun rv' q => ?_) .ok
        cases q
        split at h1
        · rename_i ds
          split at h1
          · split at h1
            · rename_i ρ' hb
              cases h1
              exact ⟨ds, ρ', rfl, hb, fun h' tk a => pq _ _ rfl .next h' tk O own a trivial⟩
            · first | exact absN h1 | cases h1
          · first | exact absN h1 | cases h1
        · first | exact absN h1 | cases h1
  | expr e p =>
    rw [xq_expr] at h
    split at h
    · rename_i x a ha
      split at h
      · rename_i hk
        split at h
        · rename_i ds hρ
          rcases bd_inv h with ⟨m, hm, rfl⟩ | ⟨rv, hm, h1⟩
          · exact px_append B I ha hk hρ hm (fun _ q => by cases q) pe.to
          · obtain ⟨d, hd, h2⟩ := vd_inv h1
            subst hd
            split at h2
            · rename_i hlen
              cases h2
              exact px_append B I ha hk hρ hm (fun rv' q => by cases q; exact ⟨d, rfl, hlen, fun h' tk a => pq _ _ rfl .next h' tk O own a trivial⟩) .ok
            · first | exact absN h2 | cases h2
        · first | exact absN h | cases h
      · first | exact absN h | cases h
    · first | exact absN h | cases h
  | del t p =>
    rw [xq_del] at h
    split at h
    · rename_i x hx
      split at h
      · rename_i hk
        split at h
        · rename_i ds hρ
          split at h
          · first | exact absN h | cases h
          · rename_i hlen
            cases h
            exact px_del B I hx hk hρ (fun q => hlen (.inl q)) (Nat.le_of_not_lt fun q => hlen (.inr q)) fun h' tk a => pq _ _ rfl .next h' tk O own a trivial
        · first | exact absN h | cases h
      · first | exact absN h | cases h
    · first | exact absN h | cases h
  | cond t a b p =>
    rw [xq_if] at h
    refine wpAny_If ?_
    rcases bd_inv h with ⟨m, hm, rfl⟩ | ⟨b, hm, h1⟩
    · exact (expr_ok c G n).2.1 _ _ _ _ _ _ _ own O _ _ _ B.hy hm s _ _ I.sv (fun _ q => by cases q) fun m' q v h' tk hf => pe m' (by cases q; rfl) v h' tk ⟨s.heap, I.grow, I.sv.p, .inl hf⟩
    · refine (expr_ok c G n).2.1 _ _ _ _ _ _ _ own O _ _ _ B.hy hm s _ _ I.sv (fun b' q h' tk hR => ?_) fun _ q => by cases q
      cases q
      have a1 := Aft.of_step B I hR
      cases b with
      | true =>
        simp only [if_true] at h1 ⊢
        exact hpxs _ _ _ _ _ _ _ _ _ _ _ _ _ B h1 _ _ _ hE a1.iv (pq.after a1) (pe.here _ _)
      | false =>
        simp only [Bool.false_eq_true, if_false] at h1 ⊢
        exact hpxs _ _ _ _ _ _ _ _ _ _ _ _ _ B h1 _ _ _ hE a1.iv (pq.after a1) (pe.here _ _)
  | loop x q it body p =>
    rw [xq_for] at h
    split at h
    · rename_i hc
      rcases bd_inv h with ⟨m, hm, rfl⟩ | ⟨ds, hm, h1⟩
      · exact px_for (ow := ow) hpits hpxs B hE I hc.2 hm (fun e q => by cases q; rfl) (fun _ q => by cases q) pq pe
      · exact px_for hpits hpxs B hE I hc.2 hm (fun e q => by cases q) (fun ds' q => by cases q; exact h1) pq pe
    · first | exact absN h | cases h
  | ret e p =>
    rw [xq_ret] at h
    refine wpAny_Return_some ?_
    rcases bd_inv h with ⟨m, hm, rfl⟩ | ⟨rv, hm, h1⟩
    · exact ev_in B I hm (fun _ q => by cases q) pe.to
    · cases h1
      refine ev_in B I hm (okP_ok fun v h' tk hR hv => ?_) .ok
      exact pq _ _ rfl (.ret v) h' tk O own (Aft.of_step B I hR) hv
  | raise e p =>
    rw [xq_raise] at h
    split at h
    · rename_i a ha
      split at h
      · rename_i hk
        rcases bd_inv h with ⟨m, hm, rfl⟩ | ⟨rv, hm, h1⟩
        · exact px_raise B I ha hk hm (fun _ q => by cases q) pe.to
        · refine px_raise B I ha hk hm (fun rv' q => ?_) .ok
          cases q
          split at h1
          · cases h1
            exact ⟨_, rfl, pe.to⟩
          · first | exact absN h1 | cases h1
      · first | exact absN h | cases h
    · first | exact absN h | cases h
  | brk p =>
    rw [xq_brk] at h
    cases h
    exact wpAny_Break (pq _ _ rfl .brk s.heap s.toks O own (.refl I) trivial)
  | tri x xp e ap hd p =>
    rw [xq_try] at h
    split at h
    · rename_i y v hh
      split at h
      · rename_i hc
        obtain ⟨⟨hx, hy, hv⟩, ⟨hP, hS⟩, hcc, hov, hρv⟩ := hc
        have hρv' := Option.isNone_iff_eq_none.mp hρv
        split at h
        · rename_i d hm
          cases h
          exact px_try B I hh hx hy hv hP hS hcc hov hρv' hm (fun rv q => by cases q; exact ⟨d, rfl, fun h' tk a => pq _ _ rfl .next h' tk O own a trivial⟩) (fun _ q => by cases q)
        · rename_i m hm
          cases h
          exact px_try B I hh hx hy hv hP hS hcc hov hρv' hm (fun _ q => by cases q) fun m' q h' tk a => by cases q; exact pq _ _ rfl .next h' tk O own a trivial
        · first | exact absN h | cases h
      · first | exact absN h | cases h
    · first | exact absN h | cases h
  | no _ hn => rw [hn] at h; exact absN h

theorem stmt_ok (c : Cx) (G : Str → Option PV) : ∀ n, PxOk c G n ∧ PxsOk c G n
  | 0 => by
    refine ⟨?_, ?_⟩
    · intro _ _ _ _ _ _ _ _ _ _ _ _ _ _ h; exact absN (show none = some _ from h)
    · intro _ _ _ _ _ _ _ _ _ _ _ _ _ _ h; exact absN (show none = some _ from h)
  | n + 1 => by
    obtain ⟨h1, h2⟩ := stmt_ok c G n
    exact ⟨px_step h2, pxs_step h1 h2⟩
end
end Mine

-- SxCall
namespace Mine
open PySem PyProof.Rows

section
variable {c : Cx} {G : Str → Option PV} {PE : Addr} {call : Calls} {A : Around} {env : Env} {outer : List Env} {L : Addr} {h₀ : Heap} {s : Shared} {E : Value → Shared → Prop}

/-- the exception goes out of the def -/
theorem leave_ok {M : Model} {m : Str} {v : Value} {h' : Heap} {Q : Unit → Shared → Prop} (hst : A.frames = some (env :: outer)) (hf : env.frame = some L) (hnew : h₀.get? L = none) (x : FlB c PE env outer h₀ m v h')
    (hQ : ∀ h'', Flies PE outer h₀ m v h'' → Q () { s with heap := h'' }) : wpAny M A (leaving env v) Q E { s with heap := h' } := by
  obtain ⟨h, hg, hp, x⟩ := x
  have low : ∀ b o, b ∉ frs outer → h₀.get? b = some o → b ∉ frs (env :: outer) := fun b o hb ho q => by
    rw [frs_head hf] at q
    rcases List.mem_cons.mp q with rfl | q
    · (first | exact absN ((hnew).symm.trans ho) | (rw [hnew] at ho; cases ho))
    · exact hb q
  rcases x with ⟨e, t, u, B, rfl, hB, hfl, ht, hs⟩ | ⟨e, u, rfl, hx⟩
  · refine wpAny_leaves_onW hst hf hfl fun h'' hfl'' hs'' => hQ h'' ⟨e, t, u, B, rfl, fun b o hb ho => hB b o (low b o hb ho) (hg.1 b o hb ho), hfl'', ht.of_slots hs'', ?_⟩
    exact (hg.2.1.up.trans hs).trans hs''
  · refine wpAny_leaves_madeW (base := W.hideAll h (frs (env :: outer))) hst hf (fun b o q => W.of_hideAll _ q) (W.funFrames_hide hp.frames fun e he a ha => List.mem_filterMap.mpr ⟨e, he, ha⟩) hx fun h'' t hfl ht _ hs'' => ?_
    exact hQ h'' ⟨e, t, u, _, rfl, fun b o hb ho => W.hideAll_get _ (hg.1 b o hb ho) (low b o hb ho), hfl, ht, (hg.2.1.up.trans (.of_keeps hx.keeps)).trans hs''⟩

/-- a def of the text, as the top left it -/
noncomputable def FnAt (c : Cx) (fn : Fn) (fa : Addr) : Prop :=
  ∃ o fd, c.base.get? fa = some o ∧ o.data = .func fd ∧ fd.body = .stmts fn.body ∧ fd.scope.names = fn.names ∧ fd.scope.kind = .function ∧ fd.scope.isCoroutine = false ∧ fd.scope.isGenerator = false ∧ fd.globals = mainGlobals ∧ fd.builtins = builtinsNs ∧ fd.closure = [] ∧
    c.base.CodeRec fd.code fd.qualname ∧ (∀ x ∈ fn.names, x.2 ≠ .cell) ∧ (∀ x ∈ fn.params, fn.names.lookup x = some .local) ∧ fn.params.Nodup ∧ ∀ (s : Shared) (vs : List Value), vs.length = fn.params.length → BindsTo s fd ⟨vs, []⟩ (fn.params.zip vs)

theorem binds_rep {O : List Addr} {h : Heap} {x : Str} {sl : Slot} {ps : List Str} : ∀ {vs : List Value} {ds : List PV}, ps.Nodup → Reps c O h vs ds → ps.length = ds.length → bindsOf ps ds x = some sl →
    x ∈ ps ∧ ∃ v d, sl = .val d ∧ (ps.zip vs).lookup x = some v ∧ Rep c O h v d := by
  induction ps with
  | nil => intro vs ds _ _ _ hb; exact absN (show none = some sl from hb)
  | cons p ps ih =>
    intro vs ds hn hr hl hb
    cases hr with
    | nil => cases hl
    | cons hv hr =>
    rename_i v vs d ds
    have hb2 : (if x = p then some (Slot.val d) else bindsOf ps ds x) = some sl := hb
    clear hb
    rw [List.zip_cons_cons, List.lookup_cons]
    by_cases q : x = p
    · rw [if_pos q] at hb2
      subst q
      obtain rfl := Option.some.inj hb2
      rw [beq_self_eq_true]
      exact ⟨List.mem_cons_self, v, d, rfl, rfl, hv⟩
    · rw [if_neg q] at hb2
      obtain ⟨h1, v', d', e1, e2, e3⟩ := ih (List.nodup_cons.mp hn).2 hr (Nat.succ.inj hl) hb2
      have : (x == p) = false := by simpa using q
      rw [this]
      exact ⟨List.mem_cons_of_mem _ h1, v', d', e1, e2, e3⟩

theorem lookup_none_of {α : Type} {x : Str} : ∀ {l : List (Str × α)}, x ∉ l.map (·.1) → l.lookup x = none
  | [], _ => rfl
  | (y, a) :: l, h => by
    rw [List.lookup_cons]
    have : (x == y) = false := by simp at h ⊢; exact h.1
    rw [this]
    exact lookup_none_of fun q => h (List.mem_cons_of_mem _ q)
theorem lookup_append' {α : Type} {x : Str} : ∀ {l r : List (Str × α)}, (l ++ r).lookup x = (l.lookup x).or (r.lookup x)
  | [], r => by simp
  | (y, a) :: l, r => by
    rw [List.cons_append, List.lookup_cons, List.lookup_cons]
    cases x == y with
    | true => rfl
    | false => exact lookup_append'
theorem lookup_reverse {α : Type} {x : Str} : ∀ {l : List (Str × α)}, (l.map (·.1)).Nodup → l.reverse.lookup x = l.lookup x
  | [], _ => rfl
  | (y, a) :: l, h => by
    rw [List.map_cons, List.nodup_cons] at h
    rw [List.reverse_cons, lookup_append', lookup_reverse h.2]
    by_cases q : x = y
    · subst q
      rw [lookup_none_of h.1, List.lookup_cons, beq_self_eq_true]
      simp
    · have : (x == y) = false := by simpa using q
      have e : ([(y, a)] : List (Str × α)).lookup x = none := by rw [List.lookup_cons, this]; rfl
      have e2 : ((y, a) :: l).lookup x = l.lookup x := by rw [List.lookup_cons, this]
      rw [e, e2]
      simp
theorem zip_names {vs : List Value} : ∀ {ps : List Str}, ps.length = vs.length → (ps.zip vs).map (·.1) = ps := fun h => by
  rw [List.map_fst_zip (Nat.le_of_eq h)]

theorem lookup_mem {α : Type} {x : Str} {a : α} : ∀ {l : List (Str × α)}, l.lookup x = some a → (x, a) ∈ l
  | (y, b) :: l, h => by
    rw [List.lookup_cons] at h
    split at h
    · rename_i q; cases h; rw [beq_iff_eq.mp q]; exact List.mem_cons_self
    · exact List.mem_cons_of_mem _ (lookup_mem h)

structure FnsAt (c : Cx) (body : List Stmt) : Prop where
  fns : ∀ f fn fa, fnNames.contains f = true → body.findSome? (fnOf? f) = some fn → c.mg f = some (.ref fa) → FnAt c fn fa
  nolimit : c.base.NoLimit

theorem call_sound {body : List Stmt} (amb : Amb c G) (exc : Exc c PE) (F : FnsAt c body) : ∀ (k : Nat) (A : Around) (l : List Env), A.frames = some l → A.depth + k ≤ recursionLimit → A.units + 3 * k + 64 < cLine → A.handled = none →
    CallSound c A (GrowR (frs l)) (Pst c l) (Flies PE l) (frs l) (pcall body G k)
  | 0, A, l, _, _, _, _ => fun f ds r _ h => by simp only [pcall] at h; cases h
  | k + 1, A, l, hst, hdep, hun, hh => fun f ds r hf h fa hfa s vs O Q E hP hO hr hok her => by
    simp only [pcall] at h
    split at h
    · rename_i fn hfn
      split at h
      · rename_i hlen
        obtain ⟨o, fd, ho, hdat, hbody, hnames, hkind, hco, hgen, hglob, hbi, hclo, hcode, hcell, hloc, hnd, hbind⟩ := F.fns f fn fa hf hfn hfa
        have hvl : vs.length = fn.params.length := hr.length.trans hlen.symm
        refine wpAny_call (codeAny_call_def (body := fn.body) (binds := fn.params.zip vs) (by (first | lia | omega)) (hP.stays _ _ ho) hdat (F.nolimit.keeps hP.stays) (hcode.keeps hP.stays) hbody (hbind s vs hvl) (by rw [hnames]; exact hcell) ?_ (fun h₁ hn hkeep => ?_) hco hgen hkind)
        · intro x hx
          rw [hnames]
          exact hloc x.1 (by have := List.of_mem_zip (a := x.1) (b := x.2) hx; exact this.1)
        · have hnew : s.heap.get? s.heap.objs.size = none := by
            cases q : s.heap.get? s.heap.objs.size with
            | none => rfl
            | some o => exact absurd (Heap.lt_size q) (Nat.lt_irrefl _)
          have hbnew : c.base.get? s.heap.objs.size = none := by
            cases q : c.base.get? s.heap.objs.size with
            | none => rfl
            | some o => have := hP.stays _ _ q; (first | exact absN ((hnew).symm.trans this) | (rw [hnew] at this; cases this))
          generalize hL : s.heap.objs.size = L at hn hnew hbnew ⊢
          generalize henv : callEnv fd L fa = env
          have e1 : env.scope = fd.scope := by rw [← henv]; rfl
          have e2 : env.frame = some L := by rw [← henv]; rfl
          have e3 : env.locals = L := by rw [← henv]; rfl
          have e4 : env.globals = mainGlobals := by rw [← henv, ← hglob]; rfl
          have e5 : env.builtins = builtinsNs := by rw [← henv, ← hbi]; rfl
          have e8 : env.cells = [] := by rw [← henv, ← hclo]; rfl
          have e6 : env.scope.names = fn.names := by rw [e1]; exact hnames
          have e7 : env.scope.kind = .function := by rw [e1]; exact hkind
          have hst' : (A.deeper env).frames = some (env :: l) := Around.frames_deeper hst
          have hdicts : ∀ a ∈ frs (env :: l), ∃ o es ep, h₁.get? a = some o ∧ o.data = .dict es ep := fun a ha => by
            rw [frs_head e2] at ha
            rcases List.mem_cons.mp ha with rfl | ha
            · obtain ⟨o, es, ep, e, d, _⟩ := hn; exact ⟨o, es, ep, e, d⟩
            · obtain ⟨o, es, ep, e, d⟩ := hP.dicts a ha; exact ⟨o, es, ep, hkeep a o e, d⟩
          have hP1 : Pst c (env :: l) h₁ := ⟨fun b o e => hkeep b o (hP.stays b o e), .cons (by rw [e7]; decide) e2 hn hbnew (hP.frames.of_keeps fun b o e _ => ⟨o, hkeep b o e, rfl⟩), hdicts⟩
          have nocell : ∀ x, env.kindOf x ≠ some .cell := fun x q => by
            have : env.scope.names.lookup x = some .cell := q
            rw [e6] at this
            exact hcell _ (lookup_mem this) rfl
          have B : Bx c G PE (pcall body G k) (A.deeper env) env l L s.heap := {
            hy := {
              amb := amb
              rl := rl_grow _
              pR := fun p k => p.step k
              pB := fun p => p.stays
              flR := fun k x => x.before k
              call := call_sound amb exc F k (A.deeper env) (env :: l) hst' (by show A.depth + 1 + k ≤ _; (first | lia | omega)) (by show A.units + 3 + 3 * k + 64 < _; (first | lia | omega)) hh
              kind := e7
              globals := e4
              builtins := e5
              handled := hh
              units := by show A.units + 3 + 64 < _; (first | lia | omega) }
            exc := exc
            stack := hst'
            frame := e2
            locals := e3
            new := hnew
            base0 := hP.stays
            cellNew := fun x cl hx => by (first | exact absN ((e8).symm.trans hx) | (rw [e8] at hx; cases hx))
            cellInj := fun x y cl hx hy => by (first | exact absN ((e8).symm.trans hx) | (rw [e8] at hx; cases hx)) }
          have I : Iv c O [] env (bindsOf fn.params ds) l s.heap h₁ := by
            have hrep : ∀ x sl, bindsOf fn.params ds x = some sl → x ∈ fn.params ∧ ∃ v d, sl = .val d ∧ (fn.params.zip vs).reverse.lookup x = some v ∧ Rep c O h₁ v d := fun x sl hx => by
              obtain ⟨h1, v, d, e1, e2, e3⟩ := binds_rep hnd hr hlen hx
              exact ⟨h1, v, d, e1, (lookup_reverse (by rw [zip_names hvl.symm]; exact hnd)).trans e2, e3.up (.of_keeps hkeep)⟩
            refine ⟨⟨hP1, ⟨⟨_, by rw [e3]; exact hn, fun x sl _ hx => ?_⟩, fun x sl hx hρ => ?_, fun x hx => absurd hx (nocell x)⟩, fun a ha => ?_⟩, (rl_grow _).of_keeps hkeep, (fun x a q => by cases q), (fun x y a q => by cases q)⟩
            · obtain ⟨_, v, d, rfl, e, r⟩ := hrep x sl hx
              exact ⟨v, e, r⟩
            · obtain ⟨hm, _⟩ := hrep x sl hρ
              have hl : env.kindOf x = some .local := by show env.scope.names.lookup x = _; rw [e6]; exact hloc x hm
              rw [hl] at hx
              rcases hx with hx | hx <;> cases hx
            · obtain ⟨h1, h2, o, vs, n, e, hd⟩ := hO a ha
              refine ⟨fun q => ?_, h2, o, vs, n, hkeep a o e, hd⟩
              rw [frs_head e2] at q
              rcases List.mem_cons.mp q with rfl | q
              · (first | exact absN ((hnew).symm.trans e) | (rw [hnew] at e; cases e))
              · exact h1 q
          have hE : PassesOwn (model c.prog c.w) (A.deeper env) env (fun e s' => wpAny (model c.prog c.w) (A.deeper env) (leaving env e) (fun _ s'' => E e s'') (fun e' s'' => E e' s'') s') := PassesOwn.leaving
          have pE : ∀ {α : Type} {q : Except Str α}, (∀ m, q = .error m → r = .error m) → PostE c PE env l s.heap q { s with heap := h₁, toks := s.toks + (fn.params.zip vs).length } (fun e s' => wpAny (model c.prog c.w) (A.deeper env) (leaving env e) (fun _ s'' => E e s'') (fun e' s'' => E e' s'') s') :=
            fun hq m e v h' tk x => leave_ok (s := { s with toks := tk }) hst' e2 hnew x fun h'' fl => her m (hq m e) v h'' tk fl
          rcases bd_inv h with ⟨m, hm, hre⟩ | ⟨⟨fl, ρ'⟩, hm, h1⟩
          · refine (stmt_ok c G fuel).2 _ _ _ _ _ _ _ _ O [] _ _ _ B (by rw [e6]; exact hm) _ _ _ hE I (fun _ _ q => by cases q) (pE fun m' q => by cases q; exact hre)
          · refine (stmt_ok c G fuel).2 _ _ _ _ _ _ _ _ O [] _ _ _ B (by rw [e6]; exact hm) _ _ _ hE I (fun fl' ρ'' q f h' tk O' own' a hfl => ?_) (pE fun m' q => by cases q)
            cases q
            dsimp only at h1
            cases fl with
            | ret rv =>
              cases h1
              cases f with
              | ret v =>
                refine hok _ rfl v h' tk a.iv.grow ?_
                cases rv with
                | val d => exact Rep.sub a.sub hfl
                | own x ds' =>
                  obtain ⟨ad, hx, rfl, hmem, ws, n, hl, hrs⟩ := hfl
                  have hnone := (a.iv.owned x ad hx).2
                  exact .list (fun q => by obtain ⟨_, _, o, _, _, e, _⟩ := hO ad q; (first | exact absN ((hnone).symm.trans e) | (rw [hnone] at e; cases e))) hl (hrs.sub a.sub)
              | _ => exact hfl.elim
            | _ => cases h1
      · first | exact absN h | cases h
    · first | exact absN h | cases h
end
end Mine

-- SxLaw
namespace Mine
open PySem PyProof.Rows

section
variable {c : Cx} {G : Str → Option PV} {PE : Addr}

/-- the law, as the top left it -/
noncomputable def LawAt (c : Cx) (fn : Fn) (fa : Addr) (p p0 : Str) : Prop :=
  ∃ o fd, c.base.get? fa = some o ∧ o.data = .func fd ∧ fd.body = .stmts fn.body ∧ fd.scope.names = fn.names ∧ fd.scope.kind = .function ∧ fd.scope.isCoroutine = false ∧ fd.scope.isGenerator = false ∧ fd.globals = mainGlobals ∧ fd.builtins = builtinsNs ∧ fd.closure = [] ∧
    c.base.CodeRec fd.code fd.qualname ∧ fn.params = [p] ∧ fn.names.lookup p = some .local ∧ (∀ L, cellsFrom L fn.names [] = [(p0, L)]) ∧ (∀ x, fn.names.lookup x = some .cell → x = p0) ∧ ∀ v : Value, bindArgs fd ⟨[v], []⟩ = pure [(p, v)]

theorem law_sound {body : List Stmt} {fn : Fn} {fa : Addr} {p p0 : Str} {k : Nat} {ow : List Str} {d b : PV} {v : Value} {s : Shared} {ρ' : Loc} {Q E : Value → Shared → Prop} (amb : Amb c G) (exc : Exc c PE) (F : FnsAt c body) (X : LawAt c fn fa p p0)
    (hs : s.heap = c.base) (hk : k ≤ 100) (hv : Rep c [] c.base v d) (h : pxs G (pcall body G k) ow fuel fn.names (bindsOf fn.params [d]) fn.body = some (.ok (.ret (.val b), ρ')))
    (hQ : ∀ w h' tk, KeepsR c.base h' → Rep c [] h' w b → Q w { s with heap := h', toks := tk }) : wpAny (model c.prog c.w) callerA (PySem.call (.ref fa) [v]) Q E s := by
  obtain ⟨o, fd, ho, hdat, hbody, hnames, hkind, hco, hgen, hglob, hbi, hclo, hcode, hps, hloc, hcells, honly, hbind⟩ := X
  have hcl : claimMargin ≤ 800 := by decide
  refine wpAny_call (codeAny_call_cells (body := fn.body) (binds := [(p, v)]) (by show 1 + claimMargin < recursionLimit; decide) (by rw [hs]; exact ho) hdat (by rw [hs]; exact F.nolimit) (by rw [hs]; exact hcode) hbody (hbind v) hclo ?_ (fun s₁ C => ?_) hco hgen hkind)
  · intro x hx
    rw [List.mem_singleton.mp hx, hnames]
    exact .inl hloc
  · have hnew : ∀ a, s.heap.objs.size ≤ a → s.heap.get? a = none := fun a ha => by
      cases q : s.heap.get? a with
      | none => rfl
      | some o => exact absurd (Heap.lt_size q) (Nat.not_lt.mpr ha)
    obtain ⟨⟨⟨h₁, tk₁, hs₁⟩, hn, hkeep, _⟩, hcell, _, _⟩ := C
    rw [hs₁] at hn hkeep hcell ⊢
    dsimp only at hn hkeep hcell
    generalize hL : s.heap.objs.size = L at hn hkeep hcell hnew ⊢
    generalize henv : callEnvC fd L fa = env at hn hcell ⊢
    have e1 : env.scope = fd.scope := by rw [← henv]; rfl
    have e2 : env.frame = some L := by rw [← henv]; rfl
    have e3 : env.locals = L := by rw [← henv]; rfl
    have e4 : env.globals = mainGlobals := by rw [← henv, ← hglob]; rfl
    have e5 : env.builtins = builtinsNs := by rw [← henv, ← hbi]; rfl
    have e6 : env.scope.names = fn.names := by rw [e1]; exact hnames
    have e7 : env.scope.kind = .function := by rw [e1]; exact hkind
    have e8 : env.cells = [(p0, L + 1)] := by
      have : env.cells = cellsFrom (L + 1) fd.scope.names [] := by rw [← henv]; rfl
      rw [this, hnames]; exact hcells _
    have hkp : env.kindOf p = some .local := by show env.scope.names.lookup p = _; rw [e6]; exact hloc
    rw [e3] at hn
    rw [hs] at hkeep hnew
    have hst' : (callerA.deeper env).frames = some [env] := rfl
    have hfrs : frs [env] = [L] := frs_head e2
    have hLk : bindL env.kindOf [(p, v)] (fun _ => none) = fun y => if y = p then some v else none := by
      simp only [bindL, hkp, if_true]
    rw [hLk] at hn
    have cellAt : ∀ x cl, env.cells.lookup x = some cl → x = p0 ∧ cl = L + 1 := fun x cl hx => by
      rw [e8, List.lookup_cons] at hx
      split at hx
      · rename_i q; cases hx; exact ⟨beq_iff_eq.mp q, rfl⟩
      · first | exact absN hx | cases hx
    have B : Bx c G PE (pcall body G k) (callerA.deeper env) env [] L c.base := {
      hy := {
        amb := amb
        rl := rl_grow _
        pR := fun p k => p.step k
        pB := fun p => p.stays
        flR := fun k x => x.before k
        call := call_sound amb exc F k (callerA.deeper env) [env] hst' (by show 1 + claimMargin + 1 + k ≤ 1000; (first | lia | omega)) (by show 4 + 3 + 3 * k + 64 < 9900; (first | lia | omega)) rfl
        kind := e7
        globals := e4
        builtins := e5
        handled := rfl
        units := by show 4 + 3 + 64 < 9900; decide }
      exc := exc
      stack := hst'
      frame := e2
      locals := e3
      new := hnew L (Nat.le_refl _)
      base0 := fun _ _ e => e
      cellNew := fun x cl hx => by rw [(cellAt x cl hx).2]; exact hnew _ (Nat.le_succ _)
      cellInj := fun x y cl hx hy => by rw [(cellAt x cl hx).1, (cellAt y cl hy).1] }
    have hP1 : Pst c [env] h₁ := ⟨hkeep, .cons (by rw [e7]; decide) e2 hn (hnew L (Nat.le_refl _)) trivial, fun a ha => by
      rw [hfrs] at ha
      rw [List.mem_singleton.mp ha]
      obtain ⟨o, es, ep, e, d, _⟩ := hn
      exact ⟨o, es, ep, e, d⟩⟩
    have hρ : ∀ x sl, bindsOf fn.params [d] x = some sl → x = p ∧ sl = .val d := fun x sl hx => by
      rw [hps] at hx
      simp only [bindsOf, upd] at hx
      split at hx
      · rename_i q; cases hx; exact ⟨q, rfl⟩
      · first | exact absN hx | cases hx
    have I : Iv c [] [] env (bindsOf fn.params [d]) [] c.base h₁ := by
      refine ⟨⟨hP1, ⟨⟨_, by rw [e3]; exact hn, fun x sl _ hx => ?_⟩, fun x sl hx hr => ?_, fun x hx => ?_⟩, fun a ha => nomatch ha⟩, (rl_grow _).of_keeps hkeep, (fun x a q => by cases q), (fun x y a q => by cases q)⟩
      · obtain ⟨rfl, rfl⟩ := hρ x sl hx
        exact ⟨v, if_pos rfl, Rep.up (.of_keeps hkeep) hv⟩
      · obtain ⟨rfl, rfl⟩ := hρ x sl hr
        rw [hkp] at hx
        rcases hx with hx | hx <;> cases hx
      · have hx' : fn.names.lookup x = some .cell := by rw [← e6]; exact hx
        have e : env.cells.lookup x = some (L + 1) := by rw [e8, honly x hx', List.lookup_cons, beq_self_eq_true]
        exact ⟨_, _, e, hcell x _ e⟩
    refine (stmt_ok c G fuel).2 _ _ _ _ _ _ _ ow [] [] _ _ _ B (by rw [e6]; exact h) _ _ _ PassesOwn.leaving I (fun fl' ρ'' q f h' tk O' own' a hfl => ?_) (fun _ q => by cases q)
    cases q
    cases f with
    | ret w =>
      refine hQ w h' tk (fun b o e => a.iv.grow.1 b o (fun q => nomatch q) e) ?_
      exact Rep.sub (O := O') (fun _ q => by cases q) hfl
    | _ => exact hfl.elim
end
end Mine

-- SxStr
namespace Mine
open PySem PyProof.Rows PySem.W
open Builtin Builtin.Str Builtin.BaseException Builtin.Exceptions

section
variable {prog : Program} {w : World} {A : Around} {E : Value → Shared → Prop} {s : Shared} {K : Frag} {e t C : Addr} {o : Obj} {vs : Array Value}

theorem exc_type {M : Model} {h : Heap} (ho : h.get? e = some o) (hc : o.cls = .ref C) : Looks M h (typeOf (.ref e)) (.ref C) :=
  hc ▸ (Looks.ld ho).andThen .now

theorem bexcArgs_own {M : Model} {items : List Value} {Q : Value × List Value → Shared → Prop} (ho : s.heap.get? e = some o) (hd : o.data = .fields vs) (h0 : vs[0]? = some (.ref t)) (ht : s.heap.TupAt t items) (hq : Q (.ref t, items) s) :
    wpAny M A (bexcArgs (.ref e)) Q E s := by
  obtain ⟨ot, k, hto, _, htd⟩ := ht
  unfold bexcArgs
  refine wpAny_bind (wpAny_field ho hd h0 (wpAny_bind (wpAny_seqItems hto htd ?_)))
  have : items.toArray.toList = items := by simp
  show wpAny M A (pure (Value.ref t, items.toArray.toList)) Q E s
  rw [this]; exact wpAny_pure hq

theorem bexcStr_own {m : Str} {u : Tok} {Q : Fin → Shared → Prop} (ho : s.heap.get? e = some o) (hd : o.data = .fields vs) (h0 : vs[0]? = some (.ref t)) (ht : s.heap.TupAt t [.str m u]) (hq : Q (.done (.ret (.str m u))) s) :
    wpAny (model prog w) A (Builtin.«BaseException.__str__» ⟨[.ref e], []⟩) Q E s := by
  unfold Builtin.«BaseException.__str__»
  repeat (first | with_reducible refine bexcArgs_own ho hd h0 ht ?_ | wp_step)
  exact hq

theorem call_bexcStr_own {m : Str} {u : Tok} {Q : Value → Shared → Prop} (X : K.In s.heap) (hm : mroIn K C (.type "BaseException") = some true) (ho : s.heap.get? e = some o) (hc : o.cls = .ref C) (hd : o.data = .fields vs) (h0 : vs[0]? = some (.ref t)) (ht : s.heap.TupAt t [.str m u])
    (hq : Q (.str m u) s) : wpAny (model prog w) A (PySem.call (.builtin "BaseException.__str__") [.ref e]) Q E s := by
  refine wpAny_call (codeAny_call_builtin (by decide +kernel) PySem.F.entry_bexc_str (check_slot (i := "BaseException.__str__") (owner := "BaseException") (n := "__str__") (by decide +kernel) (by decide +kernel) ((exc_type ho hc).andThen (looks_mroIn X hm)) (PySem.F.args_bexc_str _) ?_))
  exact bexcStr_own ho hd h0 ht hq

theorem strOf_own {m : Str} {u : Tok} {Q : Value → Shared → Prop} (hu : A.units < cLine) (X : K.In s.heap) (hs : findIn K (.ref C) "__str__" = some (some (.builtin "BaseException.__str__"))) (hb : ∀ self, bindSpecial (.builtin "BaseException.__str__") self = pure (.builtin "BaseException.__str__", [self]))
    (hm : mroIn K C (.type "BaseException") = some true) (ho : s.heap.get? e = some o) (hc : o.cls = .ref C) (hd : o.data = .fields vs) (h0 : vs[0]? = some (.ref t)) (ht : s.heap.TupAt t [.str m u]) (hq : Q (.str m u) s) : wpAny (model prog w) A (PySem.Builtin.Str.strOf (.ref e)) Q E s := by
  unfold PySem.Builtin.Str.strOf
  rw [show isExactStr (.ref e) = false from rfl]
  refine wpAny_bind (m := cRoomFor _ _) (wpAny_cRoomFor hu ?_)
  refine wpAny_bind (m := callSpecial? (.ref e) (Str.ofString "__str__")) ?_
  refine wpAny_bind (wpAny_bind ((exc_type ho hc).here ((looks_findIn X hs).here (wpAny_holding (wpAny_bind ((Looks.of_pure (hb _)).here (wpAny_bind (call_bexcStr_own X hm ho hc hd h0 ht (wpAny_pure ?_)))))))))
  exact wpAny_pure hq

theorem str_own {m : Str} {u : Tok} {Q : Value → Shared → Prop} (hu : A.in1.in1.units < cLine) (X : K.In s.heap) (hs : findIn K (.ref C) "__str__" = some (some (.builtin "BaseException.__str__"))) (hb : ∀ self, bindSpecial (.builtin "BaseException.__str__") self = pure (.builtin "BaseException.__str__", [self]))
    (hm : mroIn K C (.type "BaseException") = some true) (ho : s.heap.get? e = some o) (hc : o.cls = .ref C) (hd : o.data = .fields vs) (h0 : vs[0]? = some (.ref t)) (ht : s.heap.TupAt t [.str m u]) (hq : Q (.str m u) s) : wpAny (model prog w) A (PySem.call (.type "str") [.ref e]) Q E s := by
  refine callType_codes (T := "str") (Bi := Builtin.«object.__init__») (Q₁ := fun r s₁ => ∃ y u, r = .str y u ∧ Q r s₁) PySem.F.called_str (PySem.F.typeCall_str_1 _) PySem.F.entry_object_init ?_ ?_
  · refine codeAny_of_tree ?_
    show wpAny _ A.in1.in1 (do checkBuiltinCall "str.__new__" ⟨[.type "str", .ref e], []⟩; again (.builtin "str.__new__" ⟨[.type "str", .ref e], []⟩)) _ _ s
    refine wpAny_bind (wpAny_of_eq (PySem.F.newCall_str_1 _) (wpAny_pure ⟨plainId_quiet (by decide +kernel) _, codeAny_builtin PySem.F.entry_str_new ?_⟩))
    rw [Around.under_plainId (by decide +kernel) _]
    rw [str_new_tree]
    refine wpAny_bind (wpAny_pure ?_)
    refine wpAny_bind (wpAny_of_eq isSubtype_str_str ?_)
    exact wpAny_bind (strOf_own hu X hs hb hm ho hc hd h0 ht (wpAny_pure ⟨_, _, rfl, hq⟩))
  · rintro obj s₁ ⟨y, u, rfl, hq⟩
    exact ⟨typeIs_str _ _ _, PySem.F.args_object_init_2 _ _, object_init_meets PySem.F.called_str.init.lookup PySem.F.called_str.made (by decide) prog w A.in1 _ s₁ ⟨typeIs_str _ _ _, rfl, hq⟩⟩
end
end Mine

-- SxJoin
namespace Mine
open PySem PyProof.Rows PySem.W

/-- the one dict of the text -/
noncomputable def postKvs : List (Str × Str) := [("*", "star"), ("+", "plus"), ("?", "opt")]

/-- does the written heap show the datum? -/
noncomputable def repIn (K : Frag) : Nat → Value → PV → Bool
  | 0, _, _ => false
  | n + 1, v, d => match v, d with
    | .none, .none => true
    | .bool a, .bool b => a == b
    | .int i _, .int j => i == j
    | .str x _, .str y => x == y
    | .ref a, .tup ds => match K.lookup a with
      | some ⟨.type T, none, .seq vs _, sl⟩ => T == "tuple" && sl.size == 0 && vs.size == ds.length && (vs.toList.zip ds).all fun p => repIn K n p.1 p.2
      | _ => false
    | .ref a, .list ds => match K.lookup a with
      | some ⟨.type T, none, .seq vs _, sl⟩ => T == "list" && sl.size == 0 && vs.size == ds.length && (vs.toList.zip ds).all fun p => repIn K n p.1 p.2
      | _ => false
    | .ref a, .sdict kvs => a == 30 && kvs == postKvs
    | _, _ => false

section
variable {c : Cx} {K : Frag}
theorem reps_of {n : Nat} (ih : ∀ v d, repIn K n v d = true → Rep c [] c.base v d) : ∀ {vs : List Value} {ds : List PV}, vs.length = ds.length → ((vs.zip ds).all fun p => repIn K n p.1 p.2) = true → Reps c [] c.base vs ds
  | [], [], _, _ => .nil
  | v :: vs, d :: ds, hl, h => by
    simp only [List.zip_cons_cons, List.all_cons, Bool.and_eq_true] at h
    exact .cons (ih v d h.1) (reps_of ih (by simpa using hl) h.2)
theorem rep_of (X : K.In c.base) (hSD : c.SD 30 postKvs) : ∀ (n : Nat) (v : Value) (d : PV), repIn K n v d = true → Rep c [] c.base v d
  | 0, _, _, h => by cases h
  | n + 1, v, d, h => by
    cases v with
    | none =>
      cases d with
      | none => exact .none
      | _ => exact absB h
    | bool b =>
      cases d with
      | bool b' => rw [beq_iff_eq.mp (show (b == b') = true from h)]; exact .bool _
      | _ => exact absB h
    | int i t =>
      cases d with
      | int j => rw [beq_iff_eq.mp (show (i == j) = true from h)]; exact .int _ _
      | _ => exact absB h
    | str x t =>
      cases d with
      | str y => rw [beq_iff_eq.mp (show (x == y) = true from h)]; exact .str _ _
      | _ => exact absB h
    | ref a =>
      cases d with
      | tup ds =>
        have h : (match K.lookup a with
          | some ⟨.type T, none, .seq vs _, sl⟩ => T == "tuple" && sl.size == 0 && vs.size == ds.length && (vs.toList.zip ds).all fun p => repIn K n p.1 p.2
          | _ => false) = true := h
        split at h
        · rename_i hk
          simp only [Bool.and_eq_true, beq_iff_eq] at h
          obtain ⟨⟨⟨h1, h2⟩, h3⟩, h4⟩ := h
          rename_i T vs k sl
          subst h1
          have h2 := Array.eq_empty_of_size_eq_zero h2
          subst h2
          exact .tup (fun q => nomatch q) (vs := vs.toList) (n := k) (by rw [Array.toArray_toList]; exact X _ _ hk) (reps_of (rep_of X hSD n) h3 h4)
        · exact absB h
      | list ds =>
        have h : (match K.lookup a with
          | some ⟨.type T, none, .seq vs _, sl⟩ => T == "list" && sl.size == 0 && vs.size == ds.length && (vs.toList.zip ds).all fun p => repIn K n p.1 p.2
          | _ => false) = true := h
        split at h
        · rename_i hk
          simp only [Bool.and_eq_true, beq_iff_eq] at h
          obtain ⟨⟨⟨h1, h2⟩, h3⟩, h4⟩ := h
          rename_i T vs k sl
          subst h1
          have h2 := Array.eq_empty_of_size_eq_zero h2
          subst h2
          exact .list (fun q => nomatch q) (vs := vs.toList) (n := k) (by rw [Array.toArray_toList]; exact X _ _ hk) (reps_of (rep_of X hSD n) h3 h4)
        · exact absB h
      | sdict kvs =>
        have h : (a == 30 && kvs == postKvs) = true := h
        simp only [Bool.and_eq_true, beq_iff_eq] at h
        rw [h.1, h.2]
        exact .sdict hSD
      | _ => exact absB h
    | _ => exact absB h

/-- all constants at once -/
noncomputable def globIn (K : Frag) (body : List Stmt) (x : Str) : Bool := match nsIn K mainGlobals x, glob body x with
  | some (some v), some d => repIn K 20 v d
  | _, none => true
  | _, _ => false
theorem glob_of {body : List Stmt} (X : K.In c.base) (G : c.base.Ns mainGlobals c.mg) (hSD : c.SD 30 postKvs) (h : (gNames.all (globIn K body)) = true) (x : Str) (d : PV) (hx : glob body x = some d) : ∃ v, c.mg x = some v ∧ Rep c [] c.base v d := by
  have hm : x ∈ gNames := by
    unfold glob at hx
    split at hx
    · rename_i q; exact List.contains_iff_mem.mp q
    · first | exact absN hx | cases hx
  have hg := List.all_eq_true.mp h x hm
  unfold globIn at hg
  rw [hx] at hg
  split at hg
  · rename_i v d' e1 e2
    cases e2
    exact ⟨v, mg_of X G e1, rep_of X hSD 20 v _ hg⟩
  · rename_i e; cases e
  · first | exact absN hg | cases hg

noncomputable def getFn (f : Str) : Fn := match theBody.findSome? (fnOf? f) with
  | some fn => fn
  | none => ⟨[], [], []⟩
theorem getFn_of {f : Str} {fn : Fn} (h : theBody.findSome? (fnOf? f) = some fn) : fn = getFn f := by
  unfold getFn; rw [h]

theorem fnAt_of {f : Str} {fa cd : Addr} {q : Str} {ps : Arguments} {pm : Value} (X : K.In c.base)
    (e : K.lookup fa = some ⟨.type "function", none, .func (fnOf q q ps (getFn f).body ⟨.function, (getFn f).names, false, false, []⟩ .none .none .none pm none (.ref cd) .none), #[]⟩)
    (hc : codeIn K (.ref cd) q = true) (h1 : ((getFn f).names.all fun x => x.2 != .cell) = true) (h2 : ((getFn f).params.all fun x => (getFn f).names.lookup x == some .local) = true) (h3 : (getFn f).params.Nodup)
    (h4 : ∀ vs : List Value, vs.length = (getFn f).params.length → bindArgs (fnOf q q ps (getFn f).body ⟨.function, (getFn f).names, false, false, []⟩ .none .none .none pm none (.ref cd) .none) ⟨vs, []⟩ = pure ((getFn f).params.zip vs)) :
    FnAt c (getFn f) fa :=
  ⟨_, _, X _ _ e, rfl, rfl, rfl, rfl, rfl, rfl, rfl, rfl, rfl, codeRec_of X hc, fun x hx => by have := List.all_eq_true.mp h1 x hx; simpa using this, fun x hx => by have := List.all_eq_true.mp h2 x hx; simpa using this, h3,
    fun s vs hl => .of_eq (h4 vs hl)⟩
end
end Mine

-- SxHead
namespace Mine
open PySem PySem.W PyProof.Rows

/-- the heap behind the top: the defs' bodies are read from the row -/
noncomputable def heapK (P : Params) : Frag :=
  [(2, Obj.mk Value.none none (Data.dict #[DictEntry.mk (PyData.keyHash P (Str.ofString "type.__subclasses__.Exception.0")) (Value.str (Str.ofString "type.__subclasses__.Exception.0") 205) (Value.int 24 0), DictEntry.mk (PyData.keyHash P (Str.ofString "type.__subclasses__.Exception.n")) (Value.str (Str.ofString "type.__subclasses__.Exception.n") 206) (Value.int 1 0)] 2) #[]),
  (3, Obj.mk (Value.type "dict") none (Data.dict #[DictEntry.mk (PyData.keyHash P (Str.ofString "__name__")) (Value.str (Str.ofString "__name__") 165) (Value.str (Str.ofString "law_sx_zquartet_4") 303), DictEntry.mk (PyData.keyHash P (Str.ofString "__doc__")) (Value.str (Str.ofString "__doc__") 166) Value.none, DictEntry.mk (PyData.keyHash P (Str.ofString "__package__")) (Value.str (Str.ofString "__package__") 167) Value.none, DictEntry.mk (PyData.keyHash P (Str.ofString "__loader__")) (Value.str (Str.ofString "__loader__") 168) (Value.builtin "__main__.__loader__#opaque"), DictEntry.mk (PyData.keyHash P (Str.ofString "__spec__")) (Value.str (Str.ofString "__spec__") 169) Value.none, DictEntry.mk (PyData.keyHash P (Str.ofString "__annotations__")) (Value.str (Str.ofString "__annotations__") 170) (Value.ref 6), DictEntry.mk (PyData.keyHash P (Str.ofString "__builtins__")) (Value.str (Str.ofString "__builtins__") 171) (Value.ref 4), DictEntry.mk (PyData.keyHash P (Str.ofString "__file__")) (Value.str (Str.ofString "__file__") 173) (Value.str (Str.ofString "/claim/cut.py") 172), DictEntry.mk (PyData.keyHash P (Str.ofString "__cached__")) (Value.str (Str.ofString "__cached__") 174) Value.none, DictEntry.mk (PyData.keyHash P (Str.ofString "PatternError")) (Value.str (Str.ofString "PatternError") 208) (Value.ref 24), DictEntry.mk (PyData.keyHash P (Str.ofString "PLAIN_SIGNS")) (Value.str (Str.ofString "PLAIN_SIGNS") 210) (Value.str (Str.ofString "abcdefghijklmnopqrstuvwxyz0123456789") 209), DictEntry.mk (PyData.keyHash P (Str.ofString "OPERATOR_SIGNS")) (Value.str (Str.ofString "OPERATOR_SIGNS") 212) (Value.str (Str.ofString "()|*+?") 211), DictEntry.mk (PyData.keyHash P (Str.ofString "ENDS_PIECE")) (Value.str (Str.ofString "ENDS_PIECE") 220) (Value.ref 28), DictEntry.mk (PyData.keyHash P (Str.ofString "BEGINS_PIECE")) (Value.str (Str.ofString "BEGINS_PIECE") 225) (Value.ref 29), DictEntry.mk (PyData.keyHash P (Str.ofString "POSTFIX_NAMES")) (Value.str (Str.ofString "POSTFIX_NAMES") 235) (Value.ref 30), DictEntry.mk (PyData.keyHash P (Str.ofString "is_plain_sign")) (Value.str (Str.ofString "is_plain_sign") 242) (Value.ref 37), DictEntry.mk (PyData.keyHash P (Str.ofString "tokens_of")) (Value.str (Str.ofString "tokens_of") 252) (Value.ref 44), DictEntry.mk (PyData.keyHash P (Str.ofString "with_joins")) (Value.str (Str.ofString "with_joins") 264) (Value.ref 51), DictEntry.mk (PyData.keyHash P (Str.ofString "to_postfix")) (Value.str (Str.ofString "to_postfix") 277) (Value.ref 58), DictEntry.mk (PyData.keyHash P (Str.ofString "operator_name")) (Value.str (Str.ofString "operator_name") 284) (Value.ref 65), DictEntry.mk (PyData.keyHash P (Str.ofString "postfix_ok")) (Value.str (Str.ofString "postfix_ok") 295) (Value.ref 72), DictEntry.mk (PyData.keyHash P (Str.ofString "compile_pattern")) (Value.str (Str.ofString "compile_pattern") 302) (Value.ref 79), DictEntry.mk (PyData.keyHash P (Str.ofString "_law_spoils")) (Value.str (Str.ofString "_law_spoils") 317) (Value.ref 80), DictEntry.mk (PyData.keyHash P (Str.ofString "_law_signs")) (Value.str (Str.ofString "_law_signs") 330) (Value.ref 81), DictEntry.mk (PyData.keyHash P (Str.ofString "_law_shapes")) (Value.str (Str.ofString "_law_shapes") 350) (Value.ref 108), DictEntry.mk (PyData.keyHash P (Str.ofString "_law_fronts")) (Value.str (Str.ofString "_law_fronts") 393) (Value.ref 154), DictEntry.mk (PyData.keyHash P (Str.ofString "_law_leaf")) (Value.str (Str.ofString "_law_leaf") 401) (Value.ref 161), DictEntry.mk (PyData.keyHash P (Str.ofString "_law_marked")) (Value.str (Str.ofString "_law_marked") 410) (Value.ref 168), DictEntry.mk (PyData.keyHash P (Str.ofString "_law_row")) (Value.str (Str.ofString "_law_row") 422) (Value.ref 175), DictEntry.mk (PyData.keyHash P (Str.ofString "_law_alts")) (Value.str (Str.ofString "_law_alts") 435) (Value.ref 182), DictEntry.mk (PyData.keyHash P (Str.ofString "_law_due")) (Value.str (Str.ofString "_law_due") 446) (Value.ref 189), DictEntry.mk (PyData.keyHash P (Str.ofString "_law_lost")) (Value.str (Str.ofString "_law_lost") 454) (Value.ref 196), DictEntry.mk (PyData.keyHash P (Str.ofString "_law_bent")) (Value.str (Str.ofString "_law_bent") 463) (Value.ref 203), DictEntry.mk (PyData.keyHash P (Str.ofString "_law_read")) (Value.str (Str.ofString "_law_read") 473) (Value.ref 210), DictEntry.mk (PyData.keyHash P (Str.ofString "_law_order")) (Value.str (Str.ofString "_law_order") 483) (Value.ref 217), DictEntry.mk (PyData.keyHash P (Str.ofString "law")) (Value.str (Str.ofString "law") 489) (Value.ref 222)] 36) #[]),
  (15, Obj.mk (Value.type "tuple") none (Data.seq #[Value.type "Exception"]) #[]),
  (22, Obj.mk (Value.type "tuple") none (Data.seq #[]) #[]),
  (23, Obj.mk (Value.type "dict") none (Data.dict #[DictEntry.mk (PyData.keyHash P (Str.ofString "__module__")) (Value.str (Str.ofString "__module__") 196) (Value.str (Str.ofString "quartet.core") 187), DictEntry.mk (PyData.keyHash P (Str.ofString "__firstlineno__")) (Value.str (Str.ofString "__firstlineno__") 200) (Value.int 2 199), DictEntry.mk (PyData.keyHash P (Str.ofString "__static_attributes__")) (Value.str (Str.ofString "__static_attributes__") 201) (Value.ref 22), DictEntry.mk (PyData.keyHash P (Str.ofString "__weakref__")) (Value.str (Str.ofString "__weakref__") 203) (Value.ref 25), DictEntry.mk (PyData.keyHash P (Str.ofString "__doc__")) (Value.str (Str.ofString "__doc__") 204) Value.none] 3) #[]),
  (24, Obj.mk (Value.type "type") none (Data.cls (ClassData.mk (Str.ofString "PatternError") [Value.type "Exception"] [Value.ref 24, Value.type "Exception", Value.type "BaseException", Value.type "object"] 23 (Str.ofString "PatternError") true [] [] false none false)) #[some (Value.ref 15), none, some (Value.str (Str.ofString "PatternError") 189), some (Value.str (Str.ofString "PatternError") 197), some (Value.builtin "Exception.__new__"), some (Value.bool true)]),
  (25, Obj.mk (Value.type "getset_descriptor") none (Data.fields #[Value.str (Str.ofString "__weakref__") 202, Value.ref 24, Value.builtin "ExceptionGroup.__weakref__", Value.none]) #[]),
  (28, Obj.mk (Value.type "tuple") none (Data.seq #[Value.str (Str.ofString "chr") 213, Value.str (Str.ofString "any") 214, Value.str (Str.ofString "eps") 215, Value.str (Str.ofString ")") 216, Value.str (Str.ofString "*") 217, Value.str (Str.ofString "+") 218, Value.str (Str.ofString "?") 219]) #[]),
  (29, Obj.mk (Value.type "tuple") none (Data.seq #[Value.str (Str.ofString "chr") 221, Value.str (Str.ofString "any") 222, Value.str (Str.ofString "eps") 223, Value.str (Str.ofString "(") 224]) #[]),
  (30, Obj.mk (Value.type "dict") none (Data.dict #[DictEntry.mk (PyData.keyHash P (Str.ofString "*")) (Value.str (Str.ofString "*") 226) (Value.str (Str.ofString "star") 227), DictEntry.mk (PyData.keyHash P (Str.ofString "+")) (Value.str (Str.ofString "+") 228) (Value.str (Str.ofString "plus") 229), DictEntry.mk (PyData.keyHash P (Str.ofString "?")) (Value.str (Str.ofString "?") 230) (Value.str (Str.ofString "opt") 231)] 3) #[]),
  (31, Obj.mk (Value.type "tuple") none (Data.seq #[]) #[]),
  (33, Obj.mk (Value.type "tuple") none (Data.seq #[Value.str (Str.ofString "c") 239]) #[]),
  (34, Obj.mk (Value.type "tuple") none (Data.seq #[]) #[]),
  (36, Obj.mk (Value.type "code") none (Data.fields #[Value.str (Str.ofString "is_plain_sign") 236, Value.str (Str.ofString "is_plain_sign") 237, Value.str (Str.ofString "/claim/cut.py") 238, Value.int 9 0, Value.int 1 0, Value.int 0 0, Value.int 0 0, Value.int 3 0, Value.ref 31, Value.bool true, Value.int 181 0, Value.ref 32, Value.none, Value.ref 33, Value.ref 34, Value.ref 35, Value.int 240 0, Value.int 9 0, Value.str (Str.ofString "/claim/cut.py") 241]) #[]),
  (37, Obj.mk (Value.type "function") none (Data.func (FuncData.mk (Str.ofString "is_plain_sign") (Str.ofString "is_plain_sign") (Arguments.mk [] [Arg.mk (Str.ofString "c") none (Pos.mk 9 18 9 19)] none [] [] none []) (FuncBody.stmts (getFn "is_plain_sign").body) (Scope.mk ScopeKind.function (getFn "is_plain_sign").names false false []) 3 [] Value.none Value.none Value.none (Value.str (Str.ofString "quartet.core") 187) none (Value.ref 36) Value.none 0)) #[]),
  (38, Obj.mk (Value.type "tuple") none (Data.seq #[]) #[]),
  (40, Obj.mk (Value.type "tuple") none (Data.seq #[Value.str (Str.ofString "pattern") 246, Value.str (Str.ofString "tokens") 247, Value.str (Str.ofString "i") 248, Value.str (Str.ofString "c") 249]) #[]),
  (41, Obj.mk (Value.type "tuple") none (Data.seq #[]) #[]),
  (43, Obj.mk (Value.type "code") none (Data.fields #[Value.str (Str.ofString "tokens_of") 243, Value.str (Str.ofString "tokens_of") 244, Value.str (Str.ofString "/claim/cut.py") 245, Value.int 11 0, Value.int 1 0, Value.int 0 0, Value.int 0 0, Value.int 3 0, Value.ref 38, Value.bool true, Value.int 181 0, Value.ref 39, Value.none, Value.ref 40, Value.ref 41, Value.ref 42, Value.int 250 0, Value.int 11 0, Value.str (Str.ofString "/claim/cut.py") 251]) #[]),
  (44, Obj.mk (Value.type "function") none (Data.func (FuncData.mk (Str.ofString "tokens_of") (Str.ofString "tokens_of") (Arguments.mk [] [Arg.mk (Str.ofString "pattern") none (Pos.mk 11 14 11 21)] none [] [] none []) (FuncBody.stmts (getFn "tokens_of").body) (Scope.mk ScopeKind.function (getFn "tokens_of").names false false []) 3 [] Value.none Value.none Value.none (Value.str (Str.ofString "quartet.core") 187) none (Value.ref 43) Value.none 0)) #[]),
  (45, Obj.mk (Value.type "tuple") none (Data.seq #[]) #[]),
  (47, Obj.mk (Value.type "tuple") none (Data.seq #[Value.str (Str.ofString "tokens") 256, Value.str (Str.ofString "filled") 257, Value.str (Str.ofString "before") 258, Value.str (Str.ofString "i") 259, Value.str (Str.ofString "after") 260, Value.str (Str.ofString "joined") 261]) #[]),
  (48, Obj.mk (Value.type "tuple") none (Data.seq #[]) #[]),
  (50, Obj.mk (Value.type "code") none (Data.fields #[Value.str (Str.ofString "with_joins") 253, Value.str (Str.ofString "with_joins") 254, Value.str (Str.ofString "/claim/cut.py") 255, Value.int 24 0, Value.int 1 0, Value.int 0 0, Value.int 0 0, Value.int 3 0, Value.ref 45, Value.bool true, Value.int 181 0, Value.ref 46, Value.none, Value.ref 47, Value.ref 48, Value.ref 49, Value.int 262 0, Value.int 24 0, Value.str (Str.ofString "/claim/cut.py") 263]) #[]),
  (51, Obj.mk (Value.type "function") none (Data.func (FuncData.mk (Str.ofString "with_joins") (Str.ofString "with_joins") (Arguments.mk [] [Arg.mk (Str.ofString "tokens") none (Pos.mk 24 15 24 21)] none [] [] none []) (FuncBody.stmts (getFn "with_joins").body) (Scope.mk ScopeKind.function (getFn "with_joins").names false false []) 3 [] Value.none Value.none Value.none (Value.str (Str.ofString "quartet.core") 187) none (Value.ref 50) Value.none 0)) #[]),
  (52, Obj.mk (Value.type "tuple") none (Data.seq #[]) #[]),
  (54, Obj.mk (Value.type "tuple") none (Data.seq #[Value.str (Str.ofString "tokens") 268, Value.str (Str.ofString "out") 269, Value.str (Str.ofString "ops") 270, Value.str (Str.ofString "token") 271, Value.str (Str.ofString "kind") 272, Value.str (Str.ofString "k") 273, Value.str (Str.ofString "top") 274]) #[]),
  (55, Obj.mk (Value.type "tuple") none (Data.seq #[]) #[]),
  (57, Obj.mk (Value.type "code") none (Data.fields #[Value.str (Str.ofString "to_postfix") 265, Value.str (Str.ofString "to_postfix") 266, Value.str (Str.ofString "/claim/cut.py") 267, Value.int 42 0, Value.int 1 0, Value.int 0 0, Value.int 0 0, Value.int 3 0, Value.ref 52, Value.bool true, Value.int 181 0, Value.ref 53, Value.none, Value.ref 54, Value.ref 55, Value.ref 56, Value.int 275 0, Value.int 42 0, Value.str (Str.ofString "/claim/cut.py") 276]) #[]),
  (58, Obj.mk (Value.type "function") none (Data.func (FuncData.mk (Str.ofString "to_postfix") (Str.ofString "to_postfix") (Arguments.mk [] [Arg.mk (Str.ofString "tokens") none (Pos.mk 42 15 42 21)] none [] [] none []) (FuncBody.stmts (getFn "to_postfix").body) (Scope.mk ScopeKind.function (getFn "to_postfix").names false false []) 3 [] Value.none Value.none Value.none (Value.str (Str.ofString "quartet.core") 187) none (Value.ref 57) Value.none 0)) #[]),
  (59, Obj.mk (Value.type "tuple") none (Data.seq #[]) #[]),
  (61, Obj.mk (Value.type "tuple") none (Data.seq #[Value.str (Str.ofString "op") 281]) #[]),
  (62, Obj.mk (Value.type "tuple") none (Data.seq #[]) #[]),
  (64, Obj.mk (Value.type "code") none (Data.fields #[Value.str (Str.ofString "operator_name") 278, Value.str (Str.ofString "operator_name") 279, Value.str (Str.ofString "/claim/cut.py") 280, Value.int 78 0, Value.int 1 0, Value.int 0 0, Value.int 0 0, Value.int 3 0, Value.ref 59, Value.bool true, Value.int 181 0, Value.ref 60, Value.none, Value.ref 61, Value.ref 62, Value.ref 63, Value.int 282 0, Value.int 78 0, Value.str (Str.ofString "/claim/cut.py") 283]) #[]),
  (65, Obj.mk (Value.type "function") none (Data.func (FuncData.mk (Str.ofString "operator_name") (Str.ofString "operator_name") (Arguments.mk [] [Arg.mk (Str.ofString "op") none (Pos.mk 78 18 78 20)] none [] [] none []) (FuncBody.stmts (getFn "operator_name").body) (Scope.mk ScopeKind.function (getFn "operator_name").names false false []) 3 [] Value.none Value.none Value.none (Value.str (Str.ofString "quartet.core") 187) none (Value.ref 64) Value.none 0)) #[]),
  (66, Obj.mk (Value.type "tuple") none (Data.seq #[]) #[]),
  (68, Obj.mk (Value.type "tuple") none (Data.seq #[Value.str (Str.ofString "post") 288, Value.str (Str.ofString "depth") 289, Value.str (Str.ofString "item") 290, Value.str (Str.ofString "kind") 291, Value.str (Str.ofString "sign") 292]) #[]),
  (69, Obj.mk (Value.type "tuple") none (Data.seq #[]) #[]),
  (71, Obj.mk (Value.type "code") none (Data.fields #[Value.str (Str.ofString "postfix_ok") 285, Value.str (Str.ofString "postfix_ok") 286, Value.str (Str.ofString "/claim/cut.py") 287, Value.int 82 0, Value.int 1 0, Value.int 0 0, Value.int 0 0, Value.int 3 0, Value.ref 66, Value.bool true, Value.int 181 0, Value.ref 67, Value.none, Value.ref 68, Value.ref 69, Value.ref 70, Value.int 293 0, Value.int 82 0, Value.str (Str.ofString "/claim/cut.py") 294]) #[]),
  (72, Obj.mk (Value.type "function") none (Data.func (FuncData.mk (Str.ofString "postfix_ok") (Str.ofString "postfix_ok") (Arguments.mk [] [Arg.mk (Str.ofString "post") none (Pos.mk 82 15 82 19)] none [] [] none []) (FuncBody.stmts (getFn "postfix_ok").body) (Scope.mk ScopeKind.function (getFn "postfix_ok").names false false []) 3 [] Value.none Value.none Value.none (Value.str (Str.ofString "quartet.core") 187) none (Value.ref 71) Value.none 0)) #[]),
  (73, Obj.mk (Value.type "tuple") none (Data.seq #[]) #[]),
  (75, Obj.mk (Value.type "tuple") none (Data.seq #[Value.str (Str.ofString "pattern") 299]) #[]),
  (76, Obj.mk (Value.type "tuple") none (Data.seq #[]) #[]),
  (78, Obj.mk (Value.type "code") none (Data.fields #[Value.str (Str.ofString "compile_pattern") 296, Value.str (Str.ofString "compile_pattern") 297, Value.str (Str.ofString "/claim/cut.py") 298, Value.int 109 0, Value.int 1 0, Value.int 0 0, Value.int 0 0, Value.int 3 0, Value.ref 73, Value.bool true, Value.int 181 0, Value.ref 74, Value.none, Value.ref 75, Value.ref 76, Value.ref 77, Value.int 300 0, Value.int 109 0, Value.str (Str.ofString "/claim/cut.py") 301]) #[]),
  (79, Obj.mk (Value.type "function") none (Data.func (FuncData.mk (Str.ofString "compile_pattern") (Str.ofString "compile_pattern") (Arguments.mk [] [Arg.mk (Str.ofString "pattern") none (Pos.mk 109 20 109 27)] none [] [] none []) (FuncBody.stmts (getFn "compile_pattern").body) (Scope.mk ScopeKind.function (getFn "compile_pattern").names false false []) 3 [] Value.none Value.none Value.none (Value.str (Str.ofString "quartet.core") 187) none (Value.ref 78) Value.none 0)) #[]),
  (80, Obj.mk (Value.type "tuple") none (Data.seq #[Value.str (Str.ofString "") 305, Value.str (Str.ofString "*") 306, Value.str (Str.ofString "+?") 307, Value.str (Str.ofString "|") 308, Value.str (Str.ofString "(*") 309, Value.str (Str.ofString ")") 310, Value.str (Str.ofString ")(") 311, Value.str (Str.ofString "()") 312, Value.str (Str.ofString "`") 313, Value.str (Str.ofString "{Z") 314, Value.str (Str.ofString "&") 315, Value.str (Str.ofString ")/") 316]) #[]),
  (81, Obj.mk (Value.type "tuple") none (Data.seq #[Value.str (Str.ofString "") 318, Value.str (Str.ofString "a") 319, Value.str (Str.ofString "z") 320, Value.str (Str.ofString "0") 321, Value.str (Str.ofString "9") 322, Value.str (Str.ofString "`") 323, Value.str (Str.ofString "{") 324, Value.str (Str.ofString "/") 325, Value.str (Str.ofString ":") 326, Value.str (Str.ofString "ab") 327, Value.str (Str.ofString "Z") 328, Value.str (Str.ofString ".") 329]) #[]),
  (82, Obj.mk (Value.type "tuple") none (Data.seq #[]) #[]),
  (83, Obj.mk (Value.type "tuple") none (Data.seq #[Value.ref 82]) #[]),
  (84, Obj.mk (Value.type "tuple") none (Data.seq #[Value.int 0 331]) #[]),
  (85, Obj.mk (Value.type "tuple") none (Data.seq #[Value.ref 84]) #[]),
  (86, Obj.mk (Value.type "tuple") none (Data.seq #[Value.int 0 332, Value.int 1 333, Value.int 2 334]) #[]),
  (87, Obj.mk (Value.type "tuple") none (Data.seq #[Value.ref 86]) #[]),
  (88, Obj.mk (Value.type "tuple") none (Data.seq #[Value.int 0 335, Value.int 1 336]) #[]),
  (89, Obj.mk (Value.type "tuple") none (Data.seq #[Value.int 2 337]) #[]),
  (90, Obj.mk (Value.type "tuple") none (Data.seq #[Value.ref 88, Value.ref 89]) #[]),
  (91, Obj.mk (Value.type "tuple") none (Data.seq #[Value.int 0 338]) #[]),
  (92, Obj.mk (Value.type "tuple") none (Data.seq #[Value.int 1 339, Value.int 2 340]) #[]),
  (93, Obj.mk (Value.type "tuple") none (Data.seq #[Value.ref 91, Value.ref 92]) #[]),
  (94, Obj.mk (Value.type "tuple") none (Data.seq #[Value.int 0 341]) #[]),
  (95, Obj.mk (Value.type "tuple") none (Data.seq #[]) #[]),
  (96, Obj.mk (Value.type "tuple") none (Data.seq #[Value.int 1 342]) #[]),
  (97, Obj.mk (Value.type "tuple") none (Data.seq #[Value.ref 94, Value.ref 95, Value.ref 96]) #[]),
  (98, Obj.mk (Value.type "tuple") none (Data.seq #[]) #[]),
  (99, Obj.mk (Value.type "tuple") none (Data.seq #[Value.int 0 343, Value.int 1 344]) #[]),
  (100, Obj.mk (Value.type "tuple") none (Data.seq #[Value.ref 98, Value.ref 99]) #[]),
  (101, Obj.mk (Value.type "tuple") none (Data.seq #[Value.int 0 345]) #[]),
  (102, Obj.mk (Value.type "tuple") none (Data.seq #[Value.int 1 346]) #[]),
  (103, Obj.mk (Value.type "tuple") none (Data.seq #[Value.int 2 347]) #[]),
  (104, Obj.mk (Value.type "tuple") none (Data.seq #[Value.ref 101, Value.ref 102, Value.ref 103]) #[]),
  (105, Obj.mk (Value.type "tuple") none (Data.seq #[Value.int 1 348, Value.int 0 349]) #[]),
  (106, Obj.mk (Value.type "tuple") none (Data.seq #[]) #[]),
  (107, Obj.mk (Value.type "tuple") none (Data.seq #[Value.ref 105, Value.ref 106]) #[]),
  (108, Obj.mk (Value.type "tuple") none (Data.seq #[Value.ref 83, Value.ref 85, Value.ref 87, Value.ref 90, Value.ref 93, Value.ref 97, Value.ref 100, Value.ref 104, Value.ref 107]) #[]),
  (109, Obj.mk (Value.type "tuple") none (Data.seq #[Value.str (Str.ofString "chr") 351, Value.str (Str.ofString "ab") 352]) #[]),
  (110, Obj.mk (Value.type "list") none (Data.seq #[Value.ref 109]) #[]),
  (111, Obj.mk (Value.type "tuple") none (Data.seq #[Value.bool false, Value.ref 110]) #[]),
  (112, Obj.mk (Value.type "list") none (Data.seq #[Value.str (Str.ofString "eps") 353, Value.str (Str.ofString "") 354]) #[]),
  (113, Obj.mk (Value.type "list") none (Data.seq #[Value.ref 112]) #[]),
  (114, Obj.mk (Value.type "tuple") none (Data.seq #[Value.bool false, Value.ref 113]) #[]),
  (115, Obj.mk (Value.type "tuple") none (Data.seq #[Value.str (Str.ofString "eps") 355, Value.str (Str.ofString "") 356, Value.str (Str.ofString "") 357]) #[]),
  (116, Obj.mk (Value.type "list") none (Data.seq #[Value.ref 115]) #[]),
  (117, Obj.mk (Value.type "tuple") none (Data.seq #[Value.bool false, Value.ref 116]) #[]),
  (118, Obj.mk (Value.type "tuple") none (Data.seq #[Value.str (Str.ofString "chr") 358, Value.none]) #[]),
  (119, Obj.mk (Value.type "list") none (Data.seq #[Value.ref 118]) #[]),
  (120, Obj.mk (Value.type "tuple") none (Data.seq #[Value.bool false, Value.ref 119]) #[]),
  (121, Obj.mk (Value.type "tuple") none (Data.seq #[Value.str (Str.ofString "eps") 359, Value.str (Str.ofString "") 360]) #[]),
  (122, Obj.mk (Value.type "tuple") none (Data.seq #[Value.int 7 361, Value.str (Str.ofString "") 362]) #[]),
  (123, Obj.mk (Value.type "list") none (Data.seq #[Value.ref 121, Value.ref 122]) #[]),
  (124, Obj.mk (Value.type "tuple") none (Data.seq #[Value.bool false, Value.ref 123]) #[]),
  (125, Obj.mk (Value.type "tuple") none (Data.seq #[Value.str (Str.ofString "eps") 363, Value.str (Str.ofString "") 364]) #[]),
  (126, Obj.mk (Value.type "tuple") none (Data.seq #[Value.str (Str.ofString "star") 365, Value.str (Str.ofString "x") 366]) #[]),
  (127, Obj.mk (Value.type "list") none (Data.seq #[Value.ref 125, Value.ref 126]) #[]),
  (128, Obj.mk (Value.type "tuple") none (Data.seq #[Value.bool false, Value.ref 127]) #[]),
  (129, Obj.mk (Value.type "tuple") none (Data.seq #[Value.str (Str.ofString "eps") 367, Value.str (Str.ofString "") 368]) #[]),
  (130, Obj.mk (Value.type "tuple") none (Data.seq #[Value.str (Str.ofString "cut") 369, Value.str (Str.ofString "") 370]) #[]),
  (131, Obj.mk (Value.type "list") none (Data.seq #[Value.ref 129, Value.ref 130]) #[]),
  (132, Obj.mk (Value.type "tuple") none (Data.seq #[Value.bool false, Value.ref 131]) #[]),
  (133, Obj.mk (Value.type "tuple") none (Data.seq #[Value.str (Str.ofString "star") 371, Value.str (Str.ofString "") 372]) #[]),
  (134, Obj.mk (Value.type "tuple") none (Data.seq #[Value.str (Str.ofString "eps") 373, Value.str (Str.ofString "") 374]) #[]),
  (135, Obj.mk (Value.type "list") none (Data.seq #[Value.ref 133, Value.ref 134]) #[]),
  (136, Obj.mk (Value.type "tuple") none (Data.seq #[Value.bool false, Value.ref 135]) #[]),
  (137, Obj.mk (Value.type "tuple") none (Data.seq #[Value.str (Str.ofString "eps") 375, Value.str (Str.ofString "") 376]) #[]),
  (138, Obj.mk (Value.type "tuple") none (Data.seq #[Value.str (Str.ofString "alt") 377, Value.str (Str.ofString "") 378]) #[]),
  (139, Obj.mk (Value.type "tuple") none (Data.seq #[Value.str (Str.ofString "eps") 379, Value.str (Str.ofString "") 380]) #[]),
  (140, Obj.mk (Value.type "list") none (Data.seq #[Value.ref 137, Value.ref 138, Value.ref 139]) #[]),
  (141, Obj.mk (Value.type "tuple") none (Data.seq #[Value.bool false, Value.ref 140]) #[]),
  (142, Obj.mk (Value.type "tuple") none (Data.seq #[Value.str (Str.ofString "any") 381, Value.str (Str.ofString "") 382]) #[]),
  (143, Obj.mk (Value.type "tuple") none (Data.seq #[Value.str (Str.ofString "plus") 383, Value.str (Str.ofString "") 384]) #[]),
  (144, Obj.mk (Value.type "list") none (Data.seq #[Value.ref 142, Value.ref 143]) #[]),
  (145, Obj.mk (Value.type "tuple") none (Data.seq #[Value.bool true, Value.ref 144]) #[]),
  (146, Obj.mk (Value.type "tuple") none (Data.seq #[Value.str (Str.ofString "any") 385, Value.str (Str.ofString "") 386]) #[]),
  (147, Obj.mk (Value.type "tuple") none (Data.seq #[Value.str (Str.ofString "eps") 387, Value.str (Str.ofString "") 388]) #[]),
  (148, Obj.mk (Value.type "tuple") none (Data.seq #[Value.str (Str.ofString "cat") 389, Value.str (Str.ofString "") 390]) #[]),
  (149, Obj.mk (Value.type "list") none (Data.seq #[Value.ref 146, Value.ref 147, Value.ref 148]) #[]),
  (150, Obj.mk (Value.type "tuple") none (Data.seq #[Value.bool true, Value.ref 149]) #[]),
  (151, Obj.mk (Value.type "tuple") none (Data.seq #[Value.str (Str.ofString "chr") 391, Value.str (Str.ofString "m") 392]) #[]),
  (152, Obj.mk (Value.type "list") none (Data.seq #[Value.ref 151]) #[]),
  (153, Obj.mk (Value.type "tuple") none (Data.seq #[Value.bool true, Value.ref 152]) #[]),
  (154, Obj.mk (Value.type "tuple") none (Data.seq #[Value.ref 111, Value.ref 114, Value.ref 117, Value.ref 120, Value.ref 124, Value.ref 128, Value.ref 132, Value.ref 136, Value.ref 141, Value.ref 145, Value.ref 150, Value.ref 153]) #[]),
  (155, Obj.mk (Value.type "tuple") none (Data.seq #[]) #[]),
  (157, Obj.mk (Value.type "tuple") none (Data.seq #[Value.str (Str.ofString "n") 397, Value.str (Str.ofString "sign") 398]) #[]),
  (158, Obj.mk (Value.type "tuple") none (Data.seq #[]) #[]),
  (160, Obj.mk (Value.type "code") none (Data.fields #[Value.str (Str.ofString "_law_leaf") 394, Value.str (Str.ofString "_law_leaf") 395, Value.str (Str.ofString "/claim/cut.py") 396, Value.int 116 0, Value.int 1 0, Value.int 0 0, Value.int 0 0, Value.int 3 0, Value.ref 155, Value.bool true, Value.int 181 0, Value.ref 156, Value.none, Value.ref 157, Value.ref 158, Value.ref 159, Value.int 399 0, Value.int 116 0, Value.str (Str.ofString "/claim/cut.py") 400]) #[]),
  (161, Obj.mk (Value.type "function") none (Data.func (FuncData.mk (Str.ofString "_law_leaf") (Str.ofString "_law_leaf") (Arguments.mk [] [Arg.mk (Str.ofString "n") none (Pos.mk 116 14 116 15)] none [] [] none []) (FuncBody.stmts (getFn "_law_leaf").body) (Scope.mk ScopeKind.function (getFn "_law_leaf").names false false []) 3 [] Value.none Value.none Value.none (Value.str (Str.ofString "law_sx_zquartet_4") 303) none (Value.ref 160) Value.none 0)) #[]),
  (162, Obj.mk (Value.type "tuple") none (Data.seq #[]) #[]),
  (164, Obj.mk (Value.type "tuple") none (Data.seq #[Value.str (Str.ofString "part") 405, Value.str (Str.ofString "n") 406, Value.str (Str.ofString "mark") 407]) #[]),
  (165, Obj.mk (Value.type "tuple") none (Data.seq #[]) #[]),
  (167, Obj.mk (Value.type "code") none (Data.fields #[Value.str (Str.ofString "_law_marked") 402, Value.str (Str.ofString "_law_marked") 403, Value.str (Str.ofString "/claim/cut.py") 404, Value.int 121 0, Value.int 2 0, Value.int 0 0, Value.int 0 0, Value.int 3 0, Value.ref 162, Value.bool true, Value.int 181 0, Value.ref 163, Value.none, Value.ref 164, Value.ref 165, Value.ref 166, Value.int 408 0, Value.int 121 0, Value.str (Str.ofString "/claim/cut.py") 409]) #[]),
  (168, Obj.mk (Value.type "function") none (Data.func (FuncData.mk (Str.ofString "_law_marked") (Str.ofString "_law_marked") (Arguments.mk [] [Arg.mk (Str.ofString "part") none (Pos.mk 121 16 121 20), Arg.mk (Str.ofString "n") none (Pos.mk 121 22 121 23)] none [] [] none []) (FuncBody.stmts (getFn "_law_marked").body) (Scope.mk ScopeKind.function (getFn "_law_marked").names false false []) 3 [] Value.none Value.none Value.none (Value.str (Str.ofString "law_sx_zquartet_4") 303) none (Value.ref 167) Value.none 0)) #[]),
  (169, Obj.mk (Value.type "tuple") none (Data.seq #[]) #[]),
  (171, Obj.mk (Value.type "tuple") none (Data.seq #[Value.str (Str.ofString "parts") 414, Value.str (Str.ofString "row") 415, Value.str (Str.ofString "text") 416, Value.str (Str.ofString "joined") 417, Value.str (Str.ofString "post") 418, Value.str (Str.ofString "k") 419]) #[]),
  (172, Obj.mk (Value.type "tuple") none (Data.seq #[]) #[]),
  (174, Obj.mk (Value.type "code") none (Data.fields #[Value.str (Str.ofString "_law_row") 411, Value.str (Str.ofString "_law_row") 412, Value.str (Str.ofString "/claim/cut.py") 413, Value.int 126 0, Value.int 2 0, Value.int 0 0, Value.int 0 0, Value.int 3 0, Value.ref 169, Value.bool true, Value.int 181 0, Value.ref 170, Value.none, Value.ref 171, Value.ref 172, Value.ref 173, Value.int 420 0, Value.int 126 0, Value.str (Str.ofString "/claim/cut.py") 421]) #[]),
  (175, Obj.mk (Value.type "function") none (Data.func (FuncData.mk (Str.ofString "_law_row") (Str.ofString "_law_row") (Arguments.mk [] [Arg.mk (Str.ofString "parts") none (Pos.mk 126 13 126 18), Arg.mk (Str.ofString "row") none (Pos.mk 126 20 126 23)] none [] [] none []) (FuncBody.stmts (getFn "_law_row").body) (Scope.mk ScopeKind.function (getFn "_law_row").names false false []) 3 [] Value.none Value.none Value.none (Value.str (Str.ofString "law_sx_zquartet_4") 303) none (Value.ref 174) Value.none 0)) #[]),
  (176, Obj.mk (Value.type "tuple") none (Data.seq #[]) #[]),
  (178, Obj.mk (Value.type "tuple") none (Data.seq #[Value.str (Str.ofString "parts") 426, Value.str (Str.ofString "shape") 427, Value.str (Str.ofString "text") 428, Value.str (Str.ofString "joined") 429, Value.str (Str.ofString "post") 430, Value.str (Str.ofString "row") 431, Value.str (Str.ofString "more") 432]) #[]),
  (179, Obj.mk (Value.type "tuple") none (Data.seq #[]) #[]),
  (181, Obj.mk (Value.type "code") none (Data.fields #[Value.str (Str.ofString "_law_alts") 423, Value.str (Str.ofString "_law_alts") 424, Value.str (Str.ofString "/claim/cut.py") 425, Value.int 135 0, Value.int 2 0, Value.int 0 0, Value.int 0 0, Value.int 3 0, Value.ref 176, Value.bool true, Value.int 181 0, Value.ref 177, Value.none, Value.ref 178, Value.ref 179, Value.ref 180, Value.int 433 0, Value.int 135 0, Value.str (Str.ofString "/claim/cut.py") 434]) #[]),
  (182, Obj.mk (Value.type "function") none (Data.func (FuncData.mk (Str.ofString "_law_alts") (Str.ofString "_law_alts") (Arguments.mk [] [Arg.mk (Str.ofString "parts") none (Pos.mk 135 14 135 19), Arg.mk (Str.ofString "shape") none (Pos.mk 135 21 135 26)] none [] [] none []) (FuncBody.stmts (getFn "_law_alts").body) (Scope.mk ScopeKind.function (getFn "_law_alts").names false false []) 3 [] Value.none Value.none Value.none (Value.str (Str.ofString "law_sx_zquartet_4") 303) none (Value.ref 181) Value.none 0)) #[]),
  (183, Obj.mk (Value.type "tuple") none (Data.seq #[]) #[]),
  (185, Obj.mk (Value.type "tuple") none (Data.seq #[Value.str (Str.ofString "text") 439, Value.str (Str.ofString "i") 440, Value.str (Str.ofString "depth") 441, Value.str (Str.ofString "c") 442, Value.str (Str.ofString "before") 443]) #[]),
  (186, Obj.mk (Value.type "tuple") none (Data.seq #[]) #[]),
  (188, Obj.mk (Value.type "code") none (Data.fields #[Value.str (Str.ofString "_law_due") 436, Value.str (Str.ofString "_law_due") 437, Value.str (Str.ofString "/claim/cut.py") 438, Value.int 143 0, Value.int 1 0, Value.int 0 0, Value.int 0 0, Value.int 3 0, Value.ref 183, Value.bool true, Value.int 181 0, Value.ref 184, Value.none, Value.ref 185, Value.ref 186, Value.ref 187, Value.int 444 0, Value.int 143 0, Value.str (Str.ofString "/claim/cut.py") 445]) #[]),
  (189, Obj.mk (Value.type "function") none (Data.func (FuncData.mk (Str.ofString "_law_due") (Str.ofString "_law_due") (Arguments.mk [] [Arg.mk (Str.ofString "text") none (Pos.mk 143 13 143 17)] none [] [] none []) (FuncBody.stmts (getFn "_law_due").body) (Scope.mk ScopeKind.function (getFn "_law_due").names false false []) 3 [] Value.none Value.none Value.none (Value.str (Str.ofString "law_sx_zquartet_4") 303) none (Value.ref 188) Value.none 0)) #[]),
  (190, Obj.mk (Value.type "tuple") none (Data.seq #[]) #[]),
  (192, Obj.mk (Value.type "tuple") none (Data.seq #[Value.str (Str.ofString "kind") 450, Value.str (Str.ofString "side") 451]) #[]),
  (193, Obj.mk (Value.type "tuple") none (Data.seq #[]) #[]),
  (195, Obj.mk (Value.type "code") none (Data.fields #[Value.str (Str.ofString "_law_lost") 447, Value.str (Str.ofString "_law_lost") 448, Value.str (Str.ofString "/claim/cut.py") 449, Value.int 163 0, Value.int 2 0, Value.int 0 0, Value.int 0 0, Value.int 3 0, Value.ref 190, Value.bool true, Value.int 181 0, Value.ref 191, Value.none, Value.ref 192, Value.ref 193, Value.ref 194, Value.int 452 0, Value.int 163 0, Value.str (Str.ofString "/claim/cut.py") 453]) #[]),
  (196, Obj.mk (Value.type "function") none (Data.func (FuncData.mk (Str.ofString "_law_lost") (Str.ofString "_law_lost") (Arguments.mk [] [Arg.mk (Str.ofString "kind") none (Pos.mk 163 14 163 18), Arg.mk (Str.ofString "side") none (Pos.mk 163 20 163 24)] none [] [] none []) (FuncBody.stmts (getFn "_law_lost").body) (Scope.mk ScopeKind.function (getFn "_law_lost").names false false []) 3 [] Value.none Value.none Value.none (Value.str (Str.ofString "law_sx_zquartet_4") 303) none (Value.ref 195) Value.none 0)) #[]),
  (197, Obj.mk (Value.type "tuple") none (Data.seq #[]) #[]),
  (199, Obj.mk (Value.type "tuple") none (Data.seq #[Value.str (Str.ofString "items") 458, Value.str (Str.ofString "spot") 459, Value.str (Str.ofString "side") 460]) #[]),
  (200, Obj.mk (Value.type "tuple") none (Data.seq #[]) #[]),
  (202, Obj.mk (Value.type "code") none (Data.fields #[Value.str (Str.ofString "_law_bent") 455, Value.str (Str.ofString "_law_bent") 456, Value.str (Str.ofString "/claim/cut.py") 457, Value.int 171 0, Value.int 3 0, Value.int 0 0, Value.int 0 0, Value.int 3 0, Value.ref 197, Value.bool true, Value.int 181 0, Value.ref 198, Value.none, Value.ref 199, Value.ref 200, Value.ref 201, Value.int 461 0, Value.int 171 0, Value.str (Str.ofString "/claim/cut.py") 462]) #[]),
  (203, Obj.mk (Value.type "function") none (Data.func (FuncData.mk (Str.ofString "_law_bent") (Str.ofString "_law_bent") (Arguments.mk [] [Arg.mk (Str.ofString "items") none (Pos.mk 171 14 171 19), Arg.mk (Str.ofString "spot") none (Pos.mk 171 21 171 25), Arg.mk (Str.ofString "side") none (Pos.mk 171 27 171 31)] none [] [] none []) (FuncBody.stmts (getFn "_law_bent").body) (Scope.mk ScopeKind.function (getFn "_law_bent").names false false []) 3 [] Value.none Value.none Value.none (Value.str (Str.ofString "law_sx_zquartet_4") 303) none (Value.ref 202) Value.none 0)) #[]),
  (204, Obj.mk (Value.type "tuple") none (Data.seq #[]) #[]),
  (206, Obj.mk (Value.type "tuple") none (Data.seq #[Value.str (Str.ofString "text") 467, Value.str (Str.ofString "got") 468, Value.str (Str.ofString "why") 469, Value.str (Str.ofString "err") 470]) #[]),
  (207, Obj.mk (Value.type "tuple") none (Data.seq #[]) #[]),
  (209, Obj.mk (Value.type "code") none (Data.fields #[Value.str (Str.ofString "_law_read") 464, Value.str (Str.ofString "_law_read") 465, Value.str (Str.ofString "/claim/cut.py") 466, Value.int 175 0, Value.int 1 0, Value.int 0 0, Value.int 0 0, Value.int 3 0, Value.ref 204, Value.bool true, Value.int 181 0, Value.ref 205, Value.none, Value.ref 206, Value.ref 207, Value.ref 208, Value.int 471 0, Value.int 175 0, Value.str (Str.ofString "/claim/cut.py") 472]) #[]),
  (210, Obj.mk (Value.type "function") none (Data.func (FuncData.mk (Str.ofString "_law_read") (Str.ofString "_law_read") (Arguments.mk [] [Arg.mk (Str.ofString "text") none (Pos.mk 175 14 175 18)] none [] [] none []) (FuncBody.stmts (getFn "_law_read").body) (Scope.mk ScopeKind.function (getFn "_law_read").names false false []) 3 [] Value.none Value.none Value.none (Value.str (Str.ofString "law_sx_zquartet_4") 303) none (Value.ref 209) Value.none 0)) #[]),
  (211, Obj.mk (Value.type "tuple") none (Data.seq #[]) #[]),
  (213, Obj.mk (Value.type "tuple") none (Data.seq #[Value.str (Str.ofString "tokens") 477, Value.str (Str.ofString "got") 478, Value.str (Str.ofString "why") 479, Value.str (Str.ofString "err") 480]) #[]),
  (214, Obj.mk (Value.type "tuple") none (Data.seq #[]) #[]),
  (216, Obj.mk (Value.type "code") none (Data.fields #[Value.str (Str.ofString "_law_order") 474, Value.str (Str.ofString "_law_order") 475, Value.str (Str.ofString "/claim/cut.py") 476, Value.int 183 0, Value.int 1 0, Value.int 0 0, Value.int 0 0, Value.int 3 0, Value.ref 211, Value.bool true, Value.int 181 0, Value.ref 212, Value.none, Value.ref 213, Value.ref 214, Value.ref 215, Value.int 481 0, Value.int 183 0, Value.str (Str.ofString "/claim/cut.py") 482]) #[]),
  (217, Obj.mk (Value.type "function") none (Data.func (FuncData.mk (Str.ofString "_law_order") (Str.ofString "_law_order") (Arguments.mk [] [Arg.mk (Str.ofString "tokens") none (Pos.mk 183 15 183 21)] none [] [] none []) (FuncBody.stmts (getFn "_law_order").body) (Scope.mk ScopeKind.function (getFn "_law_order").names false false []) 3 [] Value.none Value.none Value.none (Value.str (Str.ofString "law_sx_zquartet_4") 303) none (Value.ref 216) Value.none 0)) #[]),
  (218, Obj.mk (Value.type "tuple") none (Data.seq #[]) #[]),
  (221, Obj.mk (Value.type "code") none (Data.fields #[Value.str (Str.ofString "law") 484, Value.str (Str.ofString "law") 485, Value.str (Str.ofString "/claim/cut.py") 486, Value.int 191 0, Value.int 1 0, Value.int 0 0, Value.int 0 0, Value.int 3 0, Value.ref 218, Value.bool true, Value.int 181 0, Value.ref 219, Value.none, Value.none, Value.none, Value.ref 220, Value.int 487 0, Value.int 191 0, Value.str (Str.ofString "/claim/cut.py") 488]) #[]),
  (222, Obj.mk (Value.type "function") none (Data.func (FuncData.mk (Str.ofString "law") (Str.ofString "law") (Arguments.mk [] [Arg.mk (Str.ofString "script") none (Pos.mk 191 8 191 14)] none [] [] none []) (FuncBody.stmts (getFn "law").body) (Scope.mk ScopeKind.function (getFn "law").names false false [(Str.ofString "fast", Const.str (Str.ofString "script")), (Str.ofString "fast", Const.str (Str.ofString "one")), (Str.ofString "fast", Const.str (Str.ofString "two")), (Str.ofString "fast", Const.str (Str.ofString "inner")), (Str.ofString "fast", Const.str (Str.ofString "group")), (Str.ofString "fast", Const.str (Str.ofString "four")), (Str.ofString "fast", Const.str (Str.ofString "parts")), (Str.ofString "fast", Const.str (Str.ofString "text")), (Str.ofString "fast", Const.str (Str.ofString "joined")), (Str.ofString "fast", Const.str (Str.ofString "post")), (Str.ofString "fast", Const.str (Str.ofString "at")), (Str.ofString "fast", Const.str (Str.ofString "spoiled")), (Str.ofString "fast", Const.str (Str.ofString "due")), (Str.ofString "fast", Const.str (Str.ofString "got")), (Str.ofString "fast", Const.str (Str.ofString "why")), (Str.ofString "fast", Const.str (Str.ofString "t")), (Str.ofString "fast", Const.str (Str.ofString "c")), (Str.ofString "fast", Const.str (Str.ofString "tokens")), (Str.ofString "fast", Const.str (Str.ofString "kept")), (Str.ofString "fast", Const.str (Str.ofString "spot")), (Str.ofString "fast", Const.str (Str.ofString "side")), (Str.ofString "fast", Const.str (Str.ofString "bent")), (Str.ofString "fast", Const.str (Str.ofString "rank")), (Str.ofString "fast", Const.str (Str.ofString "i")), (Str.ofString "fast", Const.str (Str.ofString "spots")), (Str.ofString "fast", Const.str (Str.ofString "sign")), (Str.ofString "fast", Const.str (Str.ofString "want")), (Str.ofString "fast", Const.str (Str.ofString "front")), (Str.ofString "fast", Const.str (Str.ofString "frame"))]) 3 [] Value.none Value.none Value.none (Value.str (Str.ofString "law_sx_zquartet_4") 303) none (Value.ref 221) Value.none 0)) #[])]
noncomputable def addrK : List Addr := [2, 3, 15, 22, 23, 24, 25, 28, 29, 30, 31, 33, 34, 36, 37, 38, 40, 41, 43, 44, 45, 47, 48, 50, 51, 52, 54, 55, 57, 58, 59, 61, 62, 64, 65, 66, 68, 69, 71, 72, 73, 75, 76, 78, 79, 80, 81, 82, 83, 84, 85, 86, 87, 88, 89, 90, 91, 92, 93, 94, 95, 96, 97, 98, 99, 100, 101, 102, 103, 104, 105, 106, 107, 108, 109, 110, 111, 112, 113, 114, 115, 116, 117, 118, 119, 120, 121, 122, 123, 124, 125, 126, 127, 128, 129, 130, 131, 132, 133, 134, 135, 136, 137, 138, 139, 140, 141, 142, 143, 144, 145, 146, 147, 148, 149, 150, 151, 152, 153, 154, 155, 157, 158, 160, 161, 162, 164, 165, 167, 168, 169, 171, 172, 174, 175, 176, 178, 179, 181, 182, 183, 185, 186, 188, 189, 190, 192, 193, 195, 196, 197, 199, 200, 202, 203, 204, 206, 207, 209, 210, 211, 213, 214, 216, 217, 218, 221, 222]
theorem addr_eq (P : Params) : addrK = (heapK P).map (·.1) := by kernel_rfl
noncomputable abbrev hookK : Hook := kHook heapK addrK addr_eq
/-- the text without the two tables that the head leaves loose -/
noncomputable def viewQ : Program := { PySem.Challenge.pw_sx_zquartet_4 with main := { PySem.Challenge.pw_sx_zquartet_4.main with body := PySem.Challenge.pw_sx_zquartet_4.main.body.take 6 ++ (PySem.Challenge.pw_sx_zquartet_4.main.body.drop 7).take 11 ++ PySem.Challenge.pw_sx_zquartet_4.main.body.drop 19 } }
noncomputable abbrev looseQ : List Str := [Str.ofString "POSTFIX_NAMES", Str.ofString "_law_fronts"]
noncomputable abbrev rowQ : RowW := PySem.Challenge.rw_sx_zquartet_4.row.toRowW
theorem said : PySem.Challenge.rw_sx_zquartet_4.wellSaid = true := by kernel_rfl
noncomputable def leftP (w : World) : Prop := (openEnds treeTable PySem.Challenge.pw_sx_zquartet_4 w 2366).map (fun s => (openSeen viewQ looseQ (importedModules PySem.Challenge.pw_sx_zquartet_4.main.body) (fun s => xlAt viewQ [] s && recOk (RowW.records rowQ) s) true s, Hook.obs hookK s)) = some (openGood viewQ looseQ, Hook.val hookK w)
theorem leftF (w : World) : leftP (w.withFollow "special-get-raises" false) := by
  unfold leftP
  kernel_rfl
theorem leftT (w : World) : leftP (w.withFollow "special-get-raises" true) := by
  unfold leftP
  kernel_rfl
theorem leftQ : LeftO PySem.Challenge.pw_sx_zquartet_4 viewQ looseQ (fun s => xlAt viewQ [] s && recOk (RowW.records rowQ) s) (Hook.obs hookK) (Hook.val hookK) 2366 :=
  fun w => byRow2 "special-get-raises" (P := leftP) leftF leftT w
end Mine

-- SxJoin2
namespace Mine
open PySem PyProof.Rows PySem.W

theorem one_of {vs : List Value} (h : vs.length = 1) : ∃ v, vs = [v] := List.length_eq_one_iff.mp h
theorem two_of {vs : List Value} (h : vs.length = 2) : ∃ v w, vs = [v, w] := by
  cases vs with
  | nil => cases h
  | cons v vs =>
    obtain ⟨w, rfl⟩ := one_of (Nat.succ.inj h)
    exact ⟨v, w, rfl⟩
theorem three_of {vs : List Value} (h : vs.length = 3) : ∃ v w u, vs = [v, w, u] := by
  cases vs with
  | nil => cases h
  | cons v vs =>
    obtain ⟨w, u, rfl⟩ := two_of (Nat.succ.inj h)
    exact ⟨v, w, u, rfl⟩

theorem at_is_plain_sign {c : Cx} {P : Params} (X : (heapK P).In c.base) : FnAt c (getFn "is_plain_sign") 37 :=
  fnAt_of (f := "is_plain_sign") (fa := 37) (cd := 36) (q := "is_plain_sign") (ps := (Arguments.mk [] [Arg.mk (Str.ofString "c") none (Pos.mk 9 18 9 19)] none [] [] none [])) (pm := .str "quartet.core" 187) X (by kernel_rfl) (by kernel_rfl) (by kernel_rfl) (by kernel_rfl) (by decide +kernel)
    (fun vs hl => by
      obtain ⟨v, rfl⟩ := one_of (hl.trans (by kernel_rfl))
      kernel_rfl)
theorem mg_is_plain_sign (P : Params) : nsIn (heapK P) mainGlobals "is_plain_sign" = some (some (.ref 37)) := by kernel_rfl

theorem at_tokens_of {c : Cx} {P : Params} (X : (heapK P).In c.base) : FnAt c (getFn "tokens_of") 44 :=
  fnAt_of (f := "tokens_of") (fa := 44) (cd := 43) (q := "tokens_of") (ps := (Arguments.mk [] [Arg.mk (Str.ofString "pattern") none (Pos.mk 11 14 11 21)] none [] [] none [])) (pm := .str "quartet.core" 187) X (by kernel_rfl) (by kernel_rfl) (by kernel_rfl) (by kernel_rfl) (by decide +kernel)
    (fun vs hl => by
      obtain ⟨v, rfl⟩ := one_of (hl.trans (by kernel_rfl))
      kernel_rfl)
theorem mg_tokens_of (P : Params) : nsIn (heapK P) mainGlobals "tokens_of" = some (some (.ref 44)) := by kernel_rfl

theorem at_with_joins {c : Cx} {P : Params} (X : (heapK P).In c.base) : FnAt c (getFn "with_joins") 51 :=
  fnAt_of (f := "with_joins") (fa := 51) (cd := 50) (q := "with_joins") (ps := (Arguments.mk [] [Arg.mk (Str.ofString "tokens") none (Pos.mk 24 15 24 21)] none [] [] none [])) (pm := .str "quartet.core" 187) X (by kernel_rfl) (by kernel_rfl) (by kernel_rfl) (by kernel_rfl) (by decide +kernel)
    (fun vs hl => by
      obtain ⟨v, rfl⟩ := one_of (hl.trans (by kernel_rfl))
      kernel_rfl)
theorem mg_with_joins (P : Params) : nsIn (heapK P) mainGlobals "with_joins" = some (some (.ref 51)) := by kernel_rfl

theorem at_to_postfix {c : Cx} {P : Params} (X : (heapK P).In c.base) : FnAt c (getFn "to_postfix") 58 :=
  fnAt_of (f := "to_postfix") (fa := 58) (cd := 57) (q := "to_postfix") (ps := (Arguments.mk [] [Arg.mk (Str.ofString "tokens") none (Pos.mk 42 15 42 21)] none [] [] none [])) (pm := .str "quartet.core" 187) X (by kernel_rfl) (by kernel_rfl) (by kernel_rfl) (by kernel_rfl) (by decide +kernel)
    (fun vs hl => by
      obtain ⟨v, rfl⟩ := one_of (hl.trans (by kernel_rfl))
      kernel_rfl)
theorem mg_to_postfix (P : Params) : nsIn (heapK P) mainGlobals "to_postfix" = some (some (.ref 58)) := by kernel_rfl

theorem at_operator_name {c : Cx} {P : Params} (X : (heapK P).In c.base) : FnAt c (getFn "operator_name") 65 :=
  fnAt_of (f := "operator_name") (fa := 65) (cd := 64) (q := "operator_name") (ps := (Arguments.mk [] [Arg.mk (Str.ofString "op") none (Pos.mk 78 18 78 20)] none [] [] none [])) (pm := .str "quartet.core" 187) X (by kernel_rfl) (by kernel_rfl) (by kernel_rfl) (by kernel_rfl) (by decide +kernel)
    (fun vs hl => by
      obtain ⟨v, rfl⟩ := one_of (hl.trans (by kernel_rfl))
      kernel_rfl)
theorem mg_operator_name (P : Params) : nsIn (heapK P) mainGlobals "operator_name" = some (some (.ref 65)) := by kernel_rfl

theorem at_postfix_ok {c : Cx} {P : Params} (X : (heapK P).In c.base) : FnAt c (getFn "postfix_ok") 72 :=
  fnAt_of (f := "postfix_ok") (fa := 72) (cd := 71) (q := "postfix_ok") (ps := (Arguments.mk [] [Arg.mk (Str.ofString "post") none (Pos.mk 82 15 82 19)] none [] [] none [])) (pm := .str "quartet.core" 187) X (by kernel_rfl) (by kernel_rfl) (by kernel_rfl) (by kernel_rfl) (by decide +kernel)
    (fun vs hl => by
      obtain ⟨v, rfl⟩ := one_of (hl.trans (by kernel_rfl))
      kernel_rfl)
theorem mg_postfix_ok (P : Params) : nsIn (heapK P) mainGlobals "postfix_ok" = some (some (.ref 72)) := by kernel_rfl

theorem at_compile_pattern {c : Cx} {P : Params} (X : (heapK P).In c.base) : FnAt c (getFn "compile_pattern") 79 :=
  fnAt_of (f := "compile_pattern") (fa := 79) (cd := 78) (q := "compile_pattern") (ps := (Arguments.mk [] [Arg.mk (Str.ofString "pattern") none (Pos.mk 109 20 109 27)] none [] [] none [])) (pm := .str "quartet.core" 187) X (by kernel_rfl) (by kernel_rfl) (by kernel_rfl) (by kernel_rfl) (by decide +kernel)
    (fun vs hl => by
      obtain ⟨v, rfl⟩ := one_of (hl.trans (by kernel_rfl))
      kernel_rfl)
theorem mg_compile_pattern (P : Params) : nsIn (heapK P) mainGlobals "compile_pattern" = some (some (.ref 79)) := by kernel_rfl

theorem at_law_leaf {c : Cx} {P : Params} (X : (heapK P).In c.base) : FnAt c (getFn "_law_leaf") 161 :=
  fnAt_of (f := "_law_leaf") (fa := 161) (cd := 160) (q := "_law_leaf") (ps := (Arguments.mk [] [Arg.mk (Str.ofString "n") none (Pos.mk 116 14 116 15)] none [] [] none [])) (pm := .str "law_sx_zquartet_4" 303) X (by kernel_rfl) (by kernel_rfl) (by kernel_rfl) (by kernel_rfl) (by decide +kernel)
    (fun vs hl => by
      obtain ⟨v, rfl⟩ := one_of (hl.trans (by kernel_rfl))
      kernel_rfl)
theorem mg_law_leaf (P : Params) : nsIn (heapK P) mainGlobals "_law_leaf" = some (some (.ref 161)) := by kernel_rfl

theorem at_law_marked {c : Cx} {P : Params} (X : (heapK P).In c.base) : FnAt c (getFn "_law_marked") 168 :=
  fnAt_of (f := "_law_marked") (fa := 168) (cd := 167) (q := "_law_marked") (ps := (Arguments.mk [] [Arg.mk (Str.ofString "part") none (Pos.mk 121 16 121 20), Arg.mk (Str.ofString "n") none (Pos.mk 121 22 121 23)] none [] [] none [])) (pm := .str "law_sx_zquartet_4" 303) X (by kernel_rfl) (by kernel_rfl) (by kernel_rfl) (by kernel_rfl) (by decide +kernel)
    (fun vs hl => by
      obtain ⟨v, w, rfl⟩ := two_of (hl.trans (by kernel_rfl))
      kernel_rfl)
theorem mg_law_marked (P : Params) : nsIn (heapK P) mainGlobals "_law_marked" = some (some (.ref 168)) := by kernel_rfl

theorem at_law_row {c : Cx} {P : Params} (X : (heapK P).In c.base) : FnAt c (getFn "_law_row") 175 :=
  fnAt_of (f := "_law_row") (fa := 175) (cd := 174) (q := "_law_row") (ps := (Arguments.mk [] [Arg.mk (Str.ofString "parts") none (Pos.mk 126 13 126 18), Arg.mk (Str.ofString "row") none (Pos.mk 126 20 126 23)] none [] [] none [])) (pm := .str "law_sx_zquartet_4" 303) X (by kernel_rfl) (by kernel_rfl) (by kernel_rfl) (by kernel_rfl) (by decide +kernel)
    (fun vs hl => by
      obtain ⟨v, w, rfl⟩ := two_of (hl.trans (by kernel_rfl))
      kernel_rfl)
theorem mg_law_row (P : Params) : nsIn (heapK P) mainGlobals "_law_row" = some (some (.ref 175)) := by kernel_rfl

theorem at_law_alts {c : Cx} {P : Params} (X : (heapK P).In c.base) : FnAt c (getFn "_law_alts") 182 :=
  fnAt_of (f := "_law_alts") (fa := 182) (cd := 181) (q := "_law_alts") (ps := (Arguments.mk [] [Arg.mk (Str.ofString "parts") none (Pos.mk 135 14 135 19), Arg.mk (Str.ofString "shape") none (Pos.mk 135 21 135 26)] none [] [] none [])) (pm := .str "law_sx_zquartet_4" 303) X (by kernel_rfl) (by kernel_rfl) (by kernel_rfl) (by kernel_rfl) (by decide +kernel)
    (fun vs hl => by
      obtain ⟨v, w, rfl⟩ := two_of (hl.trans (by kernel_rfl))
      kernel_rfl)
theorem mg_law_alts (P : Params) : nsIn (heapK P) mainGlobals "_law_alts" = some (some (.ref 182)) := by kernel_rfl

theorem at_law_due {c : Cx} {P : Params} (X : (heapK P).In c.base) : FnAt c (getFn "_law_due") 189 :=
  fnAt_of (f := "_law_due") (fa := 189) (cd := 188) (q := "_law_due") (ps := (Arguments.mk [] [Arg.mk (Str.ofString "text") none (Pos.mk 143 13 143 17)] none [] [] none [])) (pm := .str "law_sx_zquartet_4" 303) X (by kernel_rfl) (by kernel_rfl) (by kernel_rfl) (by kernel_rfl) (by decide +kernel)
    (fun vs hl => by
      obtain ⟨v, rfl⟩ := one_of (hl.trans (by kernel_rfl))
      kernel_rfl)
theorem mg_law_due (P : Params) : nsIn (heapK P) mainGlobals "_law_due" = some (some (.ref 189)) := by kernel_rfl

theorem at_law_lost {c : Cx} {P : Params} (X : (heapK P).In c.base) : FnAt c (getFn "_law_lost") 196 :=
  fnAt_of (f := "_law_lost") (fa := 196) (cd := 195) (q := "_law_lost") (ps := (Arguments.mk [] [Arg.mk (Str.ofString "kind") none (Pos.mk 163 14 163 18), Arg.mk (Str.ofString "side") none (Pos.mk 163 20 163 24)] none [] [] none [])) (pm := .str "law_sx_zquartet_4" 303) X (by kernel_rfl) (by kernel_rfl) (by kernel_rfl) (by kernel_rfl) (by decide +kernel)
    (fun vs hl => by
      obtain ⟨v, w, rfl⟩ := two_of (hl.trans (by kernel_rfl))
      kernel_rfl)
theorem mg_law_lost (P : Params) : nsIn (heapK P) mainGlobals "_law_lost" = some (some (.ref 196)) := by kernel_rfl

theorem at_law_bent {c : Cx} {P : Params} (X : (heapK P).In c.base) : FnAt c (getFn "_law_bent") 203 :=
  fnAt_of (f := "_law_bent") (fa := 203) (cd := 202) (q := "_law_bent") (ps := (Arguments.mk [] [Arg.mk (Str.ofString "items") none (Pos.mk 171 14 171 19), Arg.mk (Str.ofString "spot") none (Pos.mk 171 21 171 25), Arg.mk (Str.ofString "side") none (Pos.mk 171 27 171 31)] none [] [] none [])) (pm := .str "law_sx_zquartet_4" 303) X (by kernel_rfl) (by kernel_rfl) (by kernel_rfl) (by kernel_rfl) (by decide +kernel)
    (fun vs hl => by
      obtain ⟨v, w, u, rfl⟩ := three_of (hl.trans (by kernel_rfl))
      kernel_rfl)
theorem mg_law_bent (P : Params) : nsIn (heapK P) mainGlobals "_law_bent" = some (some (.ref 203)) := by kernel_rfl

theorem at_law_read {c : Cx} {P : Params} (X : (heapK P).In c.base) : FnAt c (getFn "_law_read") 210 :=
  fnAt_of (f := "_law_read") (fa := 210) (cd := 209) (q := "_law_read") (ps := (Arguments.mk [] [Arg.mk (Str.ofString "text") none (Pos.mk 175 14 175 18)] none [] [] none [])) (pm := .str "law_sx_zquartet_4" 303) X (by kernel_rfl) (by kernel_rfl) (by kernel_rfl) (by kernel_rfl) (by decide +kernel)
    (fun vs hl => by
      obtain ⟨v, rfl⟩ := one_of (hl.trans (by kernel_rfl))
      kernel_rfl)
theorem mg_law_read (P : Params) : nsIn (heapK P) mainGlobals "_law_read" = some (some (.ref 210)) := by kernel_rfl

theorem at_law_order {c : Cx} {P : Params} (X : (heapK P).In c.base) : FnAt c (getFn "_law_order") 217 :=
  fnAt_of (f := "_law_order") (fa := 217) (cd := 216) (q := "_law_order") (ps := (Arguments.mk [] [Arg.mk (Str.ofString "tokens") none (Pos.mk 183 15 183 21)] none [] [] none [])) (pm := .str "law_sx_zquartet_4" 303) X (by kernel_rfl) (by kernel_rfl) (by kernel_rfl) (by kernel_rfl) (by decide +kernel)
    (fun vs hl => by
      obtain ⟨v, rfl⟩ := one_of (hl.trans (by kernel_rfl))
      kernel_rfl)
theorem mg_law_order (P : Params) : nsIn (heapK P) mainGlobals "_law_order" = some (some (.ref 217)) := by kernel_rfl


theorem globs (P : Params) : (gNames.all (globIn (heapK P) theBody)) = true := by kernel_rfl
end Mine

-- SxJoin3
namespace Mine
open PySem PyProof.Rows PySem.W

noncomputable def theSD (a : Addr) (kvs : List (Str × Str)) : Prop := a = 30 ∧ kvs = postKvs
noncomputable abbrev theCx (w : World) (h : Heap) (mg mb : Str → Option Value) : Cx := ⟨PySem.Challenge.rw_sx_zquartet_4.row.prog, w, h, theSD, mg, mb⟩

noncomputable def postEs (P : Params) : Array DictEntry := #[⟨PyData.keyHash P "*", .str "*" 226, .str "star" 227⟩, ⟨PyData.keyHash P "+", .str "+" 228, .str "plus" 229⟩, ⟨PyData.keyHash P "?", .str "?" 230, .str "opt" 231⟩]
theorem post_at (P : Params) : (heapK P).lookup 30 = some ⟨.type "dict", none, .dict (postEs P) 3, #[]⟩ := by kernel_rfl
theorem post_find (P : Params) (x : Str) : findBy Value.isStrOf (postEs P) x = if ("*" : Str) = x then some (.str "star" 227) else if ("+" : Str) = x then some (.str "plus" 229) else if ("?" : Str) = x then some (.str "opt" 231) else none := by
  unfold findBy postEs
  rw [← Array.find?_toList]
  simp only [List.find?_cons, List.find?_nil, Value.isStrOf]
  by_cases h1 : ("*" : Str) = x
  · rw [if_pos h1, beq_iff_eq.mpr h1]; rfl
  · rw [if_neg h1, beq_eq_false_iff_ne.mpr h1]
    by_cases h2 : ("+" : Str) = x
    · rw [if_pos h2, beq_iff_eq.mpr h2]; rfl
    · rw [if_neg h2, beq_eq_false_iff_ne.mpr h2]
      by_cases h3 : ("?" : Str) = x
      · rw [if_pos h3, beq_iff_eq.mpr h3]; rfl
      · rw [if_neg h3, beq_eq_false_iff_ne.mpr h3]; rfl

section
variable {w : World} {h : Heap} {mg mb : Str → Option Value} {p : Program} {loose : List Str} {mean : ExcName → Option Value}

theorem post_map (X : (heapK w.params).In h) (prog : Program) : h.MapOf (strKind prog w) 30 (fun x => findBy Value.isStrOf (postEs w.params) x) := by
  refine ⟨_, _, _, X _ _ (post_at _), ⟨rfl, rfl, rfl⟩, rfl, fun e he => ?_, fun k => rfl⟩
  simp only [postEs, Array.mem_def, List.mem_cons, List.not_mem_nil, or_false] at he
  rcases he with rfl | rfl | rfl
  · exact ⟨"*", strKind_is _ _ _ _, rfl⟩
  · exact ⟨"+", strKind_is _ _ _ _, rfl⟩
  · exact ⟨"?", strKind_is _ _ _ _, rfl⟩

theorem b_of (X : (heapK w.params).In h) (T : Top p loose mean mg mb h) {x : Str} {v : Value} (e : nsIn (heapK w.params) mainGlobals x = some none) (hn : x ≠ "__name__") (hv : bootBuiltins x = some v) : mg x = none ∧ mb x = some v :=
  ⟨mg_none_of X T.g e, (T.builtins x hn).trans hv⟩

theorem fn_at {f : Str} {c : Cx} (X : (heapK w.params).In c.base) (G : c.base.Ns mainGlobals c.mg) (hf : fnNames.contains f = true) : ∃ fa, c.mg f = some (.ref fa) ∧ FnAt c (getFn f) fa := by
  have hm : f ∈ fnNames := List.contains_iff_mem.mp hf
  simp only [fnNames, List.mem_cons, List.not_mem_nil, or_false] at hm
  rcases hm with rfl | rfl | rfl | rfl | rfl | rfl | rfl | rfl | rfl | rfl | rfl | rfl | rfl | rfl | rfl | rfl
  · exact ⟨_, mg_of X G (mg_is_plain_sign _), at_is_plain_sign X⟩
  · exact ⟨_, mg_of X G (mg_tokens_of _), at_tokens_of X⟩
  · exact ⟨_, mg_of X G (mg_with_joins _), at_with_joins X⟩
  · exact ⟨_, mg_of X G (mg_to_postfix _), at_to_postfix X⟩
  · exact ⟨_, mg_of X G (mg_operator_name _), at_operator_name X⟩
  · exact ⟨_, mg_of X G (mg_postfix_ok _), at_postfix_ok X⟩
  · exact ⟨_, mg_of X G (mg_compile_pattern _), at_compile_pattern X⟩
  · exact ⟨_, mg_of X G (mg_law_leaf _), at_law_leaf X⟩
  · exact ⟨_, mg_of X G (mg_law_marked _), at_law_marked X⟩
  · exact ⟨_, mg_of X G (mg_law_row _), at_law_row X⟩
  · exact ⟨_, mg_of X G (mg_law_alts _), at_law_alts X⟩
  · exact ⟨_, mg_of X G (mg_law_due _), at_law_due X⟩
  · exact ⟨_, mg_of X G (mg_law_lost _), at_law_lost X⟩
  · exact ⟨_, mg_of X G (mg_law_bent _), at_law_bent X⟩
  · exact ⟨_, mg_of X G (mg_law_read _), at_law_read X⟩
  · exact ⟨_, mg_of X G (mg_law_order _), at_law_order X⟩

theorem amb_of (X : (heapK w.params).In h) (T : Top p loose mean mg mb h) : Amb (theCx w h mg mb) (glob theBody) where
  ns := T.g
  nb := T.b
  glob := fun x d hx => glob_of (c := theCx w h mg mb) X T.g ⟨rfl, rfl⟩ (globs _) x d hx
  fn := fun g hg => by
    obtain ⟨fa, e, o, fd, ho, hd, _⟩ := fn_at (c := theCx w h mg mb) X T.g hg
    exact ⟨fa, o, fd, e, ho, hd⟩
  b_len := b_of X T (by kernel_rfl) (by decide +kernel) Boot.«len»
  b_str := b_of X T (by kernel_rfl) (by decide +kernel) Boot.«str»
  b_list := b_of X T (by kernel_rfl) (by decide +kernel) Boot.«list»
  b_isinstance := b_of X T (by kernel_rfl) (by decide +kernel) Boot.«isinstance»
  b_type := b_of X T (by kernel_rfl) (by decide +kernel) Boot.«type»
  b_range := b_of X T (by kernel_rfl) (by decide +kernel) Boot.«range»
  b_tuple := b_of X T (by kernel_rfl) (by decide +kernel) Boot.«tuple»
  b_bool := b_of X T (by kernel_rfl) (by decide +kernel) Boot.«bool»
  sdIn := fun a kvs x t A s Q E hsd hs hq => by
    obtain ⟨rfl, rfl⟩ := hsd
    refine wpAny_in_of (strKind_is _ _ x t) (by decide +kernel) (post_map (X.keeps hs) _) ?_
    have e : (findBy Value.isStrOf (postEs w.params) x).isSome = postKvs.any (fun p => p.1 == x) := by
      rw [post_find]
      simp only [postKvs, List.any_cons, List.any_nil, Bool.or_false]
      repeat' split
      all_goals simp_all
    rw [e]
    exact hq _
  sdGet := fun a kvs x y t A s Q E hsd hs hl hq => by
    obtain ⟨rfl, rfl⟩ := hsd
    have e : ∃ u, findBy Value.isStrOf (postEs w.params) x = some (.str y u) := by
      rw [post_find]
      simp only [postKvs, List.lookup_cons, List.lookup_nil] at hl
      split at hl
      · rename_i q; cases hl; exact ⟨_, if_pos (beq_iff_eq.mp q).symm⟩
      · rename_i q1
        split at hl
        · rename_i q; cases hl
          refine ⟨_, (if_neg fun z => ?_).trans (if_pos (beq_iff_eq.mp q).symm)⟩
          rw [← z] at q1; simp at q1
        · rename_i q2
          split at hl
          · rename_i q; cases hl
            refine ⟨_, (if_neg fun z => ?_).trans ((if_neg fun z => ?_).trans (if_pos (beq_iff_eq.mp q).symm))⟩
            · rw [← z] at q1; simp at q1
            · rw [← z] at q2; simp at q2
          · cases hl
    obtain ⟨u, e⟩ := e
    exact wpAny_getItem_of (strKind_is _ _ x t) (post_map (X.keeps hs) _) e (hq _ _)
  sdType := fun a kvs s hsd hs => by
    obtain ⟨rfl, rfl⟩ := hsd
    exact ⟨_, hs _ _ (X _ _ (post_at _)), rfl⟩

theorem exc_of (X : (heapK w.params).In h) (T : Top p loose mean mg mb h) (hs : specOf p "PatternError" = some ("Exception.__new__", [.type "Exception", .type "BaseException", .type "object"])) : Exc (theCx w h mg mb) 24 where
  own := by
    obtain ⟨C, O, _⟩ := T.ownAt hs
    have e := mg_of X T.g (show nsIn (heapK w.params) mainGlobals "PatternError" = some (some (.ref 24)) by kernel_rfl)
    have e2 := O.bound.symm.trans e
    injection e2 with e2
    injection e2 with e2
    subst e2
    exact ⟨_, _, _, _, O, F.excBase_Exception⟩
  str := fun A s e t m u Q E hu hb ⟨o, vs, ho, hc, hdd, h0⟩ ht hq =>
    str_own (show A.units + 1 + 1 < cLine by (first | lia | omega)) (X.keeps hb) (C := 24) (by kernel_rfl) F.excStr_TypeError.str.bind (by kernel_rfl) ho hc hdd h0 ht hq

theorem fns_of (X : (heapK w.params).In h) (T : Top p loose mean mg mb h) : FnsAt (theCx w h mg mb) theBody where
  fns := fun f fn fa hf hfn hm => by
    obtain ⟨fa', e, x⟩ := fn_at (c := theCx w h mg mb) X T.g hf
    have e2 := hm.symm.trans e
    injection e2 with e2
    injection e2 with e2
    subst e2
    rw [getFn_of hfn]
    exact x
  nolimit := T.nolimit

noncomputable def moreOf? (n : Str) : Stmt → Option (List (Str × Const))
  | .FunctionDef m _ _ _ _ _ sc _ _ _ => if m = n then some sc.more else none
  | _ => none
noncomputable def getMore (f : Str) : List (Str × Const) := match theBody.findSome? (moreOf? f) with
  | some l => l
  | none => []

theorem law_of (X : (heapK w.params).In h) : LawAt (theCx w h mg mb) (getFn "law") 222 "script" "post" := by
  have e : (heapK w.params).lookup 222 = some ⟨.type "function", none, .func (fnOf "law" "law" (Arguments.mk [] [Arg.mk (Str.ofString "script") none (Pos.mk 191 8 191 14)] none [] [] none []) (getFn "law").body ⟨.function, (getFn "law").names, false, false, getMore "law"⟩ .none .none .none (.str "law_sx_zquartet_4" 303) none (.ref 221) .none), #[]⟩ := by kernel_rfl
  refine ⟨_, _, X _ _ e, rfl, rfl, rfl, rfl, rfl, rfl, rfl, rfl, rfl, codeRec_of X (by kernel_rfl), by kernel_rfl, by kernel_rfl, fun L => by kernel_rfl, fun x hx => ?_, fun v => by kernel_rfl⟩
  have hall : ((getFn "law").names.all fun q => q.2 != .cell || q.1 == ("post" : Str)) = true := by kernel_rfl
  have := List.all_eq_true.mp hall _ (lookup_mem hx)
  simpa using this
end
end Mine

-- SxFin0
namespace Mine
open PySem PyProof.Rows PySem.W
noncomputable def lawD : DefRec := ⟨Str.ofString "law", (Arguments.mk [] [Arg.mk (Str.ofString "script") none (Pos.mk 191 8 191 14)] none [] [] none []), (getFn "law").body, (Scope.mk ScopeKind.function (getFn "law").names false false [(Str.ofString "fast", Const.str (Str.ofString "script")), (Str.ofString "fast", Const.str (Str.ofString "one")), (Str.ofString "fast", Const.str (Str.ofString "two")), (Str.ofString "fast", Const.str (Str.ofString "inner")), (Str.ofString "fast", Const.str (Str.ofString "group")), (Str.ofString "fast", Const.str (Str.ofString "four")), (Str.ofString "fast", Const.str (Str.ofString "parts")), (Str.ofString "fast", Const.str (Str.ofString "text")), (Str.ofString "fast", Const.str (Str.ofString "joined")), (Str.ofString "fast", Const.str (Str.ofString "post")), (Str.ofString "fast", Const.str (Str.ofString "at")), (Str.ofString "fast", Const.str (Str.ofString "spoiled")), (Str.ofString "fast", Const.str (Str.ofString "due")), (Str.ofString "fast", Const.str (Str.ofString "got")), (Str.ofString "fast", Const.str (Str.ofString "why")), (Str.ofString "fast", Const.str (Str.ofString "t")), (Str.ofString "fast", Const.str (Str.ofString "c")), (Str.ofString "fast", Const.str (Str.ofString "tokens")), (Str.ofString "fast", Const.str (Str.ofString "kept")), (Str.ofString "fast", Const.str (Str.ofString "spot")), (Str.ofString "fast", Const.str (Str.ofString "side")), (Str.ofString "fast", Const.str (Str.ofString "bent")), (Str.ofString "fast", Const.str (Str.ofString "rank")), (Str.ofString "fast", Const.str (Str.ofString "i")), (Str.ofString "fast", Const.str (Str.ofString "spots")), (Str.ofString "fast", Const.str (Str.ofString "sign")), (Str.ofString "fast", Const.str (Str.ofString "want")), (Str.ofString "fast", Const.str (Str.ofString "front")), (Str.ofString "fast", Const.str (Str.ofString "frame"))]), Pos.mk 191 0 248 15⟩
theorem law_def : defOf viewQ PySem.Challenge.rw_sx_zquartet_4.row.name = some (lawD, []) := by kernel_rfl
theorem law_the : PySem.Challenge.rw_sx_zquartet_4.row.prog.theDef PySem.Challenge.rw_sx_zquartet_4.row.name = some (lawD.params, lawD.body, lawD.scope) := by kernel_rfl
theorem law_kw : kwWritten? lawD.params.kwonlyargs lawD.params.kw_defaults = some [] := by kernel_rfl
theorem law_wr : (!PySem.Challenge.rw_sx_zquartet_4.row.writes || PySem.Challenge.rw_sx_zquartet_4.row.records.isEmpty) = true := by kernel_rfl
theorem law_ok : (chainsOk viewQ && opensWell PySem.Challenge.rw_sx_zquartet_4.row.prog && (frees PySem.Challenge.rw_sx_zquartet_4.row.toRowW && PySem.Challenge.rw_sx_zquartet_4.row.within.isEmpty)) = true := by kernel_rfl
theorem law_bare : PySem.Challenge.rw_sx_zquartet_4.row.prog.bare := ⟨rfl, rfl, rfl, rfl, rfl, by decide +kernel⟩
theorem law_prom : PySem.Challenge.rw_sx_zquartet_4.row.toRowW.promised := by
  w_witness2
theorem mg_law (P : Params) : nsIn (heapK P) mainGlobals (Str.ofString "law") = some (some (.ref 222)) := by kernel_rfl
theorem law_name : lawD.name = Str.ofString "law" := rfl
theorem law_at {mg : Str → Option Value} {fa : Addr} (h1 : mg lawD.name = some (.ref fa)) (h2 : mg (Str.ofString "law") = some (.ref 222)) : fa = 222 := by
  rw [law_name, h2] at h1
  injection h1 with h1
  injection h1 with h1
  exact h1.symm
end Mine

-- SxFin
namespace Mine
open PySem PyProof.Rows PySem.W

/-- the law's own claim about the evaluator -/
noncomputable def PlainLaw : Prop := ∀ ns : List Int, ns.length ≤ 63 → ∃ ρ', pxs (glob theBody) (pcall theBody (glob theBody) 6) [] fuel (getFn "law").names (bindsOf (getFn "law").params [.list (ns.map .int)]) (getFn "law").body = some (.ok (.ret (.val (.bool true)), ρ'))

theorem rep_ints {P : Params} {c : Cx} : ∀ {ns : List Int} {vs : List Value}, WellAll P c.base vs (ofPys (ns.map PyData.int)) → Reps c [] c.base vs (ns.map .int)
  | [], _, h => by cases h; exact .nil
  | n :: ns, _, h => by
    cases h with
    | cons h1 h2 =>
      cases h1
      exact .cons (.int _ _) (rep_ints h2)
theorem rep_list {P : Params} {c : Cx} {ns : List Int} {v : Value} (h : Well P c.base v (ofPy (.list (ns.map PyData.int)))) : Rep c [] c.base v (.list (ns.map .int)) := by
  cases h with
  | list h1 h2 => exact .list (fun q => nomatch q) h1 (rep_ints h2)

set_option maxHeartbeats 8000000 in
theorem holds_of (PL : PlainLaw) : PySem.Challenge.rw_sx_zquartet_4.Holds := by
  refine holds_law said fun sd => ?_
  refine holds_open (q := viewQ) (loose := looseQ) (Xt := fun s => xlAt viewQ [] s && recOk (RowW.records rowQ) s) (XP := XL viewQ []) (Yf := Hook.obs hookK) (Ya := Hook.val hookK) (YP := Hook.says hookK) (d := lawD) (kwd := []) (N := 2366) leftQ (Hook.of hookK) (Hook.keeps hookK)
    (fun s e => xl_of s (Bool.and_eq_true_iff.mp e).1) XL.keeps law_def law_the law_kw (fun s e => recFacts_of (Bool.and_eq_true_iff.mp e).2) law_wr sd law_ok law_bare law_prom ?_
  intro w s₀ s₁ mg mb G Y fa o pm cd doc dV kV ho hd1 hcd hD hmg hg args vals as hpre hlay hrd hwl hlo
  have KX := kIn_of Y
  clear Y
  refine Ground.open G ?_
  intro T B D TE TW
  have hfa : fa = 222 := law_at hmg (mg_of KX T.g (mg_law w.params))
  subst hfa
  clear hd1 hcd hD hmg ho
  wrow_args hpre hlay hrd hwl hlo
  rename_i ns _ _ _ _ _ _ _ a vs _ _ _ wl _ _ _ hlen _
  obtain ⟨ρ', hPL⟩ := PL ns (by omega)
  have hspec : specOf viewQ "PatternError" = some ("Exception.__new__", [.type "Exception", .type "BaseException", .type "object"]) := by kernel_rfl
  refine law_sound (c := theCx w s₁.heap mg mb) (p := "script") (p0 := "post") (k := 6) (amb_of KX T) (exc_of KX T hspec) (fns_of KX T) (law_of KX) rfl (by decide) (rep_list wl) hPL fun v h' tk hk hv => ?_
  cases hv
  exact GoodW.toG ⟨.inl ⟨.bool true, .bool true, [], rfl, fun cls => by kernel_rfl, .bool true, by kernel_rfl, fun hu => ⟨List.nodup_nil, fun a ha => nomatch ha⟩⟩, hk, rfl, hg⟩
end Mine

-- SxP1
namespace Mine
open PySem PyProof.Rows

noncomputable abbrev GG : Str → Option PV := glob theBody
noncomputable abbrev CC (k : Nat) : Calls := pcall theBody GG k

theorem upd_self {ρ : Loc} {x : Str} {s : Slot} (h : ρ x = some s) : upd ρ x s = ρ := by
  funext y
  unfold upd
  split
  · rename_i q; rw [q, h]
  · rfl
theorem upd_same (ρ : Loc) (x : Str) (s : Slot) : upd ρ x s x = some s := if_pos rfl
theorem upd_other {ρ : Loc} {x y : Str} {s : Slot} (h : y ≠ x) : upd ρ x s y = ρ y := if_neg h

noncomputable def sAt (f : Str) (j : Nat) : Stmt := ((getFn f).body)[j]?.getD (.Pass ⟨0, 0, 0, 0⟩)
noncomputable def partsOf : Stmt → List Expr × List Stmt × List Stmt
  | .For _ e b _ _ => ([e], b, [])
  | .If t a b _ => ([t], a, b)
  | .Assign _ e _ => ([e], [], [])
  | _ => ([], [], [])
noncomputable def inOf (s : Stmt) : List Stmt := (partsOf s).2.1
noncomputable def itOf (s : Stmt) : Expr := (partsOf s).1[0]?.getD (.Constant .none 0 ⟨0, 0, 0, 0⟩)
noncomputable def nm (f : Str) : Names := (getFn f).names

theorem pxs_nil {G : Str → Option PV} {call : Calls} {ow : List Str} {n : Nat} {sc : Names} {ρ : Loc} : pxs G call ow (n + 1) sc ρ [] = ok (.next, ρ) := rfl
theorem pxs_cons {G : Str → Option PV} {call : Calls} {ow : List Str} {n : Nat} {sc : Names} {ρ : Loc} {st : Stmt} {r : List Stmt} : pxs G call ow (n + 1) sc ρ (st :: r) = bd (px G call ow n sc ρ st) fun q => match q.1 with
      | .next => pxs G call ow n sc q.2 r
      | f => ok (f, q.2) := rfl
theorem pxs_next {G : Str → Option PV} {call : Calls} {ow : List Str} {n : Nat} {sc : Names} {ρ ρ' : Loc} {st : Stmt} {r : List Stmt} (h : px G call ow n sc ρ st = ok (.next, ρ')) : pxs G call ow (n + 1) sc ρ (st :: r) = pxs G call ow n sc ρ' r := by
  rw [pxs_cons, h]; rfl
theorem pxs_ret {G : Str → Option PV} {call : Calls} {ow : List Str} {n : Nat} {sc : Names} {ρ ρ' : Loc} {st : Stmt} {r : List Stmt} {v : RV} (h : px G call ow n sc ρ st = ok (.ret v, ρ')) : pxs G call ow (n + 1) sc ρ (st :: r) = ok (.ret v, ρ') := by
  rw [pxs_cons, h]; rfl
theorem pxs_brk {G : Str → Option PV} {call : Calls} {ow : List Str} {n : Nat} {sc : Names} {ρ ρ' : Loc} {st : Stmt} {r : List Stmt} (h : px G call ow n sc ρ st = ok (.brk, ρ')) : pxs G call ow (n + 1) sc ρ (st :: r) = ok (.brk, ρ') := by
  rw [pxs_cons, h]; rfl
theorem pxs_err {G : Str → Option PV} {call : Calls} {ow : List Str} {n : Nat} {sc : Names} {ρ : Loc} {st : Stmt} {r : List Stmt} {m : Str} (h : px G call ow n sc ρ st = some (.error m)) : pxs G call ow (n + 1) sc ρ (st :: r) = some (.error m) := by
  rw [pxs_cons, h]; rfl

/-- what a call gives -/
noncomputable def resOf : Except Str (Fl × Loc) → M PV
  | .error m => some (.error m)
  | .ok q => match q.1 with
    | .ret r => ok (retOf r)
    | _ => none
theorem pcall_eq {k : Nat} {f : Str} {args : List PV} {r : Except Str (Fl × Loc)} (hl : (getFn f).params.length = args.length) (hf : theBody.findSome? (fnOf? f) = some (getFn f))
    (h : pxs GG (CC k) (owned f) fuel (nm f) (bindsOf (getFn f).params args) (getFn f).body = some r) : pcall theBody GG (k + 1) f args = resOf r := by
  show (match theBody.findSome? (fnOf? f) with
    | some fn => if fn.params.length = args.length then
        bd (pxs GG (pcall theBody GG k) (owned f) fuel fn.names (bindsOf fn.params args) fn.body) fun q => match q.1 with
          | .ret r => ok (retOf r)
          | _ => none
      else none
    | none => none) = _
  rw [hf]
  dsimp only
  rw [if_pos hl]
  have h : pxs GG (pcall theBody GG k) (owned f) fuel (getFn f).names (bindsOf (getFn f).params args) (getFn f).body = some r := h
  rw [h]
  cases r <;> rfl

/-- the signs that may stand for themselves -/
noncomputable def plainS : Str := "abcdefghijklmnopqrstuvwxyz0123456789"

end Mine

-- SxP2
namespace Mine
open PySem PyProof.Rows

theorem ofString_inj {a b : String} : (Str.ofString a = Str.ofString b) ↔ a = b := by
  constructor
  · intro h
    have h1 : (cpsOfBytes 0 0 a.toByteArray.data.toList) = (cpsOfBytes 0 0 b.toByteArray.data.toList) := by
      have := congrArg (fun s : Str => s.cps.toList) h
      simpa [Str.ofString] using this
    rw [cpsOfBytes_string, cpsOfBytes_string] at h1
    have h2 : a.toList = b.toList := (List.map_inj_right (fun x y e => Char.toNat_inj.mp e)).mp h1
    exact String.toList_injective h2
  · rintro rfl; rfl

noncomputable def fnI (i : Nat) : Fn := match theBody[i]? with
  | some (.FunctionDef _ a b _ _ _ sc _ _ _) => ⟨a.args.map (·.arg), b, sc.names⟩
  | _ => ⟨[], [], []⟩
noncomputable def stI (i j : Nat) : Stmt := ((fnI i).body)[j]?.getD (.Pass ⟨0, 0, 0, 0⟩)
noncomputable def nmI (i : Nat) : Names := (fnI i).names
/-- the j-th statement of a loop's body -/
noncomputable def inI (s : Stmt) (j : Nat) : Stmt := (inOf s)[j]?.getD (.Pass ⟨0, 0, 0, 0⟩)

section
variable {α β : Type} {G : Str → Option PV} {call : Calls} {ow : List Str} {n : Nat} {sc : Names} {ρ : Loc} {x : Str} {p p1 p2 p3 : Pos} {e e1 e2 e3 : Expr}
theorem bd_ok {a : α} {f : α → M β} : bd (ok a) f = f a := rfl
theorem bd_some {a : α} {f : α → M β} : bd (some (.ok a)) f = f a := rfl
theorem bd_err {m : Str} {f : α → M β} : bd (some (.error m)) f = some (.error m) := rfl
theorem bs_ok {a : α} {f : α → M β} : bs (ok a) f = f a := rfl
theorem bs_some {a : α} {f : α → M β} : bs (some (.ok a)) f = f a := rfl
theorem vd_val {d : PV} {f : PV → M β} : vd (.val d) f = f d := rfl
theorem ofOpt_some {a : α} : ofOpt (some a) = ok a := rfl
theorem c_none {k : Nat} : pe G (n + 1) call sc ρ (.Constant .none k p) = ok (.val .none) := rfl
theorem c_bool {k : Nat} {b : Bool} : pe G (n + 1) call sc ρ (.Constant (.bool b) k p) = ok (.val (.bool b)) := rfl
theorem c_int {k : Nat} {i : Int} : pe G (n + 1) call sc ρ (.Constant (.int i) k p) = ok (.val (.int i)) := rfl
theorem c_str {k : Nat} {y : Str} : pe G (n + 1) call sc ρ (.Constant (.str y) k p) = ok (.val (.str y)) := rfl
theorem c_neg {k : Nat} {i : Int} : pe G (n + 1) call sc ρ (.UnaryOp .USub (.Constant (.int i) k p) p1) = ok (.val (.int (-i))) := rfl
theorem e_name : pe G (n + 1) call sc ρ (.Name x p) = if oddName x then none else if bound (sc.lookup x) then (match ρ x with
        | some (.val d) => ok (.val d)
        | some (.own ds) => ok (.own x ds)
        | none => none)
      else if sc.lookup x = some .globalImplicit then (match G x with
        | some d => ok (.val d)
        | none => none)
      else none := rfl
theorem e_bin {op : Operator} : pe G (n + 1) call sc ρ (.BinOp e1 op e2 p) = bd (pe G n call sc ρ e1) fun x => vd x fun x => bd (pe G n call sc ρ e2) fun y => vd y fun y => bd (ofOpt (pbin op x y)) fun d => ok (.val d) := rfl
theorem e_cmp {op : CmpOp} : pe G (n + 1) call sc ρ (.Compare e1 [op] [e2] p) = bd (ptest G n call sc ρ e1 op e2) fun b => ok (.val (.bool b)) := rfl
theorem e_and : pe G (n + 1) call sc ρ (.BoolOp .And [e1, e2] p) = bd (pe G n call sc ρ e1) fun r => match r with
      | .val (.bool x) => if x then pe G n call sc ρ e2 else ok (.val (.bool false))
      | _ => none := rfl
theorem e_call {args : List Expr} (h : sc.lookup x = some .globalImplicit) : pe G (n + 1) call sc ρ (.Call (.Name x p) args [] p1) = pfun G n call sc ρ x args := by
  exact if_pos h
theorem e_tup {es : List Expr} {k : Nat} : pe G (n + 1) call sc ρ (.Tuple es k p) = bd (evs (pe G n call sc ρ) es) fun rs => bd (ofOpt (vals rs)) fun ds => if ds.length ≤ lim then ok (.val (.tup ds)) else none := rfl
theorem e_list {es : List Expr} : pe G (n + 1) call sc ρ (.List es p) = bd (evs (pe G n call sc ρ) es) fun rs => bd (ofOpt (vals rs)) fun ds => if ds.length ≤ lim then ok (.val (.list ds)) else none := rfl
theorem e_from : pe G (n + 1) call sc ρ (.Subscript e (.Slice (some e1) none none p) p1) = bd (pe G n call sc ρ e) fun a => vd a fun a => bd (pe G n call sc ρ e1) fun i => vd i fun i => bd (ofOpt (pslice a (some i) none)) fun d => ok (.val d) := rfl
theorem e_to : pe G (n + 1) call sc ρ (.Subscript e (.Slice none (some e1) none p) p1) = bd (pe G n call sc ρ e) fun a => vd a fun a => bd (pe G n call sc ρ e1) fun i => vd i fun i => bd (ofOpt (pslice a none (some i))) fun d => ok (.val d) := rfl
theorem s_name : pe G (n + 1) call sc ρ (.Subscript e (.Name x p) p1) = bd (pe G n call sc ρ e) fun a => bd (pe G n call sc ρ (.Name x p)) fun i => vd i fun i => bd (ofOpt (psub a i)) fun d => ok (.val d) := rfl
theorem s_const {c : Const} {k : Nat} : pe G (n + 1) call sc ρ (.Subscript e (.Constant c k p) p1) = bd (pe G n call sc ρ e) fun a => bd (pe G n call sc ρ (.Constant c k p)) fun i => vd i fun i => bd (ofOpt (psub a i)) fun d => ok (.val d) := rfl
theorem s_bin {op : Operator} : pe G (n + 1) call sc ρ (.Subscript e (.BinOp e1 op e2 p) p1) = bd (pe G n call sc ρ e) fun a => bd (pe G n call sc ρ (.BinOp e1 op e2 p)) fun i => vd i fun i => bd (ofOpt (psub a i)) fun d => ok (.val d) := rfl
theorem s_sub : pe G (n + 1) call sc ρ (.Subscript e (.Subscript e1 e2 p) p1) = bd (pe G n call sc ρ e) fun a => bd (pe G n call sc ρ (.Subscript e1 e2 p)) fun i => vd i fun i => bd (ofOpt (psub a i)) fun d => ok (.val d) := rfl
theorem s_neg {op : UnaryOp} : pe G (n + 1) call sc ρ (.Subscript e (.UnaryOp op e1 p) p1) = bd (pe G n call sc ρ e) fun a => bd (pe G n call sc ρ (.UnaryOp op e1 p)) fun i => vd i fun i => bd (ofOpt (psub a i)) fun d => ok (.val d) := rfl
theorem evs_nil {f : Expr → M α} : evs f [] = ok [] := rfl
theorem evs_cons {f : Expr → M α} {es : List Expr} : evs f (e :: es) = bd (f e) fun a => bd (evs f es) fun as => ok (a :: as) := rfl
theorem vals_nil : vals [] = some [] := rfl
theorem vals_cons {d : PV} {r : List RV} : vals (.val d :: r) = match vals r with
    | some ds => some (d :: ds)
    | none => none := rfl
theorem f_fmt : pfmt G (n + 1) call sc ρ (.FormattedValue e (-1) none p) = bs (pe G n call sc ρ e) fun r => match r with
      | .val (.str x) => if x.length ≤ lim then ok x else none
      | .val (.int i) => if smallInt i then ok (Str.ofString (toString i)) else none
      | _ => none := rfl
theorem f_str {k : Nat} {y : Str} : pfmt G (n + 1) call sc ρ (.Constant (.str y) k p) = ok y := rfl
theorem e_fstr {ps : List Expr} : pe G (n + 1) call sc ρ (.JoinedStr (e1 :: e2 :: ps) p) = bd (evs (pfmt G n call sc ρ) (e1 :: e2 :: ps)) fun xs => if (catS xs).length ≤ lim then ok (.val (.str (catS xs))) else none := rfl
theorem fn_len : pfun G (n + 1) call sc ρ (Str.ofString "len") [e] = bd (pe G n call sc ρ e) fun r => bd (ofOpt (plen r)) fun d => ok (.val d) := by
  unfold pfun; rw [if_pos rfl]
theorem fn_str : pfun G (n + 1) call sc ρ (Str.ofString "str") [e] = bd (pe G n call sc ρ e) fun r => match r with
        | .val (.int i) => if smallInt i then ok (.val (.str (Str.ofString (toString i)))) else none
        | _ => none := by
  unfold pfun; rw [if_neg (by decide +kernel), if_pos rfl]; all_goals rfl
theorem fn_list : pfun G (n + 1) call sc ρ (Str.ofString "list") [e] = bd (pe G n call sc ρ e) fun r => match r with
        | .val (.list ds) => if ds.length ≤ lim then ok (.val (.list ds)) else none
        | _ => none := by
  unfold pfun; rw [if_neg (by decide +kernel), if_neg (by decide +kernel), if_pos rfl]; all_goals rfl
theorem fn_isi (h : sc.lookup x = some .globalImplicit) : pfun G (n + 1) call sc ρ (Str.ofString "isinstance") [e, .Name x p] = bd (pe G n call sc ρ e) fun r => vd r fun d => bd (ofOpt (pisi d x)) fun b => ok (.val (.bool b)) := by
  unfold pfun; rw [if_neg (by decide +kernel), if_neg (by decide +kernel), if_neg (by decide +kernel), if_pos rfl]; exact if_pos h
theorem fn_own {g : Str} {args : List Expr} (h1 : g ≠ "len") (h2 : g ≠ "str") (h3 : g ≠ "list") (h4 : g ≠ "isinstance") (h5 : fnNames.contains g = true) : pfun G (n + 1) call sc ρ g (e :: args) = bd (evs (pe G n call sc ρ) (e :: args)) fun rs => callOn call g rs := by
  exact (if_neg h1).trans ((if_neg h2).trans ((if_neg h3).trans ((if_neg h4).trans (if_pos h5))))
theorem fo0 {args : List Expr} : pfun G (n + 1) call sc ρ (Str.ofString "is_plain_sign") (e :: args) = bd (evs (pe G n call sc ρ) (e :: args)) fun rs => callOn call (Str.ofString "is_plain_sign") rs := fn_own (by decide +kernel) (by decide +kernel) (by decide +kernel) (by decide +kernel) (by decide +kernel)
theorem fo1 {args : List Expr} : pfun G (n + 1) call sc ρ (Str.ofString "tokens_of") (e :: args) = bd (evs (pe G n call sc ρ) (e :: args)) fun rs => callOn call (Str.ofString "tokens_of") rs := fn_own (by decide +kernel) (by decide +kernel) (by decide +kernel) (by decide +kernel) (by decide +kernel)
theorem fo2 {args : List Expr} : pfun G (n + 1) call sc ρ (Str.ofString "with_joins") (e :: args) = bd (evs (pe G n call sc ρ) (e :: args)) fun rs => callOn call (Str.ofString "with_joins") rs := fn_own (by decide +kernel) (by decide +kernel) (by decide +kernel) (by decide +kernel) (by decide +kernel)
theorem fo3 {args : List Expr} : pfun G (n + 1) call sc ρ (Str.ofString "to_postfix") (e :: args) = bd (evs (pe G n call sc ρ) (e :: args)) fun rs => callOn call (Str.ofString "to_postfix") rs := fn_own (by decide +kernel) (by decide +kernel) (by decide +kernel) (by decide +kernel) (by decide +kernel)
theorem fo4 {args : List Expr} : pfun G (n + 1) call sc ρ (Str.ofString "operator_name") (e :: args) = bd (evs (pe G n call sc ρ) (e :: args)) fun rs => callOn call (Str.ofString "operator_name") rs := fn_own (by decide +kernel) (by decide +kernel) (by decide +kernel) (by decide +kernel) (by decide +kernel)
theorem fo5 {args : List Expr} : pfun G (n + 1) call sc ρ (Str.ofString "postfix_ok") (e :: args) = bd (evs (pe G n call sc ρ) (e :: args)) fun rs => callOn call (Str.ofString "postfix_ok") rs := fn_own (by decide +kernel) (by decide +kernel) (by decide +kernel) (by decide +kernel) (by decide +kernel)
theorem fo6 {args : List Expr} : pfun G (n + 1) call sc ρ (Str.ofString "compile_pattern") (e :: args) = bd (evs (pe G n call sc ρ) (e :: args)) fun rs => callOn call (Str.ofString "compile_pattern") rs := fn_own (by decide +kernel) (by decide +kernel) (by decide +kernel) (by decide +kernel) (by decide +kernel)
theorem fo7 {args : List Expr} : pfun G (n + 1) call sc ρ (Str.ofString "_law_leaf") (e :: args) = bd (evs (pe G n call sc ρ) (e :: args)) fun rs => callOn call (Str.ofString "_law_leaf") rs := fn_own (by decide +kernel) (by decide +kernel) (by decide +kernel) (by decide +kernel) (by decide +kernel)
theorem fo8 {args : List Expr} : pfun G (n + 1) call sc ρ (Str.ofString "_law_marked") (e :: args) = bd (evs (pe G n call sc ρ) (e :: args)) fun rs => callOn call (Str.ofString "_law_marked") rs := fn_own (by decide +kernel) (by decide +kernel) (by decide +kernel) (by decide +kernel) (by decide +kernel)
theorem fo9 {args : List Expr} : pfun G (n + 1) call sc ρ (Str.ofString "_law_row") (e :: args) = bd (evs (pe G n call sc ρ) (e :: args)) fun rs => callOn call (Str.ofString "_law_row") rs := fn_own (by decide +kernel) (by decide +kernel) (by decide +kernel) (by decide +kernel) (by decide +kernel)
theorem fo10 {args : List Expr} : pfun G (n + 1) call sc ρ (Str.ofString "_law_alts") (e :: args) = bd (evs (pe G n call sc ρ) (e :: args)) fun rs => callOn call (Str.ofString "_law_alts") rs := fn_own (by decide +kernel) (by decide +kernel) (by decide +kernel) (by decide +kernel) (by decide +kernel)
theorem fo11 {args : List Expr} : pfun G (n + 1) call sc ρ (Str.ofString "_law_due") (e :: args) = bd (evs (pe G n call sc ρ) (e :: args)) fun rs => callOn call (Str.ofString "_law_due") rs := fn_own (by decide +kernel) (by decide +kernel) (by decide +kernel) (by decide +kernel) (by decide +kernel)
theorem fo12 {args : List Expr} : pfun G (n + 1) call sc ρ (Str.ofString "_law_lost") (e :: args) = bd (evs (pe G n call sc ρ) (e :: args)) fun rs => callOn call (Str.ofString "_law_lost") rs := fn_own (by decide +kernel) (by decide +kernel) (by decide +kernel) (by decide +kernel) (by decide +kernel)
theorem fo13 {args : List Expr} : pfun G (n + 1) call sc ρ (Str.ofString "_law_bent") (e :: args) = bd (evs (pe G n call sc ρ) (e :: args)) fun rs => callOn call (Str.ofString "_law_bent") rs := fn_own (by decide +kernel) (by decide +kernel) (by decide +kernel) (by decide +kernel) (by decide +kernel)
theorem fo14 {args : List Expr} : pfun G (n + 1) call sc ρ (Str.ofString "_law_read") (e :: args) = bd (evs (pe G n call sc ρ) (e :: args)) fun rs => callOn call (Str.ofString "_law_read") rs := fn_own (by decide +kernel) (by decide +kernel) (by decide +kernel) (by decide +kernel) (by decide +kernel)
theorem fo15 {args : List Expr} : pfun G (n + 1) call sc ρ (Str.ofString "_law_order") (e :: args) = bd (evs (pe G n call sc ρ) (e :: args)) fun rs => callOn call (Str.ofString "_law_order") rs := fn_own (by decide +kernel) (by decide +kernel) (by decide +kernel) (by decide +kernel) (by decide +kernel)
theorem call_one {g : Str} {d : PV} : callOn call g [.val d] = bd (call g [d]) fun d => ok (.val d) := rfl
theorem call_two {g : Str} {d d1 : PV} : callOn call g [.val d, .val d1] = bd (call g [d, d1]) fun d => ok (.val d) := rfl
theorem call_three {g : Str} {d d1 d2 : PV} : callOn call g [.val d, .val d1, .val d2] = bd (call g [d, d1, d2]) fun d => ok (.val d) := rfl
theorem call_own1 {g : Str} {ds : List PV} : callOn call g [.own x ds] = bd (call g [.list ds]) fun d => if immediate d then ok (.val d) else none := rfl
theorem q_is {T : Str} : ptest G (n + 1) call sc ρ (.Call (.Name (Str.ofString "type") p) [e] [] p1) .Is (.Name T p2) = if sc.lookup ("type" : Str) = some .globalImplicit ∧ sc.lookup T = some .globalImplicit then
          bd (pe G n call sc ρ e) fun r => vd r fun d => ofOpt (ptype d T) else none := rfl
theorem q_isnot {k : Nat} : ptest G (n + 1) call sc ρ e .IsNot (.Constant .none k p) = bd (pe G n call sc ρ e) fun a => vd a fun a => match a with
        | .none => ok false
        | .list _ => ok true
        | _ => none := rfl
theorem q_cmp {op : CmpOp} (h1 : op ≠ .Is) (h2 : op ≠ .IsNot) : ptest G (n + 1) call sc ρ e1 op e2 = bs (pe G n call sc ρ e1) fun a => vd a fun a => bd (pe G n call sc ρ e2) fun b => match b with
      | .val b => ofOpt (pcmp op a b)
      | .own _ ds => ofOpt (pcmpOwn op a ds) := by
  cases op <;> first | exact absurd rfl h1 | exact absurd rfl h2 | rfl
theorem t_not : pt G (n + 1) call sc ρ (.UnaryOp .Not e p) = bd (pt G n call sc ρ e) fun b => ok (!b) := rfl
theorem t_bool {op : BoolOp} {vs : List Expr} : pt G (n + 1) call sc ρ (.BoolOp op vs p) = pall G n call sc ρ op vs := rfl
theorem t_cmp {op : CmpOp} : pt G (n + 1) call sc ρ (.Compare e1 [op] [e2] p) = ptest G n call sc ρ e1 op e2 := rfl
theorem t_call {f : Expr} {args : List Expr} {kws : List Keyword} : pt G (n + 1) call sc ρ (.Call f args kws p) = bd (pe G n call sc ρ (.Call f args kws p)) fun r => match r with
      | .val (.bool b) => ok b
      | _ => none := rfl
theorem a_nil : pall G (n + 1) call sc ρ .And [] = ok true := rfl
theorem a_nil' : pall G (n + 1) call sc ρ .Or [] = ok false := rfl
theorem a_and {vs : List Expr} : pall G (n + 1) call sc ρ .And (e :: vs) = bd (pt G n call sc ρ e) fun b => if b then pall G n call sc ρ .And vs else ok false := by
  show bd _ _ = _
  congr 1; funext b; cases b <;> rfl
theorem a_or {vs : List Expr} : pall G (n + 1) call sc ρ .Or (e :: vs) = bd (pt G n call sc ρ e) fun b => if b then ok true else pall G n call sc ρ .Or vs := by
  show bd _ _ = _
  congr 1; funext b; cases b <;> rfl
theorem p_eq_s {x y : Str} : pcmp .Eq (.str x) (.str y) = some (x == y) := rfl
theorem p_ne_s {x y : Str} : pcmp .NotEq (.str x) (.str y) = some (x != y) := rfl
theorem p_eq_i {x y : Int} : pcmp .Eq (.int x) (.int y) = some (x == y) := rfl
theorem p_ne_i {x y : Int} : pcmp .NotEq (.int x) (.int y) = some (x != y) := rfl
theorem p_lt {x y : Int} : pcmp .Lt (.int x) (.int y) = some (decide (x < y)) := rfl
theorem p_gt {x y : Int} : pcmp .Gt (.int x) (.int y) = some (decide (y < x)) := rfl
theorem p_ne_b {x y : Bool} : pcmp .NotEq (.bool x) (.bool y) = some (x != y) := rfl
theorem p_in_s {x y : Str} : pcmp .In (.str x) (.str y) = some (Txt.contains y x) := rfl
theorem p_nin_s {x y : Str} : pcmp .NotIn (.str x) (.str y) = some (!Txt.contains y x) := rfl
theorem p_in_t {x : Str} {ds : List PV} : pcmp .In (.str x) (.tup ds) = match strsOf ds with
    | some ys => some (ys.any (· == x))
    | none => none := rfl
theorem p_nin_t {x : Str} {ds : List PV} : pcmp .NotIn (.str x) (.tup ds) = match strsOf ds with
    | some ys => some (!ys.any (· == x))
    | none => none := rfl
theorem p_in_d {x : Str} {kvs : List (Str × Str)} : pcmp .In (.str x) (.sdict kvs) = some (kvs.any fun p => p.1 == x) := rfl
theorem p_ne_l {x y : List PV} : pcmp .NotEq (.list x) (.list y) = if PV.beqs (PV.beq deep) x y then some false else none := rfl
theorem p_ne_t {x y : List PV} : pcmp .NotEq (.tup x) (.tup y) = if PV.beqs (PV.beq deep) x y then some false else none := rfl
theorem po_nin {x : Str} {ds : List PV} : pcmpOwn .NotIn (.str x) ds = match strsOf ds with
    | some ys => some (!ys.any (· == x))
    | none => none := rfl
theorem pb_add {x y : Int} : pbin .Add (.int x) (.int y) = some (.int (x + y)) := rfl
theorem pb_sub {x y : Int} : pbin .Sub (.int x) (.int y) = some (.int (x - y)) := rfl
theorem pb_mod {x y : Int} (h : y ≠ 0) : pbin .Mod (.int x) (.int y) = some (.int (x.fmod y)) := if_neg h
theorem pb_cat {x y : Str} : pbin .Add (.str x) (.str y) = if x.length + y.length ≤ lim then some (.str (x ++ y)) else none := rfl
theorem pb_app {x y : List PV} : pbin .Add (.list x) (.list y) = if x.length + y.length ≤ lim then some (.list (x ++ y)) else none := rfl
theorem ss_nil : strsOf [] = some [] := rfl
theorem ss_cons {x : Str} {r : List PV} : strsOf (.str x :: r) = match strsOf r with
    | some ys => some (x :: ys)
    | none => none := rfl
theorem pl_str {x : Str} : plen (.val (.str x)) = if x.length ≤ lim then some (.int x.length) else none := rfl
theorem pl_tup {ds : List PV} : plen (.val (.tup ds)) = if ds.length ≤ lim then some (.int ds.length) else none := rfl
theorem pl_list {ds : List PV} : plen (.val (.list ds)) = if ds.length ≤ lim then some (.int ds.length) else none := rfl
theorem pl_own {x : Str} {ds : List PV} : plen (.own x ds) = if ds.length ≤ lim then some (.int ds.length) else none := rfl
-- statements
theorem x_set (ho : ow.contains x = false) (hk : sc.lookup x = some .local ∨ sc.lookup x = some .cell) : px G call ow (n + 1) sc ρ (.Assign [.Name x p] e p1) =
    if isComp e = true ∧ ¬ (sc.lookup x = some .local ∧ swapOk x p e = true) then none else bd (pe G n call sc ρ e) fun r => vd r fun d => ok (.next, upd ρ x (.val d)) := by
  refine (if_neg (by rw [← List.contains_iff_mem, ho]; decide)).trans ?_
  by_cases q : isComp e = true ∧ ¬ (sc.lookup x = some .local ∧ swapOk x p e = true)
  · exact (if_pos q).trans (if_pos q).symm
  · exact (if_neg q).trans ((if_pos hk).trans (if_neg q).symm)
theorem x_nil (ho : ow.contains x = true) (hk : sc.lookup x = some .local) : px G call ow (n + 1) sc ρ (.Assign [.Name x p] (.List [] p2) p1) = ok (.next, upd ρ x (.own [])) := by
  exact (if_pos (List.contains_iff_mem.mp ho)).trans (if_pos ⟨rfl, hk⟩)
theorem x_if {a b : List Stmt} : px G call ow (n + 1) sc ρ (.If e a b p) = bd (pt G n call sc ρ e) fun c => if c then pxs G call ow n sc ρ a else pxs G call ow n sc ρ b := rfl
theorem x_ret : px G call ow (n + 1) sc ρ (.Return (some e) p) = bd (pe G n call sc ρ e) fun r => ok (.ret r, ρ) := rfl
theorem x_brk : px G call ow (n + 1) sc ρ (.Break p) = ok (.brk, ρ) := rfl
theorem x_for {body : List Stmt} (ho : ow.contains x = false) (hk : sc.lookup x = some .local) : px G call ow (n + 1) sc ρ (.For (.Name x p) e body [] p1) = bd (pits G n call sc ρ e) fun ds => ploop (onBody (pxs G call ow n sc) body) x ds ρ := by
  exact if_pos ⟨by rw [← List.contains_iff_mem, ho]; decide, hk⟩
theorem x_raise (hk : sc.lookup (Str.ofString "PatternError") = some .globalImplicit) : px G call ow (n + 1) sc ρ (.Raise (some (.Call (.Name (Str.ofString "PatternError") p) [e] [] p1)) none p2) = bd (pe G n call sc ρ e) fun r => match r with
          | .val (.str x) => some (.error x)
          | _ => none := by
  have e0 : isRaise (.Call (.Name (Str.ofString "PatternError") p) [e] [] p1) = some e := (if_pos rfl : (if (Str.ofString "PatternError") = (Str.ofString "PatternError") then some e else none) = some e)
  show (match isRaise (.Call (.Name (Str.ofString "PatternError") p) [e] [] p1) with
      | some a => if sc.lookup ("PatternError" : Str) = some NameKind.globalImplicit then bd (pe G n call sc ρ a) fun r => match r with
          | .val (.str x) => some (.error x)
          | _ => none else none
      | none => none) = _
  rw [e0]
  exact if_pos hk
theorem x_append {apos : Pos} (hl : (apos.endLine == p1.line) = true) (ho : oddName x = false) (hk : sc.lookup x = some .local) :
    px G call ow (n + 1) sc ρ (.Expr (.Call (.Attribute (.Name x p) (Str.ofString "append") apos) [e] [] p1) p2) = match ρ x with
          | some (.own ds) => bd (pe G n call sc ρ e) fun r => vd r fun d => if ds.length < lim then ok (.next, upd ρ x (.own (ds ++ [d]))) else none
          | _ => none := by
  have e0 : isAppend (.Call (.Attribute (.Name x p) (Str.ofString "append") apos) [e] [] p1) = some (x, e) := if_pos ⟨rfl, hl, ho⟩
  show (match isAppend (.Call (.Attribute (.Name x p) (Str.ofString "append") apos) [e] [] p1) with
      | some (x, a) => if sc.lookup x = some NameKind.local then (match ρ x with
          | some (.own ds) => bd (pe G n call sc ρ a) fun r => vd r fun d => if ds.length < lim then ok (Fl.next, upd ρ x (Slot.own (ds ++ [d]))) else none
          | _ => none) else none
      | none => none) = _
  rw [e0]
  exact if_pos hk
theorem x_del {k : Nat} {p4 : Pos} (ho : oddName x = false) (hk : sc.lookup x = some .local) :
    px G call ow (n + 1) sc ρ (.Delete [.Subscript (.Name x p) (.UnaryOp .USub (.Constant (.int 1) k p1) p2) p3] p4) = match ρ x with
          | some (.own ds) => if ds.length = 0 ∨ lim < ds.length then none else ok (.next, upd ρ x (.own ds.dropLast))
          | _ => none := by
  have e0 : isLast (.Subscript (.Name x p) (.UnaryOp .USub (.Constant (.int 1) k p1) p2) p3) = some x := if_neg (by rw [ho]; decide)
  show (match isLast (.Subscript (.Name x p) (.UnaryOp .USub (.Constant (.int 1) k p1) p2) p3) with
      | some x => if sc.lookup x = some NameKind.local then (match ρ x with
          | some (.own ds) => if ds.length = 0 ∨ lim < ds.length then none else ok (Fl.next, upd ρ x (Slot.own ds.dropLast))
          | _ => none) else none
      | none => none) = _
  rw [e0]
  exact if_pos hk
noncomputable def conS (G : Str → Option PV) (call : Calls) (ow : List Str) (n : Nat) (sc : Names) (r : List Stmt) (q : Fl × Loc) : M (Fl × Loc) := match q.1 with
  | .next => pxs G call ow n sc q.2 r
  | f => ok (f, q.2)
theorem y_cons {st : Stmt} {r : List Stmt} : pxs G call ow (n + 1) sc ρ (st :: r) = bd (px G call ow n sc ρ st) (conS G call ow n sc r) := rfl
theorem y_next {r : List Stmt} : conS G call ow n sc r (.next, ρ) = pxs G call ow n sc ρ r := rfl
theorem y_ret {r : List Stmt} {v : RV} : conS G call ow n sc r (.ret v, ρ) = ok (.ret v, ρ) := rfl
theorem y_brk {r : List Stmt} : conS G call ow n sc r (.brk, ρ) = ok (.brk, ρ) := rfl
noncomputable def conI (G : Str → Option PV) (call : Calls) (ow : List Str) (n : Nat) (sc : Names) (ρ : Loc) (a b : List Stmt) (c : Bool) : M (Fl × Loc) := if c then pxs G call ow n sc ρ a else pxs G call ow n sc ρ b
theorem y_if {a b : List Stmt} : px G call ow (n + 1) sc ρ (.If e a b p) = bd (pt G n call sc ρ e) (conI G call ow n sc ρ a b) := rfl
theorem y_yes {a b : List Stmt} : conI G call ow n sc ρ a b true = pxs G call ow n sc ρ a := rfl
theorem y_no {a b : List Stmt} : conI G call ow n sc ρ a b false = pxs G call ow n sc ρ b := rfl
noncomputable def conA (G : Str → Option PV) (n : Nat) (call : Calls) (sc : Names) (ρ : Loc) (vs : List Expr) (b : Bool) : M Bool := if b then pall G n call sc ρ .And vs else ok false
noncomputable def conO (G : Str → Option PV) (n : Nat) (call : Calls) (sc : Names) (ρ : Loc) (vs : List Expr) (b : Bool) : M Bool := if b then ok true else pall G n call sc ρ .Or vs
theorem y_and {vs : List Expr} : pall G (n + 1) call sc ρ .And (e :: vs) = bd (pt G n call sc ρ e) (conA G n call sc ρ vs) := a_and
theorem y_or {vs : List Expr} : pall G (n + 1) call sc ρ .Or (e :: vs) = bd (pt G n call sc ρ e) (conO G n call sc ρ vs) := a_or
theorem ya_yes {vs : List Expr} : conA G n call sc ρ vs true = pall G n call sc ρ .And vs := rfl
theorem ya_no {vs : List Expr} : conA G n call sc ρ vs false = ok false := rfl
theorem yo_yes {vs : List Expr} : conO G n call sc ρ vs true = ok true := rfl
theorem yo_no {vs : List Expr} : conO G n call sc ρ vs false = pall G n call sc ρ .Or vs := rfl
theorem i_range (hk : sc.lookup (Str.ofString "range") = some .globalImplicit) : pits G (n + 1) call sc ρ (.Call (.Name (Str.ofString "range") p) [e] [] p1) = bd (pe G n call sc ρ e) fun r => vd r fun d => ofOpt (rangeOf d) := by
  have e0 : isRange (.Call (.Name (Str.ofString "range") p) [e] [] p1) = some e := (if_pos rfl : (if (Str.ofString "range") = (Str.ofString "range") then some e else none) = some e)
  show (match isRange (.Call (.Name (Str.ofString "range") p) [e] [] p1) with
    | some a => if sc.lookup ("range" : Str) = some NameKind.globalImplicit then bd (pe G n call sc ρ a) fun r => vd r fun d => ofOpt (rangeOf d) else none
    | none => bd (pe G n call sc ρ (.Call (.Name (Str.ofString "range") p) [e] [] p1)) fun r => ofOpt (itemsOf r)) = _
  rw [e0]
  exact if_pos hk
theorem i_name : pits G (n + 1) call sc ρ (.Name x p) = bd (pe G n call sc ρ (.Name x p)) fun r => ofOpt (itemsOf r) := rfl
theorem i_sub : pits G (n + 1) call sc ρ (.Subscript e e1 p) = bd (pe G n call sc ρ (.Subscript e e1 p)) fun r => ofOpt (itemsOf r) := rfl
end

theorem lk7_c : (nmI 7).lookup (Str.ofString "c") = some .local := by kernel_rfl
theorem lk7_len : (nmI 7).lookup (Str.ofString "len") = some .globalImplicit := by kernel_rfl
theorem lk7_PLAIN_SIGNS : (nmI 7).lookup (Str.ofString "PLAIN_SIGNS") = some .globalImplicit := by kernel_rfl
theorem lk8_pattern : (nmI 8).lookup (Str.ofString "pattern") = some .local := by kernel_rfl
theorem lk8_tokens : (nmI 8).lookup (Str.ofString "tokens") = some .local := by kernel_rfl
theorem lk8_i : (nmI 8).lookup (Str.ofString "i") = some .local := by kernel_rfl
theorem lk8_c : (nmI 8).lookup (Str.ofString "c") = some .local := by kernel_rfl
theorem lk8_range : (nmI 8).lookup (Str.ofString "range") = some .globalImplicit := by kernel_rfl
theorem lk8_len : (nmI 8).lookup (Str.ofString "len") = some .globalImplicit := by kernel_rfl
theorem lk8_is_plain_sign : (nmI 8).lookup (Str.ofString "is_plain_sign") = some .globalImplicit := by kernel_rfl
theorem lk8_OPERATOR_SIGNS : (nmI 8).lookup (Str.ofString "OPERATOR_SIGNS") = some .globalImplicit := by kernel_rfl
theorem lk8_PatternError : (nmI 8).lookup (Str.ofString "PatternError") = some .globalImplicit := by kernel_rfl
theorem lk9_tokens : (nmI 9).lookup (Str.ofString "tokens") = some .local := by kernel_rfl
theorem lk9_filled : (nmI 9).lookup (Str.ofString "filled") = some .local := by kernel_rfl
theorem lk9_before : (nmI 9).lookup (Str.ofString "before") = some .local := by kernel_rfl
theorem lk9_i : (nmI 9).lookup (Str.ofString "i") = some .local := by kernel_rfl
theorem lk9_after : (nmI 9).lookup (Str.ofString "after") = some .local := by kernel_rfl
theorem lk9_joined : (nmI 9).lookup (Str.ofString "joined") = some .local := by kernel_rfl
theorem lk9_range : (nmI 9).lookup (Str.ofString "range") = some .globalImplicit := by kernel_rfl
theorem lk9_len : (nmI 9).lookup (Str.ofString "len") = some .globalImplicit := by kernel_rfl
theorem lk9_ENDS_PIECE : (nmI 9).lookup (Str.ofString "ENDS_PIECE") = some .globalImplicit := by kernel_rfl
theorem lk9_BEGINS_PIECE : (nmI 9).lookup (Str.ofString "BEGINS_PIECE") = some .globalImplicit := by kernel_rfl
theorem lk10_tokens : (nmI 10).lookup (Str.ofString "tokens") = some .local := by kernel_rfl
theorem lk10_out : (nmI 10).lookup (Str.ofString "out") = some .local := by kernel_rfl
theorem lk10_ops : (nmI 10).lookup (Str.ofString "ops") = some .local := by kernel_rfl
theorem lk10_token : (nmI 10).lookup (Str.ofString "token") = some .local := by kernel_rfl
theorem lk10_kind : (nmI 10).lookup (Str.ofString "kind") = some .local := by kernel_rfl
theorem lk10_k : (nmI 10).lookup (Str.ofString "k") = some .local := by kernel_rfl
theorem lk10_top : (nmI 10).lookup (Str.ofString "top") = some .local := by kernel_rfl
theorem lk10_POSTFIX_NAMES : (nmI 10).lookup (Str.ofString "POSTFIX_NAMES") = some .globalImplicit := by kernel_rfl
theorem lk10_PatternError : (nmI 10).lookup (Str.ofString "PatternError") = some .globalImplicit := by kernel_rfl
theorem lk10_range : (nmI 10).lookup (Str.ofString "range") = some .globalImplicit := by kernel_rfl
theorem lk10_len : (nmI 10).lookup (Str.ofString "len") = some .globalImplicit := by kernel_rfl
theorem lk10_operator_name : (nmI 10).lookup (Str.ofString "operator_name") = some .globalImplicit := by kernel_rfl
theorem lk10_postfix_ok : (nmI 10).lookup (Str.ofString "postfix_ok") = some .globalImplicit := by kernel_rfl
theorem lk11_op : (nmI 11).lookup (Str.ofString "op") = some .local := by kernel_rfl
theorem lk12_post : (nmI 12).lookup (Str.ofString "post") = some .local := by kernel_rfl
theorem lk12_depth : (nmI 12).lookup (Str.ofString "depth") = some .local := by kernel_rfl
theorem lk12_item : (nmI 12).lookup (Str.ofString "item") = some .local := by kernel_rfl
theorem lk12_kind : (nmI 12).lookup (Str.ofString "kind") = some .local := by kernel_rfl
theorem lk12_sign : (nmI 12).lookup (Str.ofString "sign") = some .local := by kernel_rfl
theorem lk12_isinstance : (nmI 12).lookup (Str.ofString "isinstance") = some .globalImplicit := by kernel_rfl
theorem lk12_tuple : (nmI 12).lookup (Str.ofString "tuple") = some .globalImplicit := by kernel_rfl
theorem lk12_len : (nmI 12).lookup (Str.ofString "len") = some .globalImplicit := by kernel_rfl
theorem lk12_str : (nmI 12).lookup (Str.ofString "str") = some .globalImplicit := by kernel_rfl
theorem lk12_is_plain_sign : (nmI 12).lookup (Str.ofString "is_plain_sign") = some .globalImplicit := by kernel_rfl
theorem lk13_pattern : (nmI 13).lookup (Str.ofString "pattern") = some .local := by kernel_rfl
theorem lk13_to_postfix : (nmI 13).lookup (Str.ofString "to_postfix") = some .globalImplicit := by kernel_rfl
theorem lk13_with_joins : (nmI 13).lookup (Str.ofString "with_joins") = some .globalImplicit := by kernel_rfl
theorem lk13_tokens_of : (nmI 13).lookup (Str.ofString "tokens_of") = some .globalImplicit := by kernel_rfl
theorem lk19_n : (nmI 19).lookup (Str.ofString "n") = some .local := by kernel_rfl
theorem lk19_sign : (nmI 19).lookup (Str.ofString "sign") = some .local := by kernel_rfl
theorem lk20_part : (nmI 20).lookup (Str.ofString "part") = some .local := by kernel_rfl
theorem lk20_n : (nmI 20).lookup (Str.ofString "n") = some .local := by kernel_rfl
theorem lk20_mark : (nmI 20).lookup (Str.ofString "mark") = some .local := by kernel_rfl
theorem lk21_parts : (nmI 21).lookup (Str.ofString "parts") = some .local := by kernel_rfl
theorem lk21_row : (nmI 21).lookup (Str.ofString "row") = some .local := by kernel_rfl
theorem lk21_text : (nmI 21).lookup (Str.ofString "text") = some .local := by kernel_rfl
theorem lk21_joined : (nmI 21).lookup (Str.ofString "joined") = some .local := by kernel_rfl
theorem lk21_post : (nmI 21).lookup (Str.ofString "post") = some .local := by kernel_rfl
theorem lk21_k : (nmI 21).lookup (Str.ofString "k") = some .local := by kernel_rfl
theorem lk21_len : (nmI 21).lookup (Str.ofString "len") = some .globalImplicit := by kernel_rfl
theorem lk22_parts : (nmI 22).lookup (Str.ofString "parts") = some .local := by kernel_rfl
theorem lk22_shape : (nmI 22).lookup (Str.ofString "shape") = some .local := by kernel_rfl
theorem lk22_text : (nmI 22).lookup (Str.ofString "text") = some .local := by kernel_rfl
theorem lk22_joined : (nmI 22).lookup (Str.ofString "joined") = some .local := by kernel_rfl
theorem lk22_post : (nmI 22).lookup (Str.ofString "post") = some .local := by kernel_rfl
theorem lk22_row : (nmI 22).lookup (Str.ofString "row") = some .local := by kernel_rfl
theorem lk22_more : (nmI 22).lookup (Str.ofString "more") = some .local := by kernel_rfl
theorem lk22_law_row : (nmI 22).lookup (Str.ofString "_law_row") = some .globalImplicit := by kernel_rfl
theorem lk23_text : (nmI 23).lookup (Str.ofString "text") = some .local := by kernel_rfl
theorem lk23_i : (nmI 23).lookup (Str.ofString "i") = some .local := by kernel_rfl
theorem lk23_depth : (nmI 23).lookup (Str.ofString "depth") = some .local := by kernel_rfl
theorem lk23_c : (nmI 23).lookup (Str.ofString "c") = some .local := by kernel_rfl
theorem lk23_before : (nmI 23).lookup (Str.ofString "before") = some .local := by kernel_rfl
theorem lk23_range : (nmI 23).lookup (Str.ofString "range") = some .globalImplicit := by kernel_rfl
theorem lk23_len : (nmI 23).lookup (Str.ofString "len") = some .globalImplicit := by kernel_rfl
theorem lk23_str : (nmI 23).lookup (Str.ofString "str") = some .globalImplicit := by kernel_rfl
theorem lk24_kind : (nmI 24).lookup (Str.ofString "kind") = some .local := by kernel_rfl
theorem lk24_side : (nmI 24).lookup (Str.ofString "side") = some .local := by kernel_rfl
theorem lk25_items : (nmI 25).lookup (Str.ofString "items") = some .local := by kernel_rfl
theorem lk25_spot : (nmI 25).lookup (Str.ofString "spot") = some .local := by kernel_rfl
theorem lk25_side : (nmI 25).lookup (Str.ofString "side") = some .local := by kernel_rfl
theorem lk26_text : (nmI 26).lookup (Str.ofString "text") = some .local := by kernel_rfl
theorem lk26_got : (nmI 26).lookup (Str.ofString "got") = some .local := by kernel_rfl
theorem lk26_why : (nmI 26).lookup (Str.ofString "why") = some .local := by kernel_rfl
theorem lk26_err : (nmI 26).lookup (Str.ofString "err") = some .local := by kernel_rfl
theorem lk26_compile_pattern : (nmI 26).lookup (Str.ofString "compile_pattern") = some .globalImplicit := by kernel_rfl
theorem lk26_PatternError : (nmI 26).lookup (Str.ofString "PatternError") = some .globalImplicit := by kernel_rfl
theorem lk26_str : (nmI 26).lookup (Str.ofString "str") = some .globalImplicit := by kernel_rfl
theorem lk27_tokens : (nmI 27).lookup (Str.ofString "tokens") = some .local := by kernel_rfl
theorem lk27_got : (nmI 27).lookup (Str.ofString "got") = some .local := by kernel_rfl
theorem lk27_why : (nmI 27).lookup (Str.ofString "why") = some .local := by kernel_rfl
theorem lk27_err : (nmI 27).lookup (Str.ofString "err") = some .local := by kernel_rfl
theorem lk27_to_postfix : (nmI 27).lookup (Str.ofString "to_postfix") = some .globalImplicit := by kernel_rfl
theorem lk27_PatternError : (nmI 27).lookup (Str.ofString "PatternError") = some .globalImplicit := by kernel_rfl
theorem lk27_str : (nmI 27).lookup (Str.ofString "str") = some .globalImplicit := by kernel_rfl
theorem lk28_script : (nmI 28).lookup (Str.ofString "script") = some .local := by kernel_rfl
theorem lk28_one : (nmI 28).lookup (Str.ofString "one") = some .local := by kernel_rfl
theorem lk28_two : (nmI 28).lookup (Str.ofString "two") = some .local := by kernel_rfl
theorem lk28_inner : (nmI 28).lookup (Str.ofString "inner") = some .local := by kernel_rfl
theorem lk28_group : (nmI 28).lookup (Str.ofString "group") = some .local := by kernel_rfl
theorem lk28_four : (nmI 28).lookup (Str.ofString "four") = some .local := by kernel_rfl
theorem lk28_parts : (nmI 28).lookup (Str.ofString "parts") = some .local := by kernel_rfl
theorem lk28_text : (nmI 28).lookup (Str.ofString "text") = some .local := by kernel_rfl
theorem lk28_joined : (nmI 28).lookup (Str.ofString "joined") = some .local := by kernel_rfl
theorem lk28_post : (nmI 28).lookup (Str.ofString "post") = some .cell := by kernel_rfl
theorem lk28_at : (nmI 28).lookup (Str.ofString "at") = some .local := by kernel_rfl
theorem lk28_spoiled : (nmI 28).lookup (Str.ofString "spoiled") = some .local := by kernel_rfl
theorem lk28_due : (nmI 28).lookup (Str.ofString "due") = some .local := by kernel_rfl
theorem lk28_got : (nmI 28).lookup (Str.ofString "got") = some .local := by kernel_rfl
theorem lk28_why : (nmI 28).lookup (Str.ofString "why") = some .local := by kernel_rfl
theorem lk28_tokens : (nmI 28).lookup (Str.ofString "tokens") = some .local := by kernel_rfl
theorem lk28_kept : (nmI 28).lookup (Str.ofString "kept") = some .local := by kernel_rfl
theorem lk28_spot : (nmI 28).lookup (Str.ofString "spot") = some .local := by kernel_rfl
theorem lk28_side : (nmI 28).lookup (Str.ofString "side") = some .local := by kernel_rfl
theorem lk28_bent : (nmI 28).lookup (Str.ofString "bent") = some .local := by kernel_rfl
theorem lk28_rank : (nmI 28).lookup (Str.ofString "rank") = some .local := by kernel_rfl
theorem lk28_spots : (nmI 28).lookup (Str.ofString "spots") = some .local := by kernel_rfl
theorem lk28_sign : (nmI 28).lookup (Str.ofString "sign") = some .local := by kernel_rfl
theorem lk28_want : (nmI 28).lookup (Str.ofString "want") = some .local := by kernel_rfl
theorem lk28_front : (nmI 28).lookup (Str.ofString "front") = some .local := by kernel_rfl
theorem lk28_frame : (nmI 28).lookup (Str.ofString "frame") = some .local := by kernel_rfl
theorem lk28_len : (nmI 28).lookup (Str.ofString "len") = some .globalImplicit := by kernel_rfl
theorem lk28_law_marked : (nmI 28).lookup (Str.ofString "_law_marked") = some .globalImplicit := by kernel_rfl
theorem lk28_law_leaf : (nmI 28).lookup (Str.ofString "_law_leaf") = some .globalImplicit := by kernel_rfl
theorem lk28_law_alts : (nmI 28).lookup (Str.ofString "_law_alts") = some .globalImplicit := by kernel_rfl
theorem lk28_law_shapes : (nmI 28).lookup (Str.ofString "_law_shapes") = some .globalImplicit := by kernel_rfl
theorem lk28_law_spoils : (nmI 28).lookup (Str.ofString "_law_spoils") = some .globalImplicit := by kernel_rfl
theorem lk28_law_due : (nmI 28).lookup (Str.ofString "_law_due") = some .globalImplicit := by kernel_rfl
theorem lk28_law_read : (nmI 28).lookup (Str.ofString "_law_read") = some .globalImplicit := by kernel_rfl
theorem lk28_type : (nmI 28).lookup (Str.ofString "type") = some .globalImplicit := by kernel_rfl
theorem lk28_list : (nmI 28).lookup (Str.ofString "list") = some .globalImplicit := by kernel_rfl
theorem lk28_tokens_of : (nmI 28).lookup (Str.ofString "tokens_of") = some .globalImplicit := by kernel_rfl
theorem lk28_with_joins : (nmI 28).lookup (Str.ofString "with_joins") = some .globalImplicit := by kernel_rfl
theorem lk28_law_bent : (nmI 28).lookup (Str.ofString "_law_bent") = some .globalImplicit := by kernel_rfl
theorem lk28_law_order : (nmI 28).lookup (Str.ofString "_law_order") = some .globalImplicit := by kernel_rfl
theorem lk28_law_lost : (nmI 28).lookup (Str.ofString "_law_lost") = some .globalImplicit := by kernel_rfl
theorem lk28_range : (nmI 28).lookup (Str.ofString "range") = some .globalImplicit := by kernel_rfl
theorem lk28_law_signs : (nmI 28).lookup (Str.ofString "_law_signs") = some .globalImplicit := by kernel_rfl
theorem lk28_is_plain_sign : (nmI 28).lookup (Str.ofString "is_plain_sign") = some .globalImplicit := by kernel_rfl
theorem lk28_bool : (nmI 28).lookup (Str.ofString "bool") = some .globalImplicit := by kernel_rfl
theorem lk28_law_fronts : (nmI 28).lookup (Str.ofString "_law_fronts") = some .globalImplicit := by kernel_rfl
theorem lk28_postfix_ok : (nmI 28).lookup (Str.ofString "postfix_ok") = some .globalImplicit := by kernel_rfl


section
variable {G : Str → Option PV} {call : Calls} {ow : List Str} {n : Nat} {sc : Names} {ρ : Loc} {x : Str} {p p1 : Pos} {e : Expr}
noncomputable def lkv (x : Str) : Option Slot → M RV
  | some (.val d) => ok (.val d)
  | some (.own ds) => ok (.own x ds)
  | none => none
noncomputable def lkg : Option PV → M RV
  | some d => ok (.val d)
  | none => none
theorem lkv_val {d : PV} : lkv x (some (.val d)) = ok (.val d) := rfl
theorem lkv_own {ds : List PV} : lkv x (some (.own ds)) = ok (.own x ds) := rfl
theorem lkg_some {d : PV} : lkg (some d) = ok (.val d) := rfl
theorem nameL (h1 : oddName x = false) (h2 : bound (sc.lookup x) = true) : pe G (n + 1) call sc ρ (.Name x p) = lkv x (ρ x) := by
  refine (if_neg (by rw [h1]; decide)).trans ((if_pos h2).trans ?_)
  cases ρ x with
  | none => rfl
  | some s => cases s <;> rfl
theorem nameG (h1 : oddName x = false) (h2 : bound (sc.lookup x) = false) (h3 : sc.lookup x = some .globalImplicit) : pe G (n + 1) call sc ρ (.Name x p) = lkg (G x) := by
  refine (if_neg (by rw [h1]; decide)).trans ((if_neg (by rw [h2]; decide)).trans ((if_pos h3).trans ?_))
  cases G x <;> rfl
noncomputable def asK (x : Str) (ρ : Loc) (r : RV) : M (Fl × Loc) := vd r fun d => ok (.next, upd ρ x (.val d))
theorem asK_val {d : PV} : asK x ρ (.val d) = ok (.next, upd ρ x (.val d)) := rfl
noncomputable def asF (c sw : Bool) (m : M RV) (x : Str) (ρ : Loc) : M (Fl × Loc) := match c, sw with
  | false, _ => bd m (asK x ρ)
  | true, true => bd m (asK x ρ)
  | true, false => none
theorem ic1 {f : Expr} {as : List Expr} {ks : List Keyword} {p : Pos} : isComp (.Call f as ks p) = false := rfl
theorem ic2 {v s : Expr} {p : Pos} : isComp (.Subscript v s p) = false := rfl
theorem ic3 {a b : Expr} {op : Operator} {p : Pos} : isComp (.BinOp a op b p) = false := rfl
theorem ic4 {es : List Expr} {k : Nat} {p : Pos} : isComp (.Tuple es k p) = false := rfl
theorem ic5 {es : List Expr} {p : Pos} : isComp (.List es p) = false := rfl
theorem ic6 {x : Str} {p : Pos} : isComp (.Name x p) = false := rfl
theorem ic7 {c : Const} {k : Nat} {p : Pos} : isComp (.Constant c k p) = false := rfl
theorem ic8 {a : Expr} {ops : List CmpOp} {rs : List Expr} {p : Pos} : isComp (.Compare a ops rs p) = false := rfl
theorem ic9 {e : Expr} {gens : List Comprehension} {sc : Scope} {p : Pos} : isComp (.ListComp e gens sc p) = true := rfl
theorem sw_comp {x : Str} {xp : Pos} {e : Expr} {gens : List Comprehension} {csc : Scope} {p : Pos} : swapOk x xp (.ListComp e gens csc p) = (xp.line == p.line && !(csc.names.any fun q => q.1 == x && (q.2 == .local || q.2 == .cell))) := rfl
theorem it1 {f : Expr} {as : List Expr} {ks : List Keyword} {p : Pos} : isTup (.Call f as ks p) = false := rfl
theorem it2 {v s : Expr} {p : Pos} : isTup (.Subscript v s p) = false := rfl
theorem nn1 {x : Str} {p : Pos} : nameOf (.Name x p) = some x := rfl
theorem asF_f {sw : Bool} {m : M RV} : asF false sw m x ρ = bd m (asK x ρ) := rfl
theorem asF_t {m : M RV} : asF true true m x ρ = bd m (asK x ρ) := rfl
theorem setL (h : sc.lookup x = some .local) (ho : ow.contains x = false) : px G call ow (n + 1) sc ρ (.Assign [.Name x p] e p1) = asF (isComp e) (swapOk x p e) (pe G n call sc ρ e) x ρ := by
  rw [x_set ho (.inl h), h]
  cases isComp e <;> cases swapOk x p e <;> simp <;> rfl
theorem setC (h : sc.lookup x = some .cell) (ho : ow.contains x = false) : px G call ow (n + 1) sc ρ (.Assign [.Name x p] e p1) = asF (isComp e) false (pe G n call sc ρ e) x ρ := by
  rw [x_set ho (.inr h), h]
  cases isComp e <;> simp <;> rfl
theorem callG {args : List Expr} (h : sc.lookup x = some .globalImplicit) (hf : pfun G (n + 1) call sc ρ x args = bd (evs (pe G n call sc ρ) args) (callOn call x)) : pe G (n + 2) call sc ρ (.Call (.Name x p) args [] p1) = bd (evs (pe G n call sc ρ) args) (callOn call x) := (e_call h).trans hf
end

theorem n7x0 {G : Str → Option PV} {call : Calls} {n : Nat} {ρ : Loc} {p : Pos} : pe G (n + 1) call (nmI 7) ρ (.Name (Str.ofString "c") p) = lkv (Str.ofString "c") (ρ (Str.ofString "c")) := nameL (by kernel_rfl) (by kernel_rfl)
theorem s7x0 {G : Str → Option PV} {call : Calls} {ow : List Str} {n : Nat} {ρ : Loc} {p p1 : Pos} {e : Expr} (ho : ow.contains (Str.ofString "c") = false) : px G call ow (n + 1) (nmI 7) ρ (.Assign [.Name (Str.ofString "c") p] e p1) = asF (isComp e) (swapOk (Str.ofString "c") p e) (pe G n call (nmI 7) ρ e) (Str.ofString "c") ρ := setL lk7_c ho
theorem n7x2 {G : Str → Option PV} {call : Calls} {n : Nat} {ρ : Loc} {p : Pos} : pe G (n + 1) call (nmI 7) ρ (.Name (Str.ofString "PLAIN_SIGNS") p) = lkg (G (Str.ofString "PLAIN_SIGNS")) := nameG (by kernel_rfl) (by kernel_rfl) lk7_PLAIN_SIGNS
theorem n8x0 {G : Str → Option PV} {call : Calls} {n : Nat} {ρ : Loc} {p : Pos} : pe G (n + 1) call (nmI 8) ρ (.Name (Str.ofString "pattern") p) = lkv (Str.ofString "pattern") (ρ (Str.ofString "pattern")) := nameL (by kernel_rfl) (by kernel_rfl)
theorem s8x0 {G : Str → Option PV} {call : Calls} {ow : List Str} {n : Nat} {ρ : Loc} {p p1 : Pos} {e : Expr} (ho : ow.contains (Str.ofString "pattern") = false) : px G call ow (n + 1) (nmI 8) ρ (.Assign [.Name (Str.ofString "pattern") p] e p1) = asF (isComp e) (swapOk (Str.ofString "pattern") p e) (pe G n call (nmI 8) ρ e) (Str.ofString "pattern") ρ := setL lk8_pattern ho
theorem n8x1 {G : Str → Option PV} {call : Calls} {n : Nat} {ρ : Loc} {p : Pos} : pe G (n + 1) call (nmI 8) ρ (.Name (Str.ofString "tokens") p) = lkv (Str.ofString "tokens") (ρ (Str.ofString "tokens")) := nameL (by kernel_rfl) (by kernel_rfl)
theorem s8x1 {G : Str → Option PV} {call : Calls} {ow : List Str} {n : Nat} {ρ : Loc} {p p1 : Pos} {e : Expr} (ho : ow.contains (Str.ofString "tokens") = false) : px G call ow (n + 1) (nmI 8) ρ (.Assign [.Name (Str.ofString "tokens") p] e p1) = asF (isComp e) (swapOk (Str.ofString "tokens") p e) (pe G n call (nmI 8) ρ e) (Str.ofString "tokens") ρ := setL lk8_tokens ho
theorem n8x2 {G : Str → Option PV} {call : Calls} {n : Nat} {ρ : Loc} {p : Pos} : pe G (n + 1) call (nmI 8) ρ (.Name (Str.ofString "i") p) = lkv (Str.ofString "i") (ρ (Str.ofString "i")) := nameL (by kernel_rfl) (by kernel_rfl)
theorem s8x2 {G : Str → Option PV} {call : Calls} {ow : List Str} {n : Nat} {ρ : Loc} {p p1 : Pos} {e : Expr} (ho : ow.contains (Str.ofString "i") = false) : px G call ow (n + 1) (nmI 8) ρ (.Assign [.Name (Str.ofString "i") p] e p1) = asF (isComp e) (swapOk (Str.ofString "i") p e) (pe G n call (nmI 8) ρ e) (Str.ofString "i") ρ := setL lk8_i ho
theorem n8x3 {G : Str → Option PV} {call : Calls} {n : Nat} {ρ : Loc} {p : Pos} : pe G (n + 1) call (nmI 8) ρ (.Name (Str.ofString "c") p) = lkv (Str.ofString "c") (ρ (Str.ofString "c")) := nameL (by kernel_rfl) (by kernel_rfl)
theorem s8x3 {G : Str → Option PV} {call : Calls} {ow : List Str} {n : Nat} {ρ : Loc} {p p1 : Pos} {e : Expr} (ho : ow.contains (Str.ofString "c") = false) : px G call ow (n + 1) (nmI 8) ρ (.Assign [.Name (Str.ofString "c") p] e p1) = asF (isComp e) (swapOk (Str.ofString "c") p e) (pe G n call (nmI 8) ρ e) (Str.ofString "c") ρ := setL lk8_c ho
theorem c8x6 {G : Str → Option PV} {call : Calls} {n : Nat} {ρ : Loc} {p p1 : Pos} {e : Expr} {args : List Expr} : pe G (n + 2) call (nmI 8) ρ (.Call (.Name (Str.ofString "is_plain_sign") p) (e :: args) [] p1) = bd (evs (pe G n call (nmI 8) ρ) (e :: args)) (callOn call (Str.ofString "is_plain_sign")) := callG lk8_is_plain_sign fo0
theorem n8x7 {G : Str → Option PV} {call : Calls} {n : Nat} {ρ : Loc} {p : Pos} : pe G (n + 1) call (nmI 8) ρ (.Name (Str.ofString "OPERATOR_SIGNS") p) = lkg (G (Str.ofString "OPERATOR_SIGNS")) := nameG (by kernel_rfl) (by kernel_rfl) lk8_OPERATOR_SIGNS
theorem n9x0 {G : Str → Option PV} {call : Calls} {n : Nat} {ρ : Loc} {p : Pos} : pe G (n + 1) call (nmI 9) ρ (.Name (Str.ofString "tokens") p) = lkv (Str.ofString "tokens") (ρ (Str.ofString "tokens")) := nameL (by kernel_rfl) (by kernel_rfl)
theorem s9x0 {G : Str → Option PV} {call : Calls} {ow : List Str} {n : Nat} {ρ : Loc} {p p1 : Pos} {e : Expr} (ho : ow.contains (Str.ofString "tokens") = false) : px G call ow (n + 1) (nmI 9) ρ (.Assign [.Name (Str.ofString "tokens") p] e p1) = asF (isComp e) (swapOk (Str.ofString "tokens") p e) (pe G n call (nmI 9) ρ e) (Str.ofString "tokens") ρ := setL lk9_tokens ho
theorem n9x1 {G : Str → Option PV} {call : Calls} {n : Nat} {ρ : Loc} {p : Pos} : pe G (n + 1) call (nmI 9) ρ (.Name (Str.ofString "filled") p) = lkv (Str.ofString "filled") (ρ (Str.ofString "filled")) := nameL (by kernel_rfl) (by kernel_rfl)
theorem s9x1 {G : Str → Option PV} {call : Calls} {ow : List Str} {n : Nat} {ρ : Loc} {p p1 : Pos} {e : Expr} (ho : ow.contains (Str.ofString "filled") = false) : px G call ow (n + 1) (nmI 9) ρ (.Assign [.Name (Str.ofString "filled") p] e p1) = asF (isComp e) (swapOk (Str.ofString "filled") p e) (pe G n call (nmI 9) ρ e) (Str.ofString "filled") ρ := setL lk9_filled ho
theorem n9x2 {G : Str → Option PV} {call : Calls} {n : Nat} {ρ : Loc} {p : Pos} : pe G (n + 1) call (nmI 9) ρ (.Name (Str.ofString "before") p) = lkv (Str.ofString "before") (ρ (Str.ofString "before")) := nameL (by kernel_rfl) (by kernel_rfl)
theorem s9x2 {G : Str → Option PV} {call : Calls} {ow : List Str} {n : Nat} {ρ : Loc} {p p1 : Pos} {e : Expr} (ho : ow.contains (Str.ofString "before") = false) : px G call ow (n + 1) (nmI 9) ρ (.Assign [.Name (Str.ofString "before") p] e p1) = asF (isComp e) (swapOk (Str.ofString "before") p e) (pe G n call (nmI 9) ρ e) (Str.ofString "before") ρ := setL lk9_before ho
theorem n9x3 {G : Str → Option PV} {call : Calls} {n : Nat} {ρ : Loc} {p : Pos} : pe G (n + 1) call (nmI 9) ρ (.Name (Str.ofString "i") p) = lkv (Str.ofString "i") (ρ (Str.ofString "i")) := nameL (by kernel_rfl) (by kernel_rfl)
theorem s9x3 {G : Str → Option PV} {call : Calls} {ow : List Str} {n : Nat} {ρ : Loc} {p p1 : Pos} {e : Expr} (ho : ow.contains (Str.ofString "i") = false) : px G call ow (n + 1) (nmI 9) ρ (.Assign [.Name (Str.ofString "i") p] e p1) = asF (isComp e) (swapOk (Str.ofString "i") p e) (pe G n call (nmI 9) ρ e) (Str.ofString "i") ρ := setL lk9_i ho
theorem n9x4 {G : Str → Option PV} {call : Calls} {n : Nat} {ρ : Loc} {p : Pos} : pe G (n + 1) call (nmI 9) ρ (.Name (Str.ofString "after") p) = lkv (Str.ofString "after") (ρ (Str.ofString "after")) := nameL (by kernel_rfl) (by kernel_rfl)
theorem s9x4 {G : Str → Option PV} {call : Calls} {ow : List Str} {n : Nat} {ρ : Loc} {p p1 : Pos} {e : Expr} (ho : ow.contains (Str.ofString "after") = false) : px G call ow (n + 1) (nmI 9) ρ (.Assign [.Name (Str.ofString "after") p] e p1) = asF (isComp e) (swapOk (Str.ofString "after") p e) (pe G n call (nmI 9) ρ e) (Str.ofString "after") ρ := setL lk9_after ho
theorem n9x5 {G : Str → Option PV} {call : Calls} {n : Nat} {ρ : Loc} {p : Pos} : pe G (n + 1) call (nmI 9) ρ (.Name (Str.ofString "joined") p) = lkv (Str.ofString "joined") (ρ (Str.ofString "joined")) := nameL (by kernel_rfl) (by kernel_rfl)
theorem s9x5 {G : Str → Option PV} {call : Calls} {ow : List Str} {n : Nat} {ρ : Loc} {p p1 : Pos} {e : Expr} (ho : ow.contains (Str.ofString "joined") = false) : px G call ow (n + 1) (nmI 9) ρ (.Assign [.Name (Str.ofString "joined") p] e p1) = asF (isComp e) (swapOk (Str.ofString "joined") p e) (pe G n call (nmI 9) ρ e) (Str.ofString "joined") ρ := setL lk9_joined ho
theorem n9x8 {G : Str → Option PV} {call : Calls} {n : Nat} {ρ : Loc} {p : Pos} : pe G (n + 1) call (nmI 9) ρ (.Name (Str.ofString "ENDS_PIECE") p) = lkg (G (Str.ofString "ENDS_PIECE")) := nameG (by kernel_rfl) (by kernel_rfl) lk9_ENDS_PIECE
theorem n9x9 {G : Str → Option PV} {call : Calls} {n : Nat} {ρ : Loc} {p : Pos} : pe G (n + 1) call (nmI 9) ρ (.Name (Str.ofString "BEGINS_PIECE") p) = lkg (G (Str.ofString "BEGINS_PIECE")) := nameG (by kernel_rfl) (by kernel_rfl) lk9_BEGINS_PIECE
theorem n10x0 {G : Str → Option PV} {call : Calls} {n : Nat} {ρ : Loc} {p : Pos} : pe G (n + 1) call (nmI 10) ρ (.Name (Str.ofString "tokens") p) = lkv (Str.ofString "tokens") (ρ (Str.ofString "tokens")) := nameL (by kernel_rfl) (by kernel_rfl)
theorem s10x0 {G : Str → Option PV} {call : Calls} {ow : List Str} {n : Nat} {ρ : Loc} {p p1 : Pos} {e : Expr} (ho : ow.contains (Str.ofString "tokens") = false) : px G call ow (n + 1) (nmI 10) ρ (.Assign [.Name (Str.ofString "tokens") p] e p1) = asF (isComp e) (swapOk (Str.ofString "tokens") p e) (pe G n call (nmI 10) ρ e) (Str.ofString "tokens") ρ := setL lk10_tokens ho
theorem n10x1 {G : Str → Option PV} {call : Calls} {n : Nat} {ρ : Loc} {p : Pos} : pe G (n + 1) call (nmI 10) ρ (.Name (Str.ofString "out") p) = lkv (Str.ofString "out") (ρ (Str.ofString "out")) := nameL (by kernel_rfl) (by kernel_rfl)
theorem s10x1 {G : Str → Option PV} {call : Calls} {ow : List Str} {n : Nat} {ρ : Loc} {p p1 : Pos} {e : Expr} (ho : ow.contains (Str.ofString "out") = false) : px G call ow (n + 1) (nmI 10) ρ (.Assign [.Name (Str.ofString "out") p] e p1) = asF (isComp e) (swapOk (Str.ofString "out") p e) (pe G n call (nmI 10) ρ e) (Str.ofString "out") ρ := setL lk10_out ho
theorem n10x2 {G : Str → Option PV} {call : Calls} {n : Nat} {ρ : Loc} {p : Pos} : pe G (n + 1) call (nmI 10) ρ (.Name (Str.ofString "ops") p) = lkv (Str.ofString "ops") (ρ (Str.ofString "ops")) := nameL (by kernel_rfl) (by kernel_rfl)
theorem s10x2 {G : Str → Option PV} {call : Calls} {ow : List Str} {n : Nat} {ρ : Loc} {p p1 : Pos} {e : Expr} (ho : ow.contains (Str.ofString "ops") = false) : px G call ow (n + 1) (nmI 10) ρ (.Assign [.Name (Str.ofString "ops") p] e p1) = asF (isComp e) (swapOk (Str.ofString "ops") p e) (pe G n call (nmI 10) ρ e) (Str.ofString "ops") ρ := setL lk10_ops ho
theorem n10x3 {G : Str → Option PV} {call : Calls} {n : Nat} {ρ : Loc} {p : Pos} : pe G (n + 1) call (nmI 10) ρ (.Name (Str.ofString "token") p) = lkv (Str.ofString "token") (ρ (Str.ofString "token")) := nameL (by kernel_rfl) (by kernel_rfl)
theorem s10x3 {G : Str → Option PV} {call : Calls} {ow : List Str} {n : Nat} {ρ : Loc} {p p1 : Pos} {e : Expr} (ho : ow.contains (Str.ofString "token") = false) : px G call ow (n + 1) (nmI 10) ρ (.Assign [.Name (Str.ofString "token") p] e p1) = asF (isComp e) (swapOk (Str.ofString "token") p e) (pe G n call (nmI 10) ρ e) (Str.ofString "token") ρ := setL lk10_token ho
theorem n10x4 {G : Str → Option PV} {call : Calls} {n : Nat} {ρ : Loc} {p : Pos} : pe G (n + 1) call (nmI 10) ρ (.Name (Str.ofString "kind") p) = lkv (Str.ofString "kind") (ρ (Str.ofString "kind")) := nameL (by kernel_rfl) (by kernel_rfl)
theorem s10x4 {G : Str → Option PV} {call : Calls} {ow : List Str} {n : Nat} {ρ : Loc} {p p1 : Pos} {e : Expr} (ho : ow.contains (Str.ofString "kind") = false) : px G call ow (n + 1) (nmI 10) ρ (.Assign [.Name (Str.ofString "kind") p] e p1) = asF (isComp e) (swapOk (Str.ofString "kind") p e) (pe G n call (nmI 10) ρ e) (Str.ofString "kind") ρ := setL lk10_kind ho
theorem n10x5 {G : Str → Option PV} {call : Calls} {n : Nat} {ρ : Loc} {p : Pos} : pe G (n + 1) call (nmI 10) ρ (.Name (Str.ofString "k") p) = lkv (Str.ofString "k") (ρ (Str.ofString "k")) := nameL (by kernel_rfl) (by kernel_rfl)
theorem s10x5 {G : Str → Option PV} {call : Calls} {ow : List Str} {n : Nat} {ρ : Loc} {p p1 : Pos} {e : Expr} (ho : ow.contains (Str.ofString "k") = false) : px G call ow (n + 1) (nmI 10) ρ (.Assign [.Name (Str.ofString "k") p] e p1) = asF (isComp e) (swapOk (Str.ofString "k") p e) (pe G n call (nmI 10) ρ e) (Str.ofString "k") ρ := setL lk10_k ho
theorem n10x6 {G : Str → Option PV} {call : Calls} {n : Nat} {ρ : Loc} {p : Pos} : pe G (n + 1) call (nmI 10) ρ (.Name (Str.ofString "top") p) = lkv (Str.ofString "top") (ρ (Str.ofString "top")) := nameL (by kernel_rfl) (by kernel_rfl)
theorem s10x6 {G : Str → Option PV} {call : Calls} {ow : List Str} {n : Nat} {ρ : Loc} {p p1 : Pos} {e : Expr} (ho : ow.contains (Str.ofString "top") = false) : px G call ow (n + 1) (nmI 10) ρ (.Assign [.Name (Str.ofString "top") p] e p1) = asF (isComp e) (swapOk (Str.ofString "top") p e) (pe G n call (nmI 10) ρ e) (Str.ofString "top") ρ := setL lk10_top ho
theorem n10x7 {G : Str → Option PV} {call : Calls} {n : Nat} {ρ : Loc} {p : Pos} : pe G (n + 1) call (nmI 10) ρ (.Name (Str.ofString "POSTFIX_NAMES") p) = lkg (G (Str.ofString "POSTFIX_NAMES")) := nameG (by kernel_rfl) (by kernel_rfl) lk10_POSTFIX_NAMES
theorem c10x11 {G : Str → Option PV} {call : Calls} {n : Nat} {ρ : Loc} {p p1 : Pos} {e : Expr} {args : List Expr} : pe G (n + 2) call (nmI 10) ρ (.Call (.Name (Str.ofString "operator_name") p) (e :: args) [] p1) = bd (evs (pe G n call (nmI 10) ρ) (e :: args)) (callOn call (Str.ofString "operator_name")) := callG lk10_operator_name fo4
theorem c10x12 {G : Str → Option PV} {call : Calls} {n : Nat} {ρ : Loc} {p p1 : Pos} {e : Expr} {args : List Expr} : pe G (n + 2) call (nmI 10) ρ (.Call (.Name (Str.ofString "postfix_ok") p) (e :: args) [] p1) = bd (evs (pe G n call (nmI 10) ρ) (e :: args)) (callOn call (Str.ofString "postfix_ok")) := callG lk10_postfix_ok fo5
theorem n11x0 {G : Str → Option PV} {call : Calls} {n : Nat} {ρ : Loc} {p : Pos} : pe G (n + 1) call (nmI 11) ρ (.Name (Str.ofString "op") p) = lkv (Str.ofString "op") (ρ (Str.ofString "op")) := nameL (by kernel_rfl) (by kernel_rfl)
theorem s11x0 {G : Str → Option PV} {call : Calls} {ow : List Str} {n : Nat} {ρ : Loc} {p p1 : Pos} {e : Expr} (ho : ow.contains (Str.ofString "op") = false) : px G call ow (n + 1) (nmI 11) ρ (.Assign [.Name (Str.ofString "op") p] e p1) = asF (isComp e) (swapOk (Str.ofString "op") p e) (pe G n call (nmI 11) ρ e) (Str.ofString "op") ρ := setL lk11_op ho
theorem n12x0 {G : Str → Option PV} {call : Calls} {n : Nat} {ρ : Loc} {p : Pos} : pe G (n + 1) call (nmI 12) ρ (.Name (Str.ofString "post") p) = lkv (Str.ofString "post") (ρ (Str.ofString "post")) := nameL (by kernel_rfl) (by kernel_rfl)
theorem s12x0 {G : Str → Option PV} {call : Calls} {ow : List Str} {n : Nat} {ρ : Loc} {p p1 : Pos} {e : Expr} (ho : ow.contains (Str.ofString "post") = false) : px G call ow (n + 1) (nmI 12) ρ (.Assign [.Name (Str.ofString "post") p] e p1) = asF (isComp e) (swapOk (Str.ofString "post") p e) (pe G n call (nmI 12) ρ e) (Str.ofString "post") ρ := setL lk12_post ho
theorem n12x1 {G : Str → Option PV} {call : Calls} {n : Nat} {ρ : Loc} {p : Pos} : pe G (n + 1) call (nmI 12) ρ (.Name (Str.ofString "depth") p) = lkv (Str.ofString "depth") (ρ (Str.ofString "depth")) := nameL (by kernel_rfl) (by kernel_rfl)
theorem s12x1 {G : Str → Option PV} {call : Calls} {ow : List Str} {n : Nat} {ρ : Loc} {p p1 : Pos} {e : Expr} (ho : ow.contains (Str.ofString "depth") = false) : px G call ow (n + 1) (nmI 12) ρ (.Assign [.Name (Str.ofString "depth") p] e p1) = asF (isComp e) (swapOk (Str.ofString "depth") p e) (pe G n call (nmI 12) ρ e) (Str.ofString "depth") ρ := setL lk12_depth ho
theorem n12x2 {G : Str → Option PV} {call : Calls} {n : Nat} {ρ : Loc} {p : Pos} : pe G (n + 1) call (nmI 12) ρ (.Name (Str.ofString "item") p) = lkv (Str.ofString "item") (ρ (Str.ofString "item")) := nameL (by kernel_rfl) (by kernel_rfl)
theorem s12x2 {G : Str → Option PV} {call : Calls} {ow : List Str} {n : Nat} {ρ : Loc} {p p1 : Pos} {e : Expr} (ho : ow.contains (Str.ofString "item") = false) : px G call ow (n + 1) (nmI 12) ρ (.Assign [.Name (Str.ofString "item") p] e p1) = asF (isComp e) (swapOk (Str.ofString "item") p e) (pe G n call (nmI 12) ρ e) (Str.ofString "item") ρ := setL lk12_item ho
theorem n12x3 {G : Str → Option PV} {call : Calls} {n : Nat} {ρ : Loc} {p : Pos} : pe G (n + 1) call (nmI 12) ρ (.Name (Str.ofString "kind") p) = lkv (Str.ofString "kind") (ρ (Str.ofString "kind")) := nameL (by kernel_rfl) (by kernel_rfl)
theorem s12x3 {G : Str → Option PV} {call : Calls} {ow : List Str} {n : Nat} {ρ : Loc} {p p1 : Pos} {e : Expr} (ho : ow.contains (Str.ofString "kind") = false) : px G call ow (n + 1) (nmI 12) ρ (.Assign [.Name (Str.ofString "kind") p] e p1) = asF (isComp e) (swapOk (Str.ofString "kind") p e) (pe G n call (nmI 12) ρ e) (Str.ofString "kind") ρ := setL lk12_kind ho
theorem n12x4 {G : Str → Option PV} {call : Calls} {n : Nat} {ρ : Loc} {p : Pos} : pe G (n + 1) call (nmI 12) ρ (.Name (Str.ofString "sign") p) = lkv (Str.ofString "sign") (ρ (Str.ofString "sign")) := nameL (by kernel_rfl) (by kernel_rfl)
theorem s12x4 {G : Str → Option PV} {call : Calls} {ow : List Str} {n : Nat} {ρ : Loc} {p p1 : Pos} {e : Expr} (ho : ow.contains (Str.ofString "sign") = false) : px G call ow (n + 1) (nmI 12) ρ (.Assign [.Name (Str.ofString "sign") p] e p1) = asF (isComp e) (swapOk (Str.ofString "sign") p e) (pe G n call (nmI 12) ρ e) (Str.ofString "sign") ρ := setL lk12_sign ho
theorem c12x9 {G : Str → Option PV} {call : Calls} {n : Nat} {ρ : Loc} {p p1 : Pos} {e : Expr} {args : List Expr} : pe G (n + 2) call (nmI 12) ρ (.Call (.Name (Str.ofString "is_plain_sign") p) (e :: args) [] p1) = bd (evs (pe G n call (nmI 12) ρ) (e :: args)) (callOn call (Str.ofString "is_plain_sign")) := callG lk12_is_plain_sign fo0
theorem n13x0 {G : Str → Option PV} {call : Calls} {n : Nat} {ρ : Loc} {p : Pos} : pe G (n + 1) call (nmI 13) ρ (.Name (Str.ofString "pattern") p) = lkv (Str.ofString "pattern") (ρ (Str.ofString "pattern")) := nameL (by kernel_rfl) (by kernel_rfl)
theorem s13x0 {G : Str → Option PV} {call : Calls} {ow : List Str} {n : Nat} {ρ : Loc} {p p1 : Pos} {e : Expr} (ho : ow.contains (Str.ofString "pattern") = false) : px G call ow (n + 1) (nmI 13) ρ (.Assign [.Name (Str.ofString "pattern") p] e p1) = asF (isComp e) (swapOk (Str.ofString "pattern") p e) (pe G n call (nmI 13) ρ e) (Str.ofString "pattern") ρ := setL lk13_pattern ho
theorem c13x1 {G : Str → Option PV} {call : Calls} {n : Nat} {ρ : Loc} {p p1 : Pos} {e : Expr} {args : List Expr} : pe G (n + 2) call (nmI 13) ρ (.Call (.Name (Str.ofString "to_postfix") p) (e :: args) [] p1) = bd (evs (pe G n call (nmI 13) ρ) (e :: args)) (callOn call (Str.ofString "to_postfix")) := callG lk13_to_postfix fo3
theorem c13x2 {G : Str → Option PV} {call : Calls} {n : Nat} {ρ : Loc} {p p1 : Pos} {e : Expr} {args : List Expr} : pe G (n + 2) call (nmI 13) ρ (.Call (.Name (Str.ofString "with_joins") p) (e :: args) [] p1) = bd (evs (pe G n call (nmI 13) ρ) (e :: args)) (callOn call (Str.ofString "with_joins")) := callG lk13_with_joins fo2
theorem c13x3 {G : Str → Option PV} {call : Calls} {n : Nat} {ρ : Loc} {p p1 : Pos} {e : Expr} {args : List Expr} : pe G (n + 2) call (nmI 13) ρ (.Call (.Name (Str.ofString "tokens_of") p) (e :: args) [] p1) = bd (evs (pe G n call (nmI 13) ρ) (e :: args)) (callOn call (Str.ofString "tokens_of")) := callG lk13_tokens_of fo1
theorem n19x0 {G : Str → Option PV} {call : Calls} {n : Nat} {ρ : Loc} {p : Pos} : pe G (n + 1) call (nmI 19) ρ (.Name (Str.ofString "n") p) = lkv (Str.ofString "n") (ρ (Str.ofString "n")) := nameL (by kernel_rfl) (by kernel_rfl)
theorem s19x0 {G : Str → Option PV} {call : Calls} {ow : List Str} {n : Nat} {ρ : Loc} {p p1 : Pos} {e : Expr} (ho : ow.contains (Str.ofString "n") = false) : px G call ow (n + 1) (nmI 19) ρ (.Assign [.Name (Str.ofString "n") p] e p1) = asF (isComp e) (swapOk (Str.ofString "n") p e) (pe G n call (nmI 19) ρ e) (Str.ofString "n") ρ := setL lk19_n ho
theorem n19x1 {G : Str → Option PV} {call : Calls} {n : Nat} {ρ : Loc} {p : Pos} : pe G (n + 1) call (nmI 19) ρ (.Name (Str.ofString "sign") p) = lkv (Str.ofString "sign") (ρ (Str.ofString "sign")) := nameL (by kernel_rfl) (by kernel_rfl)
theorem s19x1 {G : Str → Option PV} {call : Calls} {ow : List Str} {n : Nat} {ρ : Loc} {p p1 : Pos} {e : Expr} (ho : ow.contains (Str.ofString "sign") = false) : px G call ow (n + 1) (nmI 19) ρ (.Assign [.Name (Str.ofString "sign") p] e p1) = asF (isComp e) (swapOk (Str.ofString "sign") p e) (pe G n call (nmI 19) ρ e) (Str.ofString "sign") ρ := setL lk19_sign ho
theorem n20x0 {G : Str → Option PV} {call : Calls} {n : Nat} {ρ : Loc} {p : Pos} : pe G (n + 1) call (nmI 20) ρ (.Name (Str.ofString "part") p) = lkv (Str.ofString "part") (ρ (Str.ofString "part")) := nameL (by kernel_rfl) (by kernel_rfl)
theorem s20x0 {G : Str → Option PV} {call : Calls} {ow : List Str} {n : Nat} {ρ : Loc} {p p1 : Pos} {e : Expr} (ho : ow.contains (Str.ofString "part") = false) : px G call ow (n + 1) (nmI 20) ρ (.Assign [.Name (Str.ofString "part") p] e p1) = asF (isComp e) (swapOk (Str.ofString "part") p e) (pe G n call (nmI 20) ρ e) (Str.ofString "part") ρ := setL lk20_part ho
theorem n20x1 {G : Str → Option PV} {call : Calls} {n : Nat} {ρ : Loc} {p : Pos} : pe G (n + 1) call (nmI 20) ρ (.Name (Str.ofString "n") p) = lkv (Str.ofString "n") (ρ (Str.ofString "n")) := nameL (by kernel_rfl) (by kernel_rfl)
theorem s20x1 {G : Str → Option PV} {call : Calls} {ow : List Str} {n : Nat} {ρ : Loc} {p p1 : Pos} {e : Expr} (ho : ow.contains (Str.ofString "n") = false) : px G call ow (n + 1) (nmI 20) ρ (.Assign [.Name (Str.ofString "n") p] e p1) = asF (isComp e) (swapOk (Str.ofString "n") p e) (pe G n call (nmI 20) ρ e) (Str.ofString "n") ρ := setL lk20_n ho
theorem n20x2 {G : Str → Option PV} {call : Calls} {n : Nat} {ρ : Loc} {p : Pos} : pe G (n + 1) call (nmI 20) ρ (.Name (Str.ofString "mark") p) = lkv (Str.ofString "mark") (ρ (Str.ofString "mark")) := nameL (by kernel_rfl) (by kernel_rfl)
theorem s20x2 {G : Str → Option PV} {call : Calls} {ow : List Str} {n : Nat} {ρ : Loc} {p p1 : Pos} {e : Expr} (ho : ow.contains (Str.ofString "mark") = false) : px G call ow (n + 1) (nmI 20) ρ (.Assign [.Name (Str.ofString "mark") p] e p1) = asF (isComp e) (swapOk (Str.ofString "mark") p e) (pe G n call (nmI 20) ρ e) (Str.ofString "mark") ρ := setL lk20_mark ho
theorem n21x0 {G : Str → Option PV} {call : Calls} {n : Nat} {ρ : Loc} {p : Pos} : pe G (n + 1) call (nmI 21) ρ (.Name (Str.ofString "parts") p) = lkv (Str.ofString "parts") (ρ (Str.ofString "parts")) := nameL (by kernel_rfl) (by kernel_rfl)
theorem s21x0 {G : Str → Option PV} {call : Calls} {ow : List Str} {n : Nat} {ρ : Loc} {p p1 : Pos} {e : Expr} (ho : ow.contains (Str.ofString "parts") = false) : px G call ow (n + 1) (nmI 21) ρ (.Assign [.Name (Str.ofString "parts") p] e p1) = asF (isComp e) (swapOk (Str.ofString "parts") p e) (pe G n call (nmI 21) ρ e) (Str.ofString "parts") ρ := setL lk21_parts ho
theorem n21x1 {G : Str → Option PV} {call : Calls} {n : Nat} {ρ : Loc} {p : Pos} : pe G (n + 1) call (nmI 21) ρ (.Name (Str.ofString "row") p) = lkv (Str.ofString "row") (ρ (Str.ofString "row")) := nameL (by kernel_rfl) (by kernel_rfl)
theorem s21x1 {G : Str → Option PV} {call : Calls} {ow : List Str} {n : Nat} {ρ : Loc} {p p1 : Pos} {e : Expr} (ho : ow.contains (Str.ofString "row") = false) : px G call ow (n + 1) (nmI 21) ρ (.Assign [.Name (Str.ofString "row") p] e p1) = asF (isComp e) (swapOk (Str.ofString "row") p e) (pe G n call (nmI 21) ρ e) (Str.ofString "row") ρ := setL lk21_row ho
theorem n21x2 {G : Str → Option PV} {call : Calls} {n : Nat} {ρ : Loc} {p : Pos} : pe G (n + 1) call (nmI 21) ρ (.Name (Str.ofString "text") p) = lkv (Str.ofString "text") (ρ (Str.ofString "text")) := nameL (by kernel_rfl) (by kernel_rfl)
theorem s21x2 {G : Str → Option PV} {call : Calls} {ow : List Str} {n : Nat} {ρ : Loc} {p p1 : Pos} {e : Expr} (ho : ow.contains (Str.ofString "text") = false) : px G call ow (n + 1) (nmI 21) ρ (.Assign [.Name (Str.ofString "text") p] e p1) = asF (isComp e) (swapOk (Str.ofString "text") p e) (pe G n call (nmI 21) ρ e) (Str.ofString "text") ρ := setL lk21_text ho
theorem n21x3 {G : Str → Option PV} {call : Calls} {n : Nat} {ρ : Loc} {p : Pos} : pe G (n + 1) call (nmI 21) ρ (.Name (Str.ofString "joined") p) = lkv (Str.ofString "joined") (ρ (Str.ofString "joined")) := nameL (by kernel_rfl) (by kernel_rfl)
theorem s21x3 {G : Str → Option PV} {call : Calls} {ow : List Str} {n : Nat} {ρ : Loc} {p p1 : Pos} {e : Expr} (ho : ow.contains (Str.ofString "joined") = false) : px G call ow (n + 1) (nmI 21) ρ (.Assign [.Name (Str.ofString "joined") p] e p1) = asF (isComp e) (swapOk (Str.ofString "joined") p e) (pe G n call (nmI 21) ρ e) (Str.ofString "joined") ρ := setL lk21_joined ho
theorem n21x4 {G : Str → Option PV} {call : Calls} {n : Nat} {ρ : Loc} {p : Pos} : pe G (n + 1) call (nmI 21) ρ (.Name (Str.ofString "post") p) = lkv (Str.ofString "post") (ρ (Str.ofString "post")) := nameL (by kernel_rfl) (by kernel_rfl)
theorem s21x4 {G : Str → Option PV} {call : Calls} {ow : List Str} {n : Nat} {ρ : Loc} {p p1 : Pos} {e : Expr} (ho : ow.contains (Str.ofString "post") = false) : px G call ow (n + 1) (nmI 21) ρ (.Assign [.Name (Str.ofString "post") p] e p1) = asF (isComp e) (swapOk (Str.ofString "post") p e) (pe G n call (nmI 21) ρ e) (Str.ofString "post") ρ := setL lk21_post ho
theorem n21x5 {G : Str → Option PV} {call : Calls} {n : Nat} {ρ : Loc} {p : Pos} : pe G (n + 1) call (nmI 21) ρ (.Name (Str.ofString "k") p) = lkv (Str.ofString "k") (ρ (Str.ofString "k")) := nameL (by kernel_rfl) (by kernel_rfl)
theorem s21x5 {G : Str → Option PV} {call : Calls} {ow : List Str} {n : Nat} {ρ : Loc} {p p1 : Pos} {e : Expr} (ho : ow.contains (Str.ofString "k") = false) : px G call ow (n + 1) (nmI 21) ρ (.Assign [.Name (Str.ofString "k") p] e p1) = asF (isComp e) (swapOk (Str.ofString "k") p e) (pe G n call (nmI 21) ρ e) (Str.ofString "k") ρ := setL lk21_k ho
theorem n22x0 {G : Str → Option PV} {call : Calls} {n : Nat} {ρ : Loc} {p : Pos} : pe G (n + 1) call (nmI 22) ρ (.Name (Str.ofString "parts") p) = lkv (Str.ofString "parts") (ρ (Str.ofString "parts")) := nameL (by kernel_rfl) (by kernel_rfl)
theorem s22x0 {G : Str → Option PV} {call : Calls} {ow : List Str} {n : Nat} {ρ : Loc} {p p1 : Pos} {e : Expr} (ho : ow.contains (Str.ofString "parts") = false) : px G call ow (n + 1) (nmI 22) ρ (.Assign [.Name (Str.ofString "parts") p] e p1) = asF (isComp e) (swapOk (Str.ofString "parts") p e) (pe G n call (nmI 22) ρ e) (Str.ofString "parts") ρ := setL lk22_parts ho
theorem n22x1 {G : Str → Option PV} {call : Calls} {n : Nat} {ρ : Loc} {p : Pos} : pe G (n + 1) call (nmI 22) ρ (.Name (Str.ofString "shape") p) = lkv (Str.ofString "shape") (ρ (Str.ofString "shape")) := nameL (by kernel_rfl) (by kernel_rfl)
theorem s22x1 {G : Str → Option PV} {call : Calls} {ow : List Str} {n : Nat} {ρ : Loc} {p p1 : Pos} {e : Expr} (ho : ow.contains (Str.ofString "shape") = false) : px G call ow (n + 1) (nmI 22) ρ (.Assign [.Name (Str.ofString "shape") p] e p1) = asF (isComp e) (swapOk (Str.ofString "shape") p e) (pe G n call (nmI 22) ρ e) (Str.ofString "shape") ρ := setL lk22_shape ho
theorem n22x2 {G : Str → Option PV} {call : Calls} {n : Nat} {ρ : Loc} {p : Pos} : pe G (n + 1) call (nmI 22) ρ (.Name (Str.ofString "text") p) = lkv (Str.ofString "text") (ρ (Str.ofString "text")) := nameL (by kernel_rfl) (by kernel_rfl)
theorem s22x2 {G : Str → Option PV} {call : Calls} {ow : List Str} {n : Nat} {ρ : Loc} {p p1 : Pos} {e : Expr} (ho : ow.contains (Str.ofString "text") = false) : px G call ow (n + 1) (nmI 22) ρ (.Assign [.Name (Str.ofString "text") p] e p1) = asF (isComp e) (swapOk (Str.ofString "text") p e) (pe G n call (nmI 22) ρ e) (Str.ofString "text") ρ := setL lk22_text ho
theorem n22x3 {G : Str → Option PV} {call : Calls} {n : Nat} {ρ : Loc} {p : Pos} : pe G (n + 1) call (nmI 22) ρ (.Name (Str.ofString "joined") p) = lkv (Str.ofString "joined") (ρ (Str.ofString "joined")) := nameL (by kernel_rfl) (by kernel_rfl)
theorem s22x3 {G : Str → Option PV} {call : Calls} {ow : List Str} {n : Nat} {ρ : Loc} {p p1 : Pos} {e : Expr} (ho : ow.contains (Str.ofString "joined") = false) : px G call ow (n + 1) (nmI 22) ρ (.Assign [.Name (Str.ofString "joined") p] e p1) = asF (isComp e) (swapOk (Str.ofString "joined") p e) (pe G n call (nmI 22) ρ e) (Str.ofString "joined") ρ := setL lk22_joined ho
theorem n22x4 {G : Str → Option PV} {call : Calls} {n : Nat} {ρ : Loc} {p : Pos} : pe G (n + 1) call (nmI 22) ρ (.Name (Str.ofString "post") p) = lkv (Str.ofString "post") (ρ (Str.ofString "post")) := nameL (by kernel_rfl) (by kernel_rfl)
theorem s22x4 {G : Str → Option PV} {call : Calls} {ow : List Str} {n : Nat} {ρ : Loc} {p p1 : Pos} {e : Expr} (ho : ow.contains (Str.ofString "post") = false) : px G call ow (n + 1) (nmI 22) ρ (.Assign [.Name (Str.ofString "post") p] e p1) = asF (isComp e) (swapOk (Str.ofString "post") p e) (pe G n call (nmI 22) ρ e) (Str.ofString "post") ρ := setL lk22_post ho
theorem n22x5 {G : Str → Option PV} {call : Calls} {n : Nat} {ρ : Loc} {p : Pos} : pe G (n + 1) call (nmI 22) ρ (.Name (Str.ofString "row") p) = lkv (Str.ofString "row") (ρ (Str.ofString "row")) := nameL (by kernel_rfl) (by kernel_rfl)
theorem s22x5 {G : Str → Option PV} {call : Calls} {ow : List Str} {n : Nat} {ρ : Loc} {p p1 : Pos} {e : Expr} (ho : ow.contains (Str.ofString "row") = false) : px G call ow (n + 1) (nmI 22) ρ (.Assign [.Name (Str.ofString "row") p] e p1) = asF (isComp e) (swapOk (Str.ofString "row") p e) (pe G n call (nmI 22) ρ e) (Str.ofString "row") ρ := setL lk22_row ho
theorem n22x6 {G : Str → Option PV} {call : Calls} {n : Nat} {ρ : Loc} {p : Pos} : pe G (n + 1) call (nmI 22) ρ (.Name (Str.ofString "more") p) = lkv (Str.ofString "more") (ρ (Str.ofString "more")) := nameL (by kernel_rfl) (by kernel_rfl)
theorem s22x6 {G : Str → Option PV} {call : Calls} {ow : List Str} {n : Nat} {ρ : Loc} {p p1 : Pos} {e : Expr} (ho : ow.contains (Str.ofString "more") = false) : px G call ow (n + 1) (nmI 22) ρ (.Assign [.Name (Str.ofString "more") p] e p1) = asF (isComp e) (swapOk (Str.ofString "more") p e) (pe G n call (nmI 22) ρ e) (Str.ofString "more") ρ := setL lk22_more ho
theorem c22x7 {G : Str → Option PV} {call : Calls} {n : Nat} {ρ : Loc} {p p1 : Pos} {e : Expr} {args : List Expr} : pe G (n + 2) call (nmI 22) ρ (.Call (.Name (Str.ofString "_law_row") p) (e :: args) [] p1) = bd (evs (pe G n call (nmI 22) ρ) (e :: args)) (callOn call (Str.ofString "_law_row")) := callG lk22_law_row fo9
theorem n23x0 {G : Str → Option PV} {call : Calls} {n : Nat} {ρ : Loc} {p : Pos} : pe G (n + 1) call (nmI 23) ρ (.Name (Str.ofString "text") p) = lkv (Str.ofString "text") (ρ (Str.ofString "text")) := nameL (by kernel_rfl) (by kernel_rfl)
theorem s23x0 {G : Str → Option PV} {call : Calls} {ow : List Str} {n : Nat} {ρ : Loc} {p p1 : Pos} {e : Expr} (ho : ow.contains (Str.ofString "text") = false) : px G call ow (n + 1) (nmI 23) ρ (.Assign [.Name (Str.ofString "text") p] e p1) = asF (isComp e) (swapOk (Str.ofString "text") p e) (pe G n call (nmI 23) ρ e) (Str.ofString "text") ρ := setL lk23_text ho
theorem n23x1 {G : Str → Option PV} {call : Calls} {n : Nat} {ρ : Loc} {p : Pos} : pe G (n + 1) call (nmI 23) ρ (.Name (Str.ofString "i") p) = lkv (Str.ofString "i") (ρ (Str.ofString "i")) := nameL (by kernel_rfl) (by kernel_rfl)
theorem s23x1 {G : Str → Option PV} {call : Calls} {ow : List Str} {n : Nat} {ρ : Loc} {p p1 : Pos} {e : Expr} (ho : ow.contains (Str.ofString "i") = false) : px G call ow (n + 1) (nmI 23) ρ (.Assign [.Name (Str.ofString "i") p] e p1) = asF (isComp e) (swapOk (Str.ofString "i") p e) (pe G n call (nmI 23) ρ e) (Str.ofString "i") ρ := setL lk23_i ho
theorem n23x2 {G : Str → Option PV} {call : Calls} {n : Nat} {ρ : Loc} {p : Pos} : pe G (n + 1) call (nmI 23) ρ (.Name (Str.ofString "depth") p) = lkv (Str.ofString "depth") (ρ (Str.ofString "depth")) := nameL (by kernel_rfl) (by kernel_rfl)
theorem s23x2 {G : Str → Option PV} {call : Calls} {ow : List Str} {n : Nat} {ρ : Loc} {p p1 : Pos} {e : Expr} (ho : ow.contains (Str.ofString "depth") = false) : px G call ow (n + 1) (nmI 23) ρ (.Assign [.Name (Str.ofString "depth") p] e p1) = asF (isComp e) (swapOk (Str.ofString "depth") p e) (pe G n call (nmI 23) ρ e) (Str.ofString "depth") ρ := setL lk23_depth ho
theorem n23x3 {G : Str → Option PV} {call : Calls} {n : Nat} {ρ : Loc} {p : Pos} : pe G (n + 1) call (nmI 23) ρ (.Name (Str.ofString "c") p) = lkv (Str.ofString "c") (ρ (Str.ofString "c")) := nameL (by kernel_rfl) (by kernel_rfl)
theorem s23x3 {G : Str → Option PV} {call : Calls} {ow : List Str} {n : Nat} {ρ : Loc} {p p1 : Pos} {e : Expr} (ho : ow.contains (Str.ofString "c") = false) : px G call ow (n + 1) (nmI 23) ρ (.Assign [.Name (Str.ofString "c") p] e p1) = asF (isComp e) (swapOk (Str.ofString "c") p e) (pe G n call (nmI 23) ρ e) (Str.ofString "c") ρ := setL lk23_c ho
theorem n23x4 {G : Str → Option PV} {call : Calls} {n : Nat} {ρ : Loc} {p : Pos} : pe G (n + 1) call (nmI 23) ρ (.Name (Str.ofString "before") p) = lkv (Str.ofString "before") (ρ (Str.ofString "before")) := nameL (by kernel_rfl) (by kernel_rfl)
theorem s23x4 {G : Str → Option PV} {call : Calls} {ow : List Str} {n : Nat} {ρ : Loc} {p p1 : Pos} {e : Expr} (ho : ow.contains (Str.ofString "before") = false) : px G call ow (n + 1) (nmI 23) ρ (.Assign [.Name (Str.ofString "before") p] e p1) = asF (isComp e) (swapOk (Str.ofString "before") p e) (pe G n call (nmI 23) ρ e) (Str.ofString "before") ρ := setL lk23_before ho
theorem n24x0 {G : Str → Option PV} {call : Calls} {n : Nat} {ρ : Loc} {p : Pos} : pe G (n + 1) call (nmI 24) ρ (.Name (Str.ofString "kind") p) = lkv (Str.ofString "kind") (ρ (Str.ofString "kind")) := nameL (by kernel_rfl) (by kernel_rfl)
theorem s24x0 {G : Str → Option PV} {call : Calls} {ow : List Str} {n : Nat} {ρ : Loc} {p p1 : Pos} {e : Expr} (ho : ow.contains (Str.ofString "kind") = false) : px G call ow (n + 1) (nmI 24) ρ (.Assign [.Name (Str.ofString "kind") p] e p1) = asF (isComp e) (swapOk (Str.ofString "kind") p e) (pe G n call (nmI 24) ρ e) (Str.ofString "kind") ρ := setL lk24_kind ho
theorem n24x1 {G : Str → Option PV} {call : Calls} {n : Nat} {ρ : Loc} {p : Pos} : pe G (n + 1) call (nmI 24) ρ (.Name (Str.ofString "side") p) = lkv (Str.ofString "side") (ρ (Str.ofString "side")) := nameL (by kernel_rfl) (by kernel_rfl)
theorem s24x1 {G : Str → Option PV} {call : Calls} {ow : List Str} {n : Nat} {ρ : Loc} {p p1 : Pos} {e : Expr} (ho : ow.contains (Str.ofString "side") = false) : px G call ow (n + 1) (nmI 24) ρ (.Assign [.Name (Str.ofString "side") p] e p1) = asF (isComp e) (swapOk (Str.ofString "side") p e) (pe G n call (nmI 24) ρ e) (Str.ofString "side") ρ := setL lk24_side ho
theorem n25x0 {G : Str → Option PV} {call : Calls} {n : Nat} {ρ : Loc} {p : Pos} : pe G (n + 1) call (nmI 25) ρ (.Name (Str.ofString "items") p) = lkv (Str.ofString "items") (ρ (Str.ofString "items")) := nameL (by kernel_rfl) (by kernel_rfl)
theorem s25x0 {G : Str → Option PV} {call : Calls} {ow : List Str} {n : Nat} {ρ : Loc} {p p1 : Pos} {e : Expr} (ho : ow.contains (Str.ofString "items") = false) : px G call ow (n + 1) (nmI 25) ρ (.Assign [.Name (Str.ofString "items") p] e p1) = asF (isComp e) (swapOk (Str.ofString "items") p e) (pe G n call (nmI 25) ρ e) (Str.ofString "items") ρ := setL lk25_items ho
theorem n25x1 {G : Str → Option PV} {call : Calls} {n : Nat} {ρ : Loc} {p : Pos} : pe G (n + 1) call (nmI 25) ρ (.Name (Str.ofString "spot") p) = lkv (Str.ofString "spot") (ρ (Str.ofString "spot")) := nameL (by kernel_rfl) (by kernel_rfl)
theorem s25x1 {G : Str → Option PV} {call : Calls} {ow : List Str} {n : Nat} {ρ : Loc} {p p1 : Pos} {e : Expr} (ho : ow.contains (Str.ofString "spot") = false) : px G call ow (n + 1) (nmI 25) ρ (.Assign [.Name (Str.ofString "spot") p] e p1) = asF (isComp e) (swapOk (Str.ofString "spot") p e) (pe G n call (nmI 25) ρ e) (Str.ofString "spot") ρ := setL lk25_spot ho
theorem n25x2 {G : Str → Option PV} {call : Calls} {n : Nat} {ρ : Loc} {p : Pos} : pe G (n + 1) call (nmI 25) ρ (.Name (Str.ofString "side") p) = lkv (Str.ofString "side") (ρ (Str.ofString "side")) := nameL (by kernel_rfl) (by kernel_rfl)
theorem s25x2 {G : Str → Option PV} {call : Calls} {ow : List Str} {n : Nat} {ρ : Loc} {p p1 : Pos} {e : Expr} (ho : ow.contains (Str.ofString "side") = false) : px G call ow (n + 1) (nmI 25) ρ (.Assign [.Name (Str.ofString "side") p] e p1) = asF (isComp e) (swapOk (Str.ofString "side") p e) (pe G n call (nmI 25) ρ e) (Str.ofString "side") ρ := setL lk25_side ho
theorem n26x0 {G : Str → Option PV} {call : Calls} {n : Nat} {ρ : Loc} {p : Pos} : pe G (n + 1) call (nmI 26) ρ (.Name (Str.ofString "text") p) = lkv (Str.ofString "text") (ρ (Str.ofString "text")) := nameL (by kernel_rfl) (by kernel_rfl)
theorem s26x0 {G : Str → Option PV} {call : Calls} {ow : List Str} {n : Nat} {ρ : Loc} {p p1 : Pos} {e : Expr} (ho : ow.contains (Str.ofString "text") = false) : px G call ow (n + 1) (nmI 26) ρ (.Assign [.Name (Str.ofString "text") p] e p1) = asF (isComp e) (swapOk (Str.ofString "text") p e) (pe G n call (nmI 26) ρ e) (Str.ofString "text") ρ := setL lk26_text ho
theorem n26x1 {G : Str → Option PV} {call : Calls} {n : Nat} {ρ : Loc} {p : Pos} : pe G (n + 1) call (nmI 26) ρ (.Name (Str.ofString "got") p) = lkv (Str.ofString "got") (ρ (Str.ofString "got")) := nameL (by kernel_rfl) (by kernel_rfl)
theorem s26x1 {G : Str → Option PV} {call : Calls} {ow : List Str} {n : Nat} {ρ : Loc} {p p1 : Pos} {e : Expr} (ho : ow.contains (Str.ofString "got") = false) : px G call ow (n + 1) (nmI 26) ρ (.Assign [.Name (Str.ofString "got") p] e p1) = asF (isComp e) (swapOk (Str.ofString "got") p e) (pe G n call (nmI 26) ρ e) (Str.ofString "got") ρ := setL lk26_got ho
theorem n26x2 {G : Str → Option PV} {call : Calls} {n : Nat} {ρ : Loc} {p : Pos} : pe G (n + 1) call (nmI 26) ρ (.Name (Str.ofString "why") p) = lkv (Str.ofString "why") (ρ (Str.ofString "why")) := nameL (by kernel_rfl) (by kernel_rfl)
theorem s26x2 {G : Str → Option PV} {call : Calls} {ow : List Str} {n : Nat} {ρ : Loc} {p p1 : Pos} {e : Expr} (ho : ow.contains (Str.ofString "why") = false) : px G call ow (n + 1) (nmI 26) ρ (.Assign [.Name (Str.ofString "why") p] e p1) = asF (isComp e) (swapOk (Str.ofString "why") p e) (pe G n call (nmI 26) ρ e) (Str.ofString "why") ρ := setL lk26_why ho
theorem n26x3 {G : Str → Option PV} {call : Calls} {n : Nat} {ρ : Loc} {p : Pos} : pe G (n + 1) call (nmI 26) ρ (.Name (Str.ofString "err") p) = lkv (Str.ofString "err") (ρ (Str.ofString "err")) := nameL (by kernel_rfl) (by kernel_rfl)
theorem s26x3 {G : Str → Option PV} {call : Calls} {ow : List Str} {n : Nat} {ρ : Loc} {p p1 : Pos} {e : Expr} (ho : ow.contains (Str.ofString "err") = false) : px G call ow (n + 1) (nmI 26) ρ (.Assign [.Name (Str.ofString "err") p] e p1) = asF (isComp e) (swapOk (Str.ofString "err") p e) (pe G n call (nmI 26) ρ e) (Str.ofString "err") ρ := setL lk26_err ho
theorem c26x4 {G : Str → Option PV} {call : Calls} {n : Nat} {ρ : Loc} {p p1 : Pos} {e : Expr} {args : List Expr} : pe G (n + 2) call (nmI 26) ρ (.Call (.Name (Str.ofString "compile_pattern") p) (e :: args) [] p1) = bd (evs (pe G n call (nmI 26) ρ) (e :: args)) (callOn call (Str.ofString "compile_pattern")) := callG lk26_compile_pattern fo6
theorem n27x0 {G : Str → Option PV} {call : Calls} {n : Nat} {ρ : Loc} {p : Pos} : pe G (n + 1) call (nmI 27) ρ (.Name (Str.ofString "tokens") p) = lkv (Str.ofString "tokens") (ρ (Str.ofString "tokens")) := nameL (by kernel_rfl) (by kernel_rfl)
theorem s27x0 {G : Str → Option PV} {call : Calls} {ow : List Str} {n : Nat} {ρ : Loc} {p p1 : Pos} {e : Expr} (ho : ow.contains (Str.ofString "tokens") = false) : px G call ow (n + 1) (nmI 27) ρ (.Assign [.Name (Str.ofString "tokens") p] e p1) = asF (isComp e) (swapOk (Str.ofString "tokens") p e) (pe G n call (nmI 27) ρ e) (Str.ofString "tokens") ρ := setL lk27_tokens ho
theorem n27x1 {G : Str → Option PV} {call : Calls} {n : Nat} {ρ : Loc} {p : Pos} : pe G (n + 1) call (nmI 27) ρ (.Name (Str.ofString "got") p) = lkv (Str.ofString "got") (ρ (Str.ofString "got")) := nameL (by kernel_rfl) (by kernel_rfl)
theorem s27x1 {G : Str → Option PV} {call : Calls} {ow : List Str} {n : Nat} {ρ : Loc} {p p1 : Pos} {e : Expr} (ho : ow.contains (Str.ofString "got") = false) : px G call ow (n + 1) (nmI 27) ρ (.Assign [.Name (Str.ofString "got") p] e p1) = asF (isComp e) (swapOk (Str.ofString "got") p e) (pe G n call (nmI 27) ρ e) (Str.ofString "got") ρ := setL lk27_got ho
theorem n27x2 {G : Str → Option PV} {call : Calls} {n : Nat} {ρ : Loc} {p : Pos} : pe G (n + 1) call (nmI 27) ρ (.Name (Str.ofString "why") p) = lkv (Str.ofString "why") (ρ (Str.ofString "why")) := nameL (by kernel_rfl) (by kernel_rfl)
theorem s27x2 {G : Str → Option PV} {call : Calls} {ow : List Str} {n : Nat} {ρ : Loc} {p p1 : Pos} {e : Expr} (ho : ow.contains (Str.ofString "why") = false) : px G call ow (n + 1) (nmI 27) ρ (.Assign [.Name (Str.ofString "why") p] e p1) = asF (isComp e) (swapOk (Str.ofString "why") p e) (pe G n call (nmI 27) ρ e) (Str.ofString "why") ρ := setL lk27_why ho
theorem n27x3 {G : Str → Option PV} {call : Calls} {n : Nat} {ρ : Loc} {p : Pos} : pe G (n + 1) call (nmI 27) ρ (.Name (Str.ofString "err") p) = lkv (Str.ofString "err") (ρ (Str.ofString "err")) := nameL (by kernel_rfl) (by kernel_rfl)
theorem s27x3 {G : Str → Option PV} {call : Calls} {ow : List Str} {n : Nat} {ρ : Loc} {p p1 : Pos} {e : Expr} (ho : ow.contains (Str.ofString "err") = false) : px G call ow (n + 1) (nmI 27) ρ (.Assign [.Name (Str.ofString "err") p] e p1) = asF (isComp e) (swapOk (Str.ofString "err") p e) (pe G n call (nmI 27) ρ e) (Str.ofString "err") ρ := setL lk27_err ho
theorem c27x4 {G : Str → Option PV} {call : Calls} {n : Nat} {ρ : Loc} {p p1 : Pos} {e : Expr} {args : List Expr} : pe G (n + 2) call (nmI 27) ρ (.Call (.Name (Str.ofString "to_postfix") p) (e :: args) [] p1) = bd (evs (pe G n call (nmI 27) ρ) (e :: args)) (callOn call (Str.ofString "to_postfix")) := callG lk27_to_postfix fo3
theorem n28x0 {G : Str → Option PV} {call : Calls} {n : Nat} {ρ : Loc} {p : Pos} : pe G (n + 1) call (nmI 28) ρ (.Name (Str.ofString "script") p) = lkv (Str.ofString "script") (ρ (Str.ofString "script")) := nameL (by kernel_rfl) (by kernel_rfl)
theorem s28x0 {G : Str → Option PV} {call : Calls} {ow : List Str} {n : Nat} {ρ : Loc} {p p1 : Pos} {e : Expr} (ho : ow.contains (Str.ofString "script") = false) : px G call ow (n + 1) (nmI 28) ρ (.Assign [.Name (Str.ofString "script") p] e p1) = asF (isComp e) (swapOk (Str.ofString "script") p e) (pe G n call (nmI 28) ρ e) (Str.ofString "script") ρ := setL lk28_script ho
theorem n28x1 {G : Str → Option PV} {call : Calls} {n : Nat} {ρ : Loc} {p : Pos} : pe G (n + 1) call (nmI 28) ρ (.Name (Str.ofString "one") p) = lkv (Str.ofString "one") (ρ (Str.ofString "one")) := nameL (by kernel_rfl) (by kernel_rfl)
theorem s28x1 {G : Str → Option PV} {call : Calls} {ow : List Str} {n : Nat} {ρ : Loc} {p p1 : Pos} {e : Expr} (ho : ow.contains (Str.ofString "one") = false) : px G call ow (n + 1) (nmI 28) ρ (.Assign [.Name (Str.ofString "one") p] e p1) = asF (isComp e) (swapOk (Str.ofString "one") p e) (pe G n call (nmI 28) ρ e) (Str.ofString "one") ρ := setL lk28_one ho
theorem n28x2 {G : Str → Option PV} {call : Calls} {n : Nat} {ρ : Loc} {p : Pos} : pe G (n + 1) call (nmI 28) ρ (.Name (Str.ofString "two") p) = lkv (Str.ofString "two") (ρ (Str.ofString "two")) := nameL (by kernel_rfl) (by kernel_rfl)
theorem s28x2 {G : Str → Option PV} {call : Calls} {ow : List Str} {n : Nat} {ρ : Loc} {p p1 : Pos} {e : Expr} (ho : ow.contains (Str.ofString "two") = false) : px G call ow (n + 1) (nmI 28) ρ (.Assign [.Name (Str.ofString "two") p] e p1) = asF (isComp e) (swapOk (Str.ofString "two") p e) (pe G n call (nmI 28) ρ e) (Str.ofString "two") ρ := setL lk28_two ho
theorem n28x3 {G : Str → Option PV} {call : Calls} {n : Nat} {ρ : Loc} {p : Pos} : pe G (n + 1) call (nmI 28) ρ (.Name (Str.ofString "inner") p) = lkv (Str.ofString "inner") (ρ (Str.ofString "inner")) := nameL (by kernel_rfl) (by kernel_rfl)
theorem s28x3 {G : Str → Option PV} {call : Calls} {ow : List Str} {n : Nat} {ρ : Loc} {p p1 : Pos} {e : Expr} (ho : ow.contains (Str.ofString "inner") = false) : px G call ow (n + 1) (nmI 28) ρ (.Assign [.Name (Str.ofString "inner") p] e p1) = asF (isComp e) (swapOk (Str.ofString "inner") p e) (pe G n call (nmI 28) ρ e) (Str.ofString "inner") ρ := setL lk28_inner ho
theorem n28x4 {G : Str → Option PV} {call : Calls} {n : Nat} {ρ : Loc} {p : Pos} : pe G (n + 1) call (nmI 28) ρ (.Name (Str.ofString "group") p) = lkv (Str.ofString "group") (ρ (Str.ofString "group")) := nameL (by kernel_rfl) (by kernel_rfl)
theorem s28x4 {G : Str → Option PV} {call : Calls} {ow : List Str} {n : Nat} {ρ : Loc} {p p1 : Pos} {e : Expr} (ho : ow.contains (Str.ofString "group") = false) : px G call ow (n + 1) (nmI 28) ρ (.Assign [.Name (Str.ofString "group") p] e p1) = asF (isComp e) (swapOk (Str.ofString "group") p e) (pe G n call (nmI 28) ρ e) (Str.ofString "group") ρ := setL lk28_group ho
theorem n28x5 {G : Str → Option PV} {call : Calls} {n : Nat} {ρ : Loc} {p : Pos} : pe G (n + 1) call (nmI 28) ρ (.Name (Str.ofString "four") p) = lkv (Str.ofString "four") (ρ (Str.ofString "four")) := nameL (by kernel_rfl) (by kernel_rfl)
theorem s28x5 {G : Str → Option PV} {call : Calls} {ow : List Str} {n : Nat} {ρ : Loc} {p p1 : Pos} {e : Expr} (ho : ow.contains (Str.ofString "four") = false) : px G call ow (n + 1) (nmI 28) ρ (.Assign [.Name (Str.ofString "four") p] e p1) = asF (isComp e) (swapOk (Str.ofString "four") p e) (pe G n call (nmI 28) ρ e) (Str.ofString "four") ρ := setL lk28_four ho
theorem n28x6 {G : Str → Option PV} {call : Calls} {n : Nat} {ρ : Loc} {p : Pos} : pe G (n + 1) call (nmI 28) ρ (.Name (Str.ofString "parts") p) = lkv (Str.ofString "parts") (ρ (Str.ofString "parts")) := nameL (by kernel_rfl) (by kernel_rfl)
theorem s28x6 {G : Str → Option PV} {call : Calls} {ow : List Str} {n : Nat} {ρ : Loc} {p p1 : Pos} {e : Expr} (ho : ow.contains (Str.ofString "parts") = false) : px G call ow (n + 1) (nmI 28) ρ (.Assign [.Name (Str.ofString "parts") p] e p1) = asF (isComp e) (swapOk (Str.ofString "parts") p e) (pe G n call (nmI 28) ρ e) (Str.ofString "parts") ρ := setL lk28_parts ho
theorem n28x7 {G : Str → Option PV} {call : Calls} {n : Nat} {ρ : Loc} {p : Pos} : pe G (n + 1) call (nmI 28) ρ (.Name (Str.ofString "text") p) = lkv (Str.ofString "text") (ρ (Str.ofString "text")) := nameL (by kernel_rfl) (by kernel_rfl)
theorem s28x7 {G : Str → Option PV} {call : Calls} {ow : List Str} {n : Nat} {ρ : Loc} {p p1 : Pos} {e : Expr} (ho : ow.contains (Str.ofString "text") = false) : px G call ow (n + 1) (nmI 28) ρ (.Assign [.Name (Str.ofString "text") p] e p1) = asF (isComp e) (swapOk (Str.ofString "text") p e) (pe G n call (nmI 28) ρ e) (Str.ofString "text") ρ := setL lk28_text ho
theorem n28x8 {G : Str → Option PV} {call : Calls} {n : Nat} {ρ : Loc} {p : Pos} : pe G (n + 1) call (nmI 28) ρ (.Name (Str.ofString "joined") p) = lkv (Str.ofString "joined") (ρ (Str.ofString "joined")) := nameL (by kernel_rfl) (by kernel_rfl)
theorem s28x8 {G : Str → Option PV} {call : Calls} {ow : List Str} {n : Nat} {ρ : Loc} {p p1 : Pos} {e : Expr} (ho : ow.contains (Str.ofString "joined") = false) : px G call ow (n + 1) (nmI 28) ρ (.Assign [.Name (Str.ofString "joined") p] e p1) = asF (isComp e) (swapOk (Str.ofString "joined") p e) (pe G n call (nmI 28) ρ e) (Str.ofString "joined") ρ := setL lk28_joined ho
theorem n28x9 {G : Str → Option PV} {call : Calls} {n : Nat} {ρ : Loc} {p : Pos} : pe G (n + 1) call (nmI 28) ρ (.Name (Str.ofString "post") p) = lkv (Str.ofString "post") (ρ (Str.ofString "post")) := nameL (by kernel_rfl) (by kernel_rfl)
theorem s28x9 {G : Str → Option PV} {call : Calls} {ow : List Str} {n : Nat} {ρ : Loc} {p p1 : Pos} {e : Expr} (ho : ow.contains (Str.ofString "post") = false) : px G call ow (n + 1) (nmI 28) ρ (.Assign [.Name (Str.ofString "post") p] e p1) = asF (isComp e) false (pe G n call (nmI 28) ρ e) (Str.ofString "post") ρ := setC lk28_post ho
theorem n28x10 {G : Str → Option PV} {call : Calls} {n : Nat} {ρ : Loc} {p : Pos} : pe G (n + 1) call (nmI 28) ρ (.Name (Str.ofString "at") p) = lkv (Str.ofString "at") (ρ (Str.ofString "at")) := nameL (by kernel_rfl) (by kernel_rfl)
theorem s28x10 {G : Str → Option PV} {call : Calls} {ow : List Str} {n : Nat} {ρ : Loc} {p p1 : Pos} {e : Expr} (ho : ow.contains (Str.ofString "at") = false) : px G call ow (n + 1) (nmI 28) ρ (.Assign [.Name (Str.ofString "at") p] e p1) = asF (isComp e) (swapOk (Str.ofString "at") p e) (pe G n call (nmI 28) ρ e) (Str.ofString "at") ρ := setL lk28_at ho
theorem n28x11 {G : Str → Option PV} {call : Calls} {n : Nat} {ρ : Loc} {p : Pos} : pe G (n + 1) call (nmI 28) ρ (.Name (Str.ofString "spoiled") p) = lkv (Str.ofString "spoiled") (ρ (Str.ofString "spoiled")) := nameL (by kernel_rfl) (by kernel_rfl)
theorem s28x11 {G : Str → Option PV} {call : Calls} {ow : List Str} {n : Nat} {ρ : Loc} {p p1 : Pos} {e : Expr} (ho : ow.contains (Str.ofString "spoiled") = false) : px G call ow (n + 1) (nmI 28) ρ (.Assign [.Name (Str.ofString "spoiled") p] e p1) = asF (isComp e) (swapOk (Str.ofString "spoiled") p e) (pe G n call (nmI 28) ρ e) (Str.ofString "spoiled") ρ := setL lk28_spoiled ho
theorem n28x12 {G : Str → Option PV} {call : Calls} {n : Nat} {ρ : Loc} {p : Pos} : pe G (n + 1) call (nmI 28) ρ (.Name (Str.ofString "due") p) = lkv (Str.ofString "due") (ρ (Str.ofString "due")) := nameL (by kernel_rfl) (by kernel_rfl)
theorem s28x12 {G : Str → Option PV} {call : Calls} {ow : List Str} {n : Nat} {ρ : Loc} {p p1 : Pos} {e : Expr} (ho : ow.contains (Str.ofString "due") = false) : px G call ow (n + 1) (nmI 28) ρ (.Assign [.Name (Str.ofString "due") p] e p1) = asF (isComp e) (swapOk (Str.ofString "due") p e) (pe G n call (nmI 28) ρ e) (Str.ofString "due") ρ := setL lk28_due ho
theorem n28x13 {G : Str → Option PV} {call : Calls} {n : Nat} {ρ : Loc} {p : Pos} : pe G (n + 1) call (nmI 28) ρ (.Name (Str.ofString "got") p) = lkv (Str.ofString "got") (ρ (Str.ofString "got")) := nameL (by kernel_rfl) (by kernel_rfl)
theorem s28x13 {G : Str → Option PV} {call : Calls} {ow : List Str} {n : Nat} {ρ : Loc} {p p1 : Pos} {e : Expr} (ho : ow.contains (Str.ofString "got") = false) : px G call ow (n + 1) (nmI 28) ρ (.Assign [.Name (Str.ofString "got") p] e p1) = asF (isComp e) (swapOk (Str.ofString "got") p e) (pe G n call (nmI 28) ρ e) (Str.ofString "got") ρ := setL lk28_got ho
theorem n28x14 {G : Str → Option PV} {call : Calls} {n : Nat} {ρ : Loc} {p : Pos} : pe G (n + 1) call (nmI 28) ρ (.Name (Str.ofString "why") p) = lkv (Str.ofString "why") (ρ (Str.ofString "why")) := nameL (by kernel_rfl) (by kernel_rfl)
theorem s28x14 {G : Str → Option PV} {call : Calls} {ow : List Str} {n : Nat} {ρ : Loc} {p p1 : Pos} {e : Expr} (ho : ow.contains (Str.ofString "why") = false) : px G call ow (n + 1) (nmI 28) ρ (.Assign [.Name (Str.ofString "why") p] e p1) = asF (isComp e) (swapOk (Str.ofString "why") p e) (pe G n call (nmI 28) ρ e) (Str.ofString "why") ρ := setL lk28_why ho
theorem n28x15 {G : Str → Option PV} {call : Calls} {n : Nat} {ρ : Loc} {p : Pos} : pe G (n + 1) call (nmI 28) ρ (.Name (Str.ofString "tokens") p) = lkv (Str.ofString "tokens") (ρ (Str.ofString "tokens")) := nameL (by kernel_rfl) (by kernel_rfl)
theorem s28x15 {G : Str → Option PV} {call : Calls} {ow : List Str} {n : Nat} {ρ : Loc} {p p1 : Pos} {e : Expr} (ho : ow.contains (Str.ofString "tokens") = false) : px G call ow (n + 1) (nmI 28) ρ (.Assign [.Name (Str.ofString "tokens") p] e p1) = asF (isComp e) (swapOk (Str.ofString "tokens") p e) (pe G n call (nmI 28) ρ e) (Str.ofString "tokens") ρ := setL lk28_tokens ho
theorem n28x16 {G : Str → Option PV} {call : Calls} {n : Nat} {ρ : Loc} {p : Pos} : pe G (n + 1) call (nmI 28) ρ (.Name (Str.ofString "kept") p) = lkv (Str.ofString "kept") (ρ (Str.ofString "kept")) := nameL (by kernel_rfl) (by kernel_rfl)
theorem s28x16 {G : Str → Option PV} {call : Calls} {ow : List Str} {n : Nat} {ρ : Loc} {p p1 : Pos} {e : Expr} (ho : ow.contains (Str.ofString "kept") = false) : px G call ow (n + 1) (nmI 28) ρ (.Assign [.Name (Str.ofString "kept") p] e p1) = asF (isComp e) (swapOk (Str.ofString "kept") p e) (pe G n call (nmI 28) ρ e) (Str.ofString "kept") ρ := setL lk28_kept ho
theorem n28x17 {G : Str → Option PV} {call : Calls} {n : Nat} {ρ : Loc} {p : Pos} : pe G (n + 1) call (nmI 28) ρ (.Name (Str.ofString "spot") p) = lkv (Str.ofString "spot") (ρ (Str.ofString "spot")) := nameL (by kernel_rfl) (by kernel_rfl)
theorem s28x17 {G : Str → Option PV} {call : Calls} {ow : List Str} {n : Nat} {ρ : Loc} {p p1 : Pos} {e : Expr} (ho : ow.contains (Str.ofString "spot") = false) : px G call ow (n + 1) (nmI 28) ρ (.Assign [.Name (Str.ofString "spot") p] e p1) = asF (isComp e) (swapOk (Str.ofString "spot") p e) (pe G n call (nmI 28) ρ e) (Str.ofString "spot") ρ := setL lk28_spot ho
theorem n28x18 {G : Str → Option PV} {call : Calls} {n : Nat} {ρ : Loc} {p : Pos} : pe G (n + 1) call (nmI 28) ρ (.Name (Str.ofString "side") p) = lkv (Str.ofString "side") (ρ (Str.ofString "side")) := nameL (by kernel_rfl) (by kernel_rfl)
theorem s28x18 {G : Str → Option PV} {call : Calls} {ow : List Str} {n : Nat} {ρ : Loc} {p p1 : Pos} {e : Expr} (ho : ow.contains (Str.ofString "side") = false) : px G call ow (n + 1) (nmI 28) ρ (.Assign [.Name (Str.ofString "side") p] e p1) = asF (isComp e) (swapOk (Str.ofString "side") p e) (pe G n call (nmI 28) ρ e) (Str.ofString "side") ρ := setL lk28_side ho
theorem n28x19 {G : Str → Option PV} {call : Calls} {n : Nat} {ρ : Loc} {p : Pos} : pe G (n + 1) call (nmI 28) ρ (.Name (Str.ofString "bent") p) = lkv (Str.ofString "bent") (ρ (Str.ofString "bent")) := nameL (by kernel_rfl) (by kernel_rfl)
theorem s28x19 {G : Str → Option PV} {call : Calls} {ow : List Str} {n : Nat} {ρ : Loc} {p p1 : Pos} {e : Expr} (ho : ow.contains (Str.ofString "bent") = false) : px G call ow (n + 1) (nmI 28) ρ (.Assign [.Name (Str.ofString "bent") p] e p1) = asF (isComp e) (swapOk (Str.ofString "bent") p e) (pe G n call (nmI 28) ρ e) (Str.ofString "bent") ρ := setL lk28_bent ho
theorem n28x20 {G : Str → Option PV} {call : Calls} {n : Nat} {ρ : Loc} {p : Pos} : pe G (n + 1) call (nmI 28) ρ (.Name (Str.ofString "rank") p) = lkv (Str.ofString "rank") (ρ (Str.ofString "rank")) := nameL (by kernel_rfl) (by kernel_rfl)
theorem s28x20 {G : Str → Option PV} {call : Calls} {ow : List Str} {n : Nat} {ρ : Loc} {p p1 : Pos} {e : Expr} (ho : ow.contains (Str.ofString "rank") = false) : px G call ow (n + 1) (nmI 28) ρ (.Assign [.Name (Str.ofString "rank") p] e p1) = asF (isComp e) (swapOk (Str.ofString "rank") p e) (pe G n call (nmI 28) ρ e) (Str.ofString "rank") ρ := setL lk28_rank ho
theorem n28x21 {G : Str → Option PV} {call : Calls} {n : Nat} {ρ : Loc} {p : Pos} : pe G (n + 1) call (nmI 28) ρ (.Name (Str.ofString "spots") p) = lkv (Str.ofString "spots") (ρ (Str.ofString "spots")) := nameL (by kernel_rfl) (by kernel_rfl)
theorem s28x21 {G : Str → Option PV} {call : Calls} {ow : List Str} {n : Nat} {ρ : Loc} {p p1 : Pos} {e : Expr} (ho : ow.contains (Str.ofString "spots") = false) : px G call ow (n + 1) (nmI 28) ρ (.Assign [.Name (Str.ofString "spots") p] e p1) = asF (isComp e) (swapOk (Str.ofString "spots") p e) (pe G n call (nmI 28) ρ e) (Str.ofString "spots") ρ := setL lk28_spots ho
theorem n28x22 {G : Str → Option PV} {call : Calls} {n : Nat} {ρ : Loc} {p : Pos} : pe G (n + 1) call (nmI 28) ρ (.Name (Str.ofString "sign") p) = lkv (Str.ofString "sign") (ρ (Str.ofString "sign")) := nameL (by kernel_rfl) (by kernel_rfl)
theorem s28x22 {G : Str → Option PV} {call : Calls} {ow : List Str} {n : Nat} {ρ : Loc} {p p1 : Pos} {e : Expr} (ho : ow.contains (Str.ofString "sign") = false) : px G call ow (n + 1) (nmI 28) ρ (.Assign [.Name (Str.ofString "sign") p] e p1) = asF (isComp e) (swapOk (Str.ofString "sign") p e) (pe G n call (nmI 28) ρ e) (Str.ofString "sign") ρ := setL lk28_sign ho
theorem n28x23 {G : Str → Option PV} {call : Calls} {n : Nat} {ρ : Loc} {p : Pos} : pe G (n + 1) call (nmI 28) ρ (.Name (Str.ofString "want") p) = lkv (Str.ofString "want") (ρ (Str.ofString "want")) := nameL (by kernel_rfl) (by kernel_rfl)
theorem s28x23 {G : Str → Option PV} {call : Calls} {ow : List Str} {n : Nat} {ρ : Loc} {p p1 : Pos} {e : Expr} (ho : ow.contains (Str.ofString "want") = false) : px G call ow (n + 1) (nmI 28) ρ (.Assign [.Name (Str.ofString "want") p] e p1) = asF (isComp e) (swapOk (Str.ofString "want") p e) (pe G n call (nmI 28) ρ e) (Str.ofString "want") ρ := setL lk28_want ho
theorem n28x24 {G : Str → Option PV} {call : Calls} {n : Nat} {ρ : Loc} {p : Pos} : pe G (n + 1) call (nmI 28) ρ (.Name (Str.ofString "front") p) = lkv (Str.ofString "front") (ρ (Str.ofString "front")) := nameL (by kernel_rfl) (by kernel_rfl)
theorem s28x24 {G : Str → Option PV} {call : Calls} {ow : List Str} {n : Nat} {ρ : Loc} {p p1 : Pos} {e : Expr} (ho : ow.contains (Str.ofString "front") = false) : px G call ow (n + 1) (nmI 28) ρ (.Assign [.Name (Str.ofString "front") p] e p1) = asF (isComp e) (swapOk (Str.ofString "front") p e) (pe G n call (nmI 28) ρ e) (Str.ofString "front") ρ := setL lk28_front ho
theorem n28x25 {G : Str → Option PV} {call : Calls} {n : Nat} {ρ : Loc} {p : Pos} : pe G (n + 1) call (nmI 28) ρ (.Name (Str.ofString "frame") p) = lkv (Str.ofString "frame") (ρ (Str.ofString "frame")) := nameL (by kernel_rfl) (by kernel_rfl)
theorem s28x25 {G : Str → Option PV} {call : Calls} {ow : List Str} {n : Nat} {ρ : Loc} {p p1 : Pos} {e : Expr} (ho : ow.contains (Str.ofString "frame") = false) : px G call ow (n + 1) (nmI 28) ρ (.Assign [.Name (Str.ofString "frame") p] e p1) = asF (isComp e) (swapOk (Str.ofString "frame") p e) (pe G n call (nmI 28) ρ e) (Str.ofString "frame") ρ := setL lk28_frame ho
theorem c28x27 {G : Str → Option PV} {call : Calls} {n : Nat} {ρ : Loc} {p p1 : Pos} {e : Expr} {args : List Expr} : pe G (n + 2) call (nmI 28) ρ (.Call (.Name (Str.ofString "_law_marked") p) (e :: args) [] p1) = bd (evs (pe G n call (nmI 28) ρ) (e :: args)) (callOn call (Str.ofString "_law_marked")) := callG lk28_law_marked fo8
theorem c28x28 {G : Str → Option PV} {call : Calls} {n : Nat} {ρ : Loc} {p p1 : Pos} {e : Expr} {args : List Expr} : pe G (n + 2) call (nmI 28) ρ (.Call (.Name (Str.ofString "_law_leaf") p) (e :: args) [] p1) = bd (evs (pe G n call (nmI 28) ρ) (e :: args)) (callOn call (Str.ofString "_law_leaf")) := callG lk28_law_leaf fo7
theorem c28x29 {G : Str → Option PV} {call : Calls} {n : Nat} {ρ : Loc} {p p1 : Pos} {e : Expr} {args : List Expr} : pe G (n + 2) call (nmI 28) ρ (.Call (.Name (Str.ofString "_law_alts") p) (e :: args) [] p1) = bd (evs (pe G n call (nmI 28) ρ) (e :: args)) (callOn call (Str.ofString "_law_alts")) := callG lk28_law_alts fo10
theorem n28x30 {G : Str → Option PV} {call : Calls} {n : Nat} {ρ : Loc} {p : Pos} : pe G (n + 1) call (nmI 28) ρ (.Name (Str.ofString "_law_shapes") p) = lkg (G (Str.ofString "_law_shapes")) := nameG (by kernel_rfl) (by kernel_rfl) lk28_law_shapes
theorem n28x31 {G : Str → Option PV} {call : Calls} {n : Nat} {ρ : Loc} {p : Pos} : pe G (n + 1) call (nmI 28) ρ (.Name (Str.ofString "_law_spoils") p) = lkg (G (Str.ofString "_law_spoils")) := nameG (by kernel_rfl) (by kernel_rfl) lk28_law_spoils
theorem c28x32 {G : Str → Option PV} {call : Calls} {n : Nat} {ρ : Loc} {p p1 : Pos} {e : Expr} {args : List Expr} : pe G (n + 2) call (nmI 28) ρ (.Call (.Name (Str.ofString "_law_due") p) (e :: args) [] p1) = bd (evs (pe G n call (nmI 28) ρ) (e :: args)) (callOn call (Str.ofString "_law_due")) := callG lk28_law_due fo11
theorem c28x33 {G : Str → Option PV} {call : Calls} {n : Nat} {ρ : Loc} {p p1 : Pos} {e : Expr} {args : List Expr} : pe G (n + 2) call (nmI 28) ρ (.Call (.Name (Str.ofString "_law_read") p) (e :: args) [] p1) = bd (evs (pe G n call (nmI 28) ρ) (e :: args)) (callOn call (Str.ofString "_law_read")) := callG lk28_law_read fo14
theorem c28x36 {G : Str → Option PV} {call : Calls} {n : Nat} {ρ : Loc} {p p1 : Pos} {e : Expr} {args : List Expr} : pe G (n + 2) call (nmI 28) ρ (.Call (.Name (Str.ofString "tokens_of") p) (e :: args) [] p1) = bd (evs (pe G n call (nmI 28) ρ) (e :: args)) (callOn call (Str.ofString "tokens_of")) := callG lk28_tokens_of fo1
theorem c28x37 {G : Str → Option PV} {call : Calls} {n : Nat} {ρ : Loc} {p p1 : Pos} {e : Expr} {args : List Expr} : pe G (n + 2) call (nmI 28) ρ (.Call (.Name (Str.ofString "with_joins") p) (e :: args) [] p1) = bd (evs (pe G n call (nmI 28) ρ) (e :: args)) (callOn call (Str.ofString "with_joins")) := callG lk28_with_joins fo2
theorem c28x38 {G : Str → Option PV} {call : Calls} {n : Nat} {ρ : Loc} {p p1 : Pos} {e : Expr} {args : List Expr} : pe G (n + 2) call (nmI 28) ρ (.Call (.Name (Str.ofString "_law_bent") p) (e :: args) [] p1) = bd (evs (pe G n call (nmI 28) ρ) (e :: args)) (callOn call (Str.ofString "_law_bent")) := callG lk28_law_bent fo13
theorem c28x39 {G : Str → Option PV} {call : Calls} {n : Nat} {ρ : Loc} {p p1 : Pos} {e : Expr} {args : List Expr} : pe G (n + 2) call (nmI 28) ρ (.Call (.Name (Str.ofString "_law_order") p) (e :: args) [] p1) = bd (evs (pe G n call (nmI 28) ρ) (e :: args)) (callOn call (Str.ofString "_law_order")) := callG lk28_law_order fo15
theorem c28x40 {G : Str → Option PV} {call : Calls} {n : Nat} {ρ : Loc} {p p1 : Pos} {e : Expr} {args : List Expr} : pe G (n + 2) call (nmI 28) ρ (.Call (.Name (Str.ofString "_law_lost") p) (e :: args) [] p1) = bd (evs (pe G n call (nmI 28) ρ) (e :: args)) (callOn call (Str.ofString "_law_lost")) := callG lk28_law_lost fo12
theorem n28x42 {G : Str → Option PV} {call : Calls} {n : Nat} {ρ : Loc} {p : Pos} : pe G (n + 1) call (nmI 28) ρ (.Name (Str.ofString "_law_signs") p) = lkg (G (Str.ofString "_law_signs")) := nameG (by kernel_rfl) (by kernel_rfl) lk28_law_signs
theorem c28x43 {G : Str → Option PV} {call : Calls} {n : Nat} {ρ : Loc} {p p1 : Pos} {e : Expr} {args : List Expr} : pe G (n + 2) call (nmI 28) ρ (.Call (.Name (Str.ofString "is_plain_sign") p) (e :: args) [] p1) = bd (evs (pe G n call (nmI 28) ρ) (e :: args)) (callOn call (Str.ofString "is_plain_sign")) := callG lk28_is_plain_sign fo0
theorem n28x45 {G : Str → Option PV} {call : Calls} {n : Nat} {ρ : Loc} {p : Pos} : pe G (n + 1) call (nmI 28) ρ (.Name (Str.ofString "_law_fronts") p) = lkg (G (Str.ofString "_law_fronts")) := nameG (by kernel_rfl) (by kernel_rfl) lk28_law_fronts
theorem c28x46 {G : Str → Option PV} {call : Calls} {n : Nat} {ρ : Loc} {p p1 : Pos} {e : Expr} {args : List Expr} : pe G (n + 2) call (nmI 28) ρ (.Call (.Name (Str.ofString "postfix_ok") p) (e :: args) [] p1) = bd (evs (pe G n call (nmI 28) ρ) (e :: args)) (callOn call (Str.ofString "postfix_ok")) := callG lk28_postfix_ok fo5
end Mine

-- SxP3
namespace Mine
open PySem PyProof.Rows

theorem odd_lit {s : String} (h1 : s ≠ "__debug__") (h2 : s ≠ "__classdict__") : oddName (Str.ofString s) = false := by
  unfold oddName
  rw [beq_eq_false_iff_ne.mpr (fun q => h1 (ofString_inj.mp q)), beq_eq_false_iff_ne.mpr (fun q => h2 (ofString_inj.mp q))]; rfl
theorem bound_local : bound (some .local) = true := rfl
theorem bound_glob : bound (some .globalImplicit) = false := rfl
theorem bound_cell : bound (some .cell) = true := rfl
theorem upd_lit {ρ : Loc} {x y : String} {s : Slot} (h : y ≠ x) : upd ρ (Str.ofString x) s (Str.ofString y) = ρ (Str.ofString y) := upd_other fun q => h (ofString_inj.mp q)
theorem ne_lit {x y : String} (h : x ≠ y) : Str.ofString x ≠ Str.ofString y := fun q => h (ofString_inj.mp q)
theorem con_nil {x : Str} : List.contains [] x = false := by
  cases h : List.contains [] x with
  | false => exact h
  | true => exact absurd (List.contains_iff_mem.mp h) (by simp)
theorem con_cons {x y : Str} {l : List Str} : List.contains (y :: l) x = ((x == y) || l.contains x) := List.contains_cons
theorem beq_lit {x y : String} : (Str.ofString x == Str.ofString y) = decide (x = y) := by
  by_cases h : x = y
  · subst h; simp
  · rw [decide_eq_false h]; exact beq_eq_false_iff_ne.mpr (ne_lit h)

/-- a sign -/
noncomputable abbrev sg (c : Nat) : Str := ⟨#[c]⟩
theorem has_one (y : Str) (c : Nat) : Txt.contains y (sg c) = decide (c ∈ y.cps.toList) := PySem.StrLaws.found_one y c
theorem sg_eq {c : Nat} {s : String} {d : Nat} (h : Str.ofString s = sg d) : (sg c == Str.ofString s) = decide (c = d) := by
  rw [h]
  by_cases q : c = d
  · subst q; simp
  · rw [decide_eq_false q]; exact beq_eq_false_iff_ne.mpr fun e => q (by injection e with e; simpa using e)

inductive U where
  | star
  | plus
  | opt
/-- a token -/
inductive Tk where
  | chr (c : Nat)
  | any
  | eps
  | op
  | cl
  | bar
  | amp
  | un (u : U)
/-- an item of the postfix list -/
inductive It where
  | chr (c : Nat)
  | any
  | eps
  | cat
  | alt
  | un (u : U)
noncomputable def U.s : U → Str
  | .star => "*"
  | .plus => "+"
  | .opt => "?"
noncomputable def U.n : U → Str
  | .star => "star"
  | .plus => "plus"
  | .opt => "opt"
noncomputable def Tk.k : Tk → Str
  | .chr _ => "chr"
  | .any => "any"
  | .eps => "eps"
  | .op => "("
  | .cl => ")"
  | .bar => "|"
  | .amp => "&"
  | .un u => u.s
noncomputable def Tk.g : Tk → Str
  | .chr c => sg c
  | _ => ""
noncomputable def Tk.v (t : Tk) : PV := .tup [.str t.k, .str t.g]
noncomputable def It.k : It → Str
  | .chr _ => "chr"
  | .any => "any"
  | .eps => "eps"
  | .cat => "cat"
  | .alt => "alt"
  | .un u => u.n
noncomputable def It.g : It → Str
  | .chr c => sg c
  | _ => ""
noncomputable def It.v (t : It) : PV := .tup [.str t.k, .str t.g]

noncomputable def plainL : List Nat := plainS.cps.toList
noncomputable def tokC (c : Nat) : Option Tk := if c ∈ plainL then some (.chr c) else if c = 46 then some .any else if c = 40 then some .op else if c = 41 then some .cl else if c = 124 then some .bar else if c = 42 then some (.un .star)
  else if c = 43 then some (.un .plus) else if c = 63 then some (.un .opt) else none
noncomputable def badMsg (j c : Nat) : Str := catS ["sign ", Str.ofString (toString (j : Int)), " of the pattern may not stand in a pattern: '", sg c, "'"]
/-- the tokens of a text, or its first foreign sign -/
noncomputable def tokL (j : Nat) : List Nat → Except Str (List Tk)
  | [] => .ok []
  | c :: cs => match tokC c with
    | none => .error (badMsg j c)
    | some t => match tokL (j + 1) cs with
      | .ok ts => .ok (t :: ts)
      | .error m => .error m

theorem is_plain_sg (k : Nat) (c : Nat) : CC (k + 1) "is_plain_sign" [.str (sg c)] = ok (.bool (decide (c ∈ plainL))) := by
  have e : pxs GG (CC k) (owned "is_plain_sign") fuel (nmI 7) (bindsOf ["c"] [.str (sg c)]) (fnI 7).body = ok (.ret (.val (.bool (decide (c ∈ plainL)))), bindsOf ["c"] [.str (sg c)]) := by
    conv => lhs; arg 7; whnf
    have h1 : owned "is_plain_sign" = [] := by kernel_rfl
    have h2 : GG "PLAIN_SIGNS" = some (.str plainS) := by kernel_rfl
    have h3 : (sg c).length = 1 := rfl
    simp only [bd_ok, bs_ok, vd_val, ofOpt_some, c_int, e_cmp, e_and, e_call, fn_len, q_cmp, x_ret, y_cons, upd_same, p_eq_i, p_in_s, ne_eq, not_false_eq_true, reduceCtorEq, ↓reduceIte, eq_self, Nat.reduceLeDiff, lim, lkv_val, lkg_some, n7x0, lk7_len, n7x2, h1, h2, h3, fuel, bindsOf, plen, has_one, plainL]
    simp
    rfl
  refine (pcall_eq (f := "is_plain_sign") (r := .ok (.ret (.val (.bool (decide (c ∈ plainL)))), bindsOf ["c"] [.str (sg c)])) (by kernel_rfl) (by kernel_rfl) ?_).trans rfl
  exact e

theorem fn_7 : getFn "is_plain_sign" = fnI 7 := by kernel_rfl
theorem fn_8 : getFn "tokens_of" = fnI 8 := by kernel_rfl
theorem codes_plain : plainL = [97, 98, 99, 100, 101, 102, 103, 104, 105, 106, 107, 108, 109, 110, 111, 112, 113, 114, 115, 116, 117, 118, 119, 120, 121, 122, 48, 49, 50, 51, 52, 53, 54, 55, 56, 57] := by kernel_rfl
theorem ops_codes : (Str.ofString "()|*+?").cps.toList = [40, 41, 124, 42, 43, 63] := by kernel_rfl

theorem small_nat {j : Nat} (h : j < 10000) : smallInt (j : Int) = true := by
  unfold smallInt
  simp; (first | lia | omega)

theorem digits_len {j : Nat} (hj : j < 10000) : (Str.ofString (toString (j : Int))).length ≤ 4 := by
  have e := (Nat.length_repr_le_iff (n := j) (k := 4) (by decide : 0 < 4)).mpr (by (first | lia | omega))
  have e2 : (Str.ofString (toString (j : Int))).length = (Nat.repr j).length := by
    show (cpsOfBytes 0 0 (toString (j : Int)).toByteArray.data.toList).toArray.size = _
    rw [cpsOfBytes_string]
    show ((Nat.repr j).toList.map Char.toNat).toArray.size = _
    rw [List.size_toArray, List.length_map, String.length_toList]
  rw [e2]; exact e
theorem bad_len {j c : Nat} (hj : j < 10000) : (catS [Str.ofString "sign ", Str.ofString (toString (j : Int)), Str.ofString " of the pattern may not stand in a pattern: '", sg c, Str.ofString "'"]).length ≤ 10000 := by
  have := digits_len hj
  have e1 : (Str.ofString "sign ").length = 5 := by kernel_rfl
  have e2 : (Str.ofString " of the pattern may not stand in a pattern: '").length = 45 := by kernel_rfl
  have e3 : (Str.ofString "'").length = 1 := by kernel_rfl
  have e4 : (sg c).length = 1 := rfl
  rw [catS_length]
  simp only [List.map_cons, List.map_nil, List.sum_cons, List.sum_nil, e1, e2, e3, e4]
  (first | lia | omega)
/-- one turn of tokens_of -/
theorem tok_eval (k : Nat) (ρ : Loc) (x : Str) (ts : List PV) (j c : Nat) (h1 : ρ "pattern" = some (.val (.str x))) (h2 : ρ "tokens" = some (.own ts)) (h3 : ρ "i" = some (.val (.int j))) (h4 : x.cps[j]? = some c) (hj : j < 10000) (hl : ts.length < 10000) :
    pxs GG (CC (k + 1)) ["tokens"] 97 (nmI 8) ρ (inOf (stI 8 1)) = if c ∈ plainL then ok (.next, upd (upd ρ "c" (.val (.str (sg c)))) "tokens" (.own (ts ++ [.tup [.str "chr", .str (sg c)]])))
      else if c = 46 then ok (.next, upd (upd ρ "c" (.val (.str (sg c)))) "tokens" (.own (ts ++ [.tup [.str "any", .str ""]])))
      else if c ∈ [40, 41, 124, 42, 43, 63] then ok (.next, upd (upd ρ "c" (.val (.str (sg c)))) "tokens" (.own (ts ++ [.tup [.str (sg c), .str ""]])))
      else some (.error (badMsg j c)) := by
  have hs : psub (.val (.str x)) (.int j) = some (.str (sg c)) := by
    show (if _ then _ else _) = _
    rw [if_pos (by constructor <;> simp [lim] <;> (first | lia | omega))]
    simp [h4]
  have hp := is_plain_sg k c
  have hg : GG "OPERATOR_SIGNS" = some (.str "()|*+?") := by kernel_rfl
  have hdot : (sg c == Str.ofString ".") = decide (c = 46) := sg_eq (by kernel_rfl)
  have hlen : (sg c).length = 1 := rfl
  have hsm := small_nat hj
  conv => lhs; arg 7; whnf
  by_cases c1 : c ∈ plainL
  · have d1 := decide_eq_true c1
    rw [if_pos c1]
    simp only [bd_ok, vd_val, ofOpt_some, c_str, e_call, e_tup, s_name, evs_nil, evs_cons, vals_nil, vals_cons, fo0, call_one, t_call, y_if, y_yes, x_append, pxs_nil, y_cons, y_next, odd_lit, upd_same, upd_lit, con_nil, con_cons, beq_lit, ic1, ic2, ic3, ic4, ic5, ic6, ic7, ic8, ic9, String.reduceEq, ne_eq, not_false_eq_true, Bool.or_false, ↓reduceIte, List.length_cons, List.length_nil, decide_false, eq_self, Nat.reduceAdd, Nat.reduceLeDiff, lim, BEq.rfl, lkv_val, asK_val, asF_f, n8x0, lk8_tokens, n8x2, n8x3, s8x3, lk8_is_plain_sign, h1, h2, h3, hs, hp, hl, d1]
  · have d1 := decide_eq_false c1
    rw [if_neg c1]
    by_cases c2 : c = 46
    · have d2 := decide_eq_true c2
      rw [if_pos c2]
      simp only [bd_ok, bs_ok, vd_val, ofOpt_some, c_str, e_call, e_tup, s_name, evs_nil, evs_cons, vals_nil, vals_cons, fo0, call_one, q_cmp, t_cmp, t_call, y_if, y_yes, y_no, x_append, pxs_nil, y_cons, y_next, odd_lit, upd_same, upd_lit, con_nil, con_cons, beq_lit, ic1, ic2, ic3, ic4, ic5, ic6, ic7, ic8, ic9, p_eq_s, String.reduceEq, ne_eq, not_false_eq_true, Bool.or_false, reduceCtorEq, ↓reduceIte, List.length_cons, List.length_nil, decide_false, eq_self, Nat.reduceAdd, Nat.reduceLeDiff, lim, BEq.rfl, lkv_val, asK_val, asF_f, n8x0, lk8_tokens, n8x2, n8x3, s8x3, lk8_is_plain_sign, h1, h2, h3, hs, hp, hl, d1, hdot, d2]
    · have d2 := decide_eq_false c2
      rw [if_neg c2]
      by_cases c3 : c ∈ [40, 41, 124, 42, 43, 63]
      · have d3 := decide_eq_true c3
        rw [if_pos c3]
        simp only [bd_ok, bs_ok, vd_val, ofOpt_some, c_str, e_call, e_tup, s_name, evs_nil, evs_cons, vals_nil, vals_cons, fo0, call_one, q_cmp, t_cmp, t_call, y_if, y_yes, y_no, x_append, pxs_nil, y_cons, y_next, odd_lit, upd_same, upd_lit, con_nil, con_cons, beq_lit, ic1, ic2, ic3, ic4, ic5, ic6, ic7, ic8, ic9, p_eq_s, p_in_s, String.reduceEq, ne_eq, not_false_eq_true, Bool.or_false, reduceCtorEq, ↓reduceIte, List.length_cons, List.length_nil, decide_false, eq_self, Nat.reduceAdd, Nat.reduceLeDiff, lim, BEq.rfl, lkv_val, lkg_some, asK_val, asF_f, n8x0, lk8_tokens, n8x2, n8x3, s8x3, lk8_is_plain_sign, n8x7, h1, h2, h3, hs, hp, hl, d1, hdot, d2, hg, has_one, ops_codes, d3]
      · have d3 := decide_eq_false c3
        rw [if_neg c3]
        have hm : (catS [Str.ofString "sign ", Str.ofString (toString (j : Int)), Str.ofString " of the pattern may not stand in a pattern: '", sg c, Str.ofString "'"]).length ≤ 10000 := bad_len hj
        simp only [bd_ok, bd_err, bs_ok, vd_val, ofOpt_some, c_str, e_call, s_name, evs_nil, evs_cons, f_fmt, f_str, e_fstr, fo0, call_one, q_cmp, t_cmp, t_call, y_if, y_no, x_raise, y_cons, y_next, upd_same, upd_lit, con_nil, con_cons, beq_lit, ic1, ic2, ic3, ic4, ic5, ic6, ic7, ic8, ic9, p_eq_s, p_in_s, String.reduceEq, ne_eq, not_false_eq_true, Bool.or_false, reduceCtorEq, ↓reduceIte, decide_false, eq_self, Nat.reduceLeDiff, lim, lkv_val, lkg_some, asK_val, asF_f, n8x0, n8x2, n8x3, s8x3, lk8_is_plain_sign, n8x7, lk8_PatternError, h1, h3, hs, hp, d1, hdot, d2, hg, has_one, ops_codes, d3, hsm, hlen, hm]
        rfl

end Mine

-- SxP4
namespace Mine
open PySem PyProof.Rows

theorem tokC_v {c : Nat} : match tokC c with
    | some t => t.v = if c ∈ plainL then .tup [.str "chr", .str (sg c)] else if c = 46 then .tup [.str "any", .str ""] else .tup [.str (sg c), .str ""]
    | none => c ∉ plainL ∧ c ≠ 46 ∧ c ∉ [40, 41, 124, 42, 43, 63] := by
  unfold tokC
  by_cases h0 : c ∈ plainL
  · rw [if_pos h0]; simp only [if_pos h0]; rfl
  · rw [if_neg h0]
    by_cases h1 : c = 46
    · rw [if_pos h1]; simp only [if_neg h0, if_pos h1]; rfl
    · rw [if_neg h1]
      by_cases h2 : c = 40
      · subst h2; simp only [if_neg h0, if_pos, if_neg h1]; kernel_rfl
      · rw [if_neg h2]
        by_cases h3 : c = 41
        · subst h3; simp only [if_neg h0, if_pos, if_neg h1]; kernel_rfl
        · rw [if_neg h3]
          by_cases h4 : c = 124
          · subst h4; simp only [if_neg h0, if_pos, if_neg h1]; kernel_rfl
          · rw [if_neg h4]
            by_cases h5 : c = 42
            · subst h5; simp only [if_neg h0, if_pos, if_neg h1]; kernel_rfl
            · rw [if_neg h5]
              by_cases h6 : c = 43
              · subst h6; simp only [if_neg h0, if_pos, if_neg h1]; kernel_rfl
              · rw [if_neg h6]
                by_cases h7 : c = 63
                · subst h7; simp only [if_neg h0, if_pos, if_neg h1]; kernel_rfl
                · rw [if_neg h7]
                  exact ⟨h0, h1, by simp [h2, h3, h4, h5, h6, h7]⟩
theorem tokC_mem {c : Nat} {t : Tk} (h : tokC c = some t) (h0 : c ∉ plainL) (h1 : c ≠ 46) : c ∈ [40, 41, 124, 42, 43, 63] := by
  unfold tokC at h
  rw [if_neg h0, if_neg h1] at h
  by_cases h2 : c = 40
  · simp [h2]
  · rw [if_neg h2] at h
    by_cases h3 : c = 41
    · simp [h3]
    · rw [if_neg h3] at h
      by_cases h4 : c = 124
      · simp [h4]
      · rw [if_neg h4] at h
        by_cases h5 : c = 42
        · simp [h5]
        · rw [if_neg h5] at h
          by_cases h6 : c = 43
          · simp [h6]
          · rw [if_neg h6] at h
            by_cases h7 : c = 63
            · simp [h7]
            · rw [if_neg h7] at h; cases h

theorem tok_turn (k : Nat) (ρ : Loc) (x : Str) (ts : List PV) (j c : Nat) (h1 : ρ "pattern" = some (.val (.str x))) (h2 : ρ "tokens" = some (.own ts)) (h3 : ρ "i" = some (.val (.int j))) (h4 : x.cps[j]? = some c) (hj : j < 10000) (hl : ts.length < 10000) :
    match tokC c with
    | some t => ∃ ρ', pxs GG (CC (k + 1)) ["tokens"] 97 (nmI 8) ρ (inOf (stI 8 1)) = ok (.next, ρ') ∧ ρ' "pattern" = some (.val (.str x)) ∧ ρ' "tokens" = some (.own (ts ++ [t.v]))
    | none => pxs GG (CC (k + 1)) ["tokens"] 97 (nmI 8) ρ (inOf (stI 8 1)) = some (.error (badMsg j c)) := by
  rw [tok_eval k ρ x ts j c h1 h2 h3 h4 hj hl]
  have hv := tokC_v (c := c)
  cases ht : tokC c with
  | none =>
    rw [ht] at hv
    dsimp only at hv ⊢
    rw [if_neg hv.1, if_neg hv.2.1, if_neg hv.2.2]
  | some t =>
    rw [ht] at hv
    dsimp only at hv ⊢
    rw [hv]
    by_cases c1 : c ∈ plainL
    · rw [if_pos c1, if_pos c1]
      exact ⟨_, rfl, by simp only [upd_lit, ne_eq, String.reduceEq, not_false_eq_true, h1], by simp only [upd_same]⟩
    · rw [if_neg c1, if_neg c1]
      by_cases c2 : c = 46
      · rw [if_pos c2, if_pos c2]
        exact ⟨_, rfl, by simp only [upd_lit, ne_eq, String.reduceEq, not_false_eq_true, h1], by simp only [upd_same]⟩
      · rw [if_neg c2, if_neg c2, if_pos (tokC_mem ht c1 c2)]
        exact ⟨_, rfl, by simp only [upd_lit, ne_eq, String.reduceEq, not_false_eq_true, h1], by simp only [upd_same]⟩

theorem tok_loop (k : Nat) (x : Str) (hx : x.cps.size ≤ 10000) : ∀ (m j : Nat) (ρ : Loc) (ts : List PV), j + m = x.cps.size → ρ "pattern" = some (.val (.str x)) → ρ "tokens" = some (.own ts) → ts.length = j →
    match tokL j (x.cps.toList.drop j) with
    | .ok us => ∃ ρ', ploop (onBody (pxs GG (CC (k + 1)) ["tokens"] 97 (nmI 8)) (inOf (stI 8 1))) "i" ((List.range' j m).map fun (k : Nat) => PV.int (k : Int)) ρ = ok (.next, ρ') ∧ ρ' "tokens" = some (.own (ts ++ us.map Tk.v))
    | .error e => ploop (onBody (pxs GG (CC (k + 1)) ["tokens"] 97 (nmI 8)) (inOf (stI 8 1))) "i" ((List.range' j m).map fun (k : Nat) => PV.int (k : Int)) ρ = some (.error e)
  | 0, j, ρ, ts, hj, h1, h2, hl => by
    have e : x.cps.toList.drop j = [] := List.drop_of_length_le (by simp; (first | lia | omega))
    rw [e]
    exact ⟨ρ, rfl, by simpa [tokL] using h2⟩
  | m + 1, j, ρ, ts, hj, h1, h2, hl => by
    have hlt : j < x.cps.size := by (first | lia | omega)
    have e : x.cps.toList.drop j = x.cps[j] :: x.cps.toList.drop (j + 1) := by
      rw [List.drop_eq_getElem_cons (by simpa using hlt)]; simp
    have hc : x.cps[j]? = some x.cps[j] := by simp [hlt]
    have ht := tok_turn k (upd ρ "i" (.val (.int j))) x ts j x.cps[j] (by simp only [upd_lit, ne_eq, String.reduceEq, not_false_eq_true, h1]) (by simp only [upd_lit, ne_eq, String.reduceEq, not_false_eq_true, h2]) (by simp only [upd_same]) hc (by (first | lia | omega)) (by (first | lia | omega))
    have hr : (List.range' j (m + 1)).map (fun (k : Nat) => PV.int (k : Int)) = PV.int (j : Int) :: (List.range' (j + 1) m).map fun (k : Nat) => PV.int (k : Int) := by simp [List.range'_succ]
    rw [e, hr]
    unfold tokL
    cases hk : tokC x.cps[j] with
    | none =>
      rw [hk] at ht
      show bd (pxs GG (CC (k + 1)) ["tokens"] 97 (nmI 8) (upd ρ "i" (.val (.int j))) (inOf (stI 8 1))) _ = _
      rw [ht]; rfl
    | some t =>
      rw [hk] at ht
      obtain ⟨ρ1, e1, e2, e3⟩ := ht
      have ih := tok_loop k x hx m (j + 1) ρ1 (ts ++ [t.v]) (by (first | lia | omega)) e2 e3 (by simp [hl])
      have step : ∀ r : M (Fl × Loc), ploop (onBody (pxs GG (CC (k + 1)) ["tokens"] 97 (nmI 8)) (inOf (stI 8 1))) "i" ((List.range' (j + 1) m).map fun (k : Nat) => PV.int (k : Int)) ρ1 = r →
          ploop (onBody (pxs GG (CC (k + 1)) ["tokens"] 97 (nmI 8)) (inOf (stI 8 1))) "i" (PV.int (j : Int) :: (List.range' (j + 1) m).map fun (k : Nat) => PV.int (k : Int)) ρ = r := fun r hr => by
        show bd (pxs GG (CC (k + 1)) ["tokens"] 97 (nmI 8) (upd ρ "i" (.val (.int j))) (inOf (stI 8 1))) _ = _
        rw [e1]; exact hr
      dsimp only
      cases hq : tokL (j + 1) (x.cps.toList.drop (j + 1)) with
      | error e => rw [hq] at ih; exact step _ ih
      | ok us =>
        rw [hq] at ih
        obtain ⟨ρ', q1, q2⟩ := ih
        exact ⟨ρ', step _ q1, by rw [q2]; simp⟩

theorem tokens_eq (k : Nat) (x : Str) (hx : x.cps.size ≤ 10000) : CC (k + 2) "tokens_of" [.str x] = match tokL 0 x.cps.toList with
    | .ok ts => ok (.list (ts.map Tk.v))
    | .error m => some (.error m) := by
  have hl := tok_loop k x hx x.cps.size 0 (upd (bindsOf ["pattern"] [.str x]) "tokens" (.own [])) [] (by (first | lia | omega)) (by simp only [bindsOf, upd_lit, upd_same, ne_eq, String.reduceEq, not_false_eq_true]) (by simp only [upd_same]) rfl
  rw [List.drop_zero] at hl
  have ev : ∀ r : M (Fl × Loc), ploop (onBody (pxs GG (CC (k + 1)) ["tokens"] 97 (nmI 8)) (inOf (stI 8 1))) "i" ((List.range' 0 x.cps.size).map fun (k : Nat) => PV.int (k : Int)) (upd (bindsOf ["pattern"] [.str x]) "tokens" (.own [])) = r →
      pxs GG (CC (k + 1)) (owned "tokens_of") fuel (nmI 8) (bindsOf ["pattern"] [.str x]) (fnI 8).body = bd r fun q => match q.1 with
        | .next => pxs GG (CC (k + 1)) ["tokens"] 98 (nmI 8) q.2 [stI 8 2]
        | f => ok (f, q.2) := fun r hr => by
    have ho : owned "tokens_of" = (["tokens"] : List Str) := by kernel_rfl
    have hb : (fnI 8).body = [stI 8 0, stI 8 1, stI 8 2] := by kernel_rfl
    have h0 : px GG (CC (k + 1)) ["tokens"] 99 (nmI 8) (bindsOf ["pattern"] [.str x]) (stI 8 0) = ok (.next, upd (bindsOf ["pattern"] [.str x]) "tokens" (.own [])) := by kernel_rfl
    have hlen : x.length = x.cps.size := rfl
    have h1 : px GG (CC (k + 1)) ["tokens"] 98 (nmI 8) (upd (bindsOf ["pattern"] [.str x]) "tokens" (.own [])) (stI 8 1) = r := by
      rw [← hr, ← List.range_eq_range']
      have : px GG (CC (k + 1)) ["tokens"] 98 (nmI 8) (upd (bindsOf ["pattern"] [.str x]) "tokens" (.own [])) (stI 8 1) = bd (pits GG 97 (CC (k + 1)) (nmI 8) (upd (bindsOf ["pattern"] [.str x]) "tokens" (.own [])) (itOf (stI 8 1))) fun ds => ploop (onBody (pxs GG (CC (k + 1)) ["tokens"] 97 (nmI 8)) (inOf (stI 8 1))) "i" ds (upd (bindsOf ["pattern"] [.str x]) "tokens" (.own [])) := by kernel_rfl
      rw [this]
      conv => lhs; arg 1; arg 6; whnf
      have hrange : rangeOf (.int x.cps.size) = some ((List.range x.cps.size).map fun (k : Nat) => PV.int (k : Int)) := by
        show (if _ then _ else _) = _
        rw [if_pos (by constructor <;> simp [lim] <;> (first | lia | omega))]; simp
      simp only [bd_ok, vd_val, ofOpt_some, e_call, fn_len, i_range, upd_same, upd_lit, pl_str, String.reduceEq, ne_eq, not_false_eq_true, ↓reduceIte, eq_self, lim, lkv_val, n8x0, lk8_range, lk8_len, bindsOf, hlen, hx, hrange]
    rw [ho, hb, show fuel = 99 + 1 from rfl, pxs_next h0, pxs_cons, h1]
    all_goals rfl
  cases hq : tokL 0 x.cps.toList with
  | error m =>
    rw [hq] at hl
    refine (pcall_eq (f := "tokens_of") (r := .error m) (by kernel_rfl) (by kernel_rfl) ?_).trans rfl
    rw [fn_8]
    exact (ev _ hl).trans rfl
  | ok ts =>
    rw [hq] at hl
    obtain ⟨ρ', q1, q2⟩ := hl
    refine (pcall_eq (f := "tokens_of") (r := .ok (.ret (.own "tokens" (ts.map Tk.v)), ρ')) (by kernel_rfl) (by kernel_rfl) ?_).trans rfl
    rw [fn_8]
    refine (ev _ q1).trans ?_
    show pxs GG (CC (k + 1)) ["tokens"] 98 (nmI 8) ρ' [stI 8 2] = _
    conv => lhs; arg 7; arg 1; whnf
    have q2 : ρ' "tokens" = some (.own (ts.map Tk.v)) := q2
    simp only [bd_ok, x_ret, y_cons, y_ret, lkv_own, n8x1, q2]
    rfl
end Mine

-- SxP5
namespace Mine
open PySem PyProof.Rows

/-- before an empty piece -/
noncomputable def Tk.opens : Tk → Bool
  | .op => true
  | .bar => true
  | _ => false
noncomputable def Tk.closes : Tk → Bool
  | .cl => true
  | .bar => true
  | _ => false
noncomputable def Tk.ends : Tk → Bool
  | .chr _ => true
  | .any => true
  | .eps => true
  | .cl => true
  | .un _ => true
  | _ => false
noncomputable def Tk.begins : Tk → Bool
  | .chr _ => true
  | .any => true
  | .eps => true
  | .op => true
  | _ => false
theorem opens_eq (t : Tk) : (Str.ofString "(" == t.k || Str.ofString "|" == t.k) = t.opens := by
  cases t with
  | un u => cases u <;> decide +kernel
  | _ => first | decide +kernel | (show (Str.ofString "(" == Str.ofString "chr" || Str.ofString "|" == Str.ofString "chr") = false; decide +kernel)
theorem closes_eq (t : Tk) : (Str.ofString ")" == t.k || Str.ofString "|" == t.k) = t.closes := by
  cases t with
  | un u => cases u <;> decide +kernel
  | _ => first | decide +kernel | (show (Str.ofString ")" == Str.ofString "chr" || Str.ofString "|" == Str.ofString "chr") = false; decide +kernel)

/-- the first pass: empty pieces -/
noncomputable def fillL (b : Tk) : List Tk → List Tk
  | [] => if b.opens then [.eps] else []
  | t :: ts => (if b.opens && t.closes then [.eps] else []) ++ t :: fillL t ts
/-- the second pass: joins -/
noncomputable def joinL (b : Option Tk) : List Tk → List Tk
  | [] => []
  | t :: ts => (if (match b with | some p => p.ends | none => false) && t.begins then [.amp] else []) ++ t :: joinL (some t) ts

theorem v_kind (t : Tk) : psub (.val t.v) (.int 0) = some (.str t.k) := rfl

/-- one turn of the first pass -/
theorem fill_turn (k : Nat) (ρ : Loc) (T F : List PV) (b t : Tk) (j : Nat) (h1 : ρ "tokens" = some (.val (.list T))) (h2 : ρ "filled" = some (.own F)) (h3 : ρ "before" = some (.val (.str b.k))) (h4 : ρ "i" = some (.val (.int j)))
    (hT : T.length ≤ 5000) (hF : F.length < 9000) (hj : (j : Int) < (T.length : Int)) (hs : psub (.val (.list T)) (.int j) = some t.v) :
    ∃ ρ', pxs GG (CC k) ["filled", "joined"] 96 (nmI 9) ρ (inOf (stI 9 2)) = ok (.next, ρ') ∧ ρ' "tokens" = some (.val (.list T)) ∧ ρ' "before" = some (.val (.str t.k)) ∧
      ρ' "filled" = some (.own (F ++ (if b.opens && t.closes then [Tk.eps.v] else []) ++ [t.v])) := by
  conv in pxs _ _ _ _ _ _ _ => arg 7; whnf
  have ho := opens_eq b
  have hc := closes_eq t
  have hlt := decide_eq_true hj
  have hv := v_kind t
  have z1 : T.length ≤ 10000 := by (first | lia | omega)
  have z2 : F.length < 10000 := by (first | lia | omega)
  have z3 : F.length + 1 < 10000 := by (first | lia | omega)
  have z4 : (F ++ [Tk.eps.v]).length < 10000 := by simp; (first | lia | omega)
  have ze : Tk.eps.v = .tup [.str (Str.ofString "eps"), .str (Str.ofString "")] := rfl
  cases hb : b.opens <;> cases hcl : t.closes <;> rw [hb] at ho <;> rw [hcl] at hc
  · simp only [bd_ok, bs_ok, vd_val, ofOpt_some, c_int, c_str, e_call, e_tup, s_name, s_const, evs_nil, evs_cons, vals_nil, vals_cons, fn_len, q_cmp, t_bool, t_cmp, y_and, ya_no, y_if, y_yes, y_no, x_append, pxs_nil, y_cons, y_next, odd_lit, upd_same, upd_lit, con_nil, con_cons, beq_lit, ic1, ic2, ic3, ic4, ic5, ic6, ic7, ic8, ic9, p_lt, p_in_t, ss_nil, ss_cons, pl_list, List.any_cons, List.any_nil, String.reduceEq, ne_eq, not_false_eq_true, Bool.or_false, reduceCtorEq, ↓reduceIte, List.length_cons, List.length_nil, decide_false, eq_self, Nat.reduceAdd, Nat.reduceLeDiff, lim, BEq.rfl, lkv_val, asK_val, asF_f, n9x0, lk9_filled, n9x2, s9x2, n9x3, n9x4, s9x4, lk9_len, h1, h2, h3, h4, hlt, hs, hv, z1, z2, ho]
    exact ⟨_, rfl, by simp only [upd_lit, ne_eq, String.reduceEq, not_false_eq_true, h1], by simp only [upd_same], by simp [upd_lit, upd_same, ne_eq, String.reduceEq, not_false_eq_true]⟩
  · simp only [bd_ok, bs_ok, vd_val, ofOpt_some, c_int, c_str, e_call, e_tup, s_name, s_const, evs_nil, evs_cons, vals_nil, vals_cons, fn_len, q_cmp, t_bool, t_cmp, y_and, ya_no, y_if, y_yes, y_no, x_append, pxs_nil, y_cons, y_next, odd_lit, upd_same, upd_lit, con_nil, con_cons, beq_lit, ic1, ic2, ic3, ic4, ic5, ic6, ic7, ic8, ic9, p_lt, p_in_t, ss_nil, ss_cons, pl_list, List.any_cons, List.any_nil, String.reduceEq, ne_eq, not_false_eq_true, Bool.or_false, Bool.and_true, reduceCtorEq, ↓reduceIte, Bool.false_eq_true, List.length_cons, List.length_nil, decide_false, eq_self, Nat.reduceAdd, Nat.reduceLeDiff, lim, BEq.rfl, lkv_val, asK_val, asF_f, n9x0, lk9_filled, n9x2, s9x2, n9x3, n9x4, s9x4, lk9_len, h1, h2, h3, h4, hlt, hs, hv, z1, z2, ho]
    exact ⟨_, rfl, by simp only [upd_lit, ne_eq, String.reduceEq, not_false_eq_true, h1], by simp only [upd_same], by simp [upd_lit, upd_same, ne_eq, String.reduceEq, not_false_eq_true]⟩
  · simp only [bd_ok, bs_ok, vd_val, ofOpt_some, c_int, c_str, e_call, e_tup, s_name, s_const, evs_nil, evs_cons, vals_nil, vals_cons, fn_len, q_cmp, t_bool, t_cmp, y_and, ya_yes, ya_no, y_if, y_yes, y_no, x_append, pxs_nil, y_cons, y_next, odd_lit, upd_same, upd_lit, con_nil, con_cons, beq_lit, ic1, ic2, ic3, ic4, ic5, ic6, ic7, ic8, ic9, p_lt, p_in_t, ss_nil, ss_cons, pl_list, List.any_cons, List.any_nil, String.reduceEq, ne_eq, not_false_eq_true, Bool.or_false, Bool.true_and, reduceCtorEq, ↓reduceIte, Bool.false_eq_true, List.length_cons, List.length_nil, decide_false, eq_self, Nat.reduceAdd, Nat.reduceLeDiff, lim, BEq.rfl, lkv_val, asK_val, asF_f, n9x0, lk9_filled, n9x2, s9x2, n9x3, n9x4, s9x4, lk9_len, h1, h2, h3, h4, hlt, hs, hv, z1, z2, ho, hc]
    exact ⟨_, rfl, by simp only [upd_lit, ne_eq, String.reduceEq, not_false_eq_true, h1], by simp only [upd_same], by simp [upd_lit, upd_same, ne_eq, String.reduceEq, not_false_eq_true]⟩
  · simp only [bd_ok, bs_ok, vd_val, ofOpt_some, c_int, c_str, e_call, e_tup, s_name, s_const, evs_nil, evs_cons, vals_nil, vals_cons, fn_len, q_cmp, t_bool, t_cmp, a_nil, y_and, ya_yes, y_if, y_yes, x_append, pxs_nil, y_cons, y_next, odd_lit, upd_same, upd_lit, con_nil, con_cons, beq_lit, ic1, ic2, ic3, ic4, ic5, ic6, ic7, ic8, ic9, p_lt, p_in_t, ss_nil, ss_cons, pl_list, List.any_cons, List.any_nil, String.reduceEq, ne_eq, not_false_eq_true, Bool.or_false, Bool.and_true, reduceCtorEq, ↓reduceIte, List.length_cons, List.length_nil, decide_false, eq_self, Nat.reduceAdd, Nat.reduceLeDiff, lim, BEq.rfl, lkv_val, asK_val, asF_f, n9x0, lk9_filled, n9x2, s9x2, n9x3, n9x4, s9x4, lk9_len, h1, h2, h3, h4, hlt, hs, hv, z1, z2, ho, hc, List.length_append, z3]
    exact ⟨_, rfl, by simp only [upd_lit, ne_eq, String.reduceEq, not_false_eq_true, h1], by simp only [upd_same], by simp [upd_lit, upd_same, ne_eq, String.reduceEq, not_false_eq_true, ze]⟩
theorem fill_last (k : Nat) (ρ : Loc) (T F : List PV) (b : Tk) (j : Nat) (h1 : ρ "tokens" = some (.val (.list T))) (h2 : ρ "filled" = some (.own F)) (h3 : ρ "before" = some (.val (.str b.k))) (h4 : ρ "i" = some (.val (.int j)))
    (hT : T.length ≤ 5000) (hF : F.length < 9000) (hj : ¬ (j : Int) < (T.length : Int)) :
    ∃ ρ', pxs GG (CC k) ["filled", "joined"] 96 (nmI 9) ρ (inOf (stI 9 2)) = ok (.next, ρ') ∧ ρ' "filled" = some (.own (F ++ (if b.opens then [Tk.eps.v] else []))) := by
  conv in pxs _ _ _ _ _ _ _ => arg 7; whnf
  have ho := opens_eq b
  have hlt := decide_eq_false hj
  have z1 : T.length ≤ 10000 := by (first | lia | omega)
  have z2 : F.length < 10000 := by (first | lia | omega)
  have ze : Tk.eps.v = .tup [.str (Str.ofString "eps"), .str (Str.ofString "")] := rfl
  cases hb : b.opens <;> rw [hb] at ho
  · simp only [bd_ok, bs_ok, vd_val, ofOpt_some, c_str, e_call, e_tup, evs_nil, evs_cons, vals_nil, vals_cons, fn_len, q_cmp, t_bool, t_cmp, y_and, ya_no, y_if, y_no, pxs_nil, y_cons, y_next, upd_same, upd_lit, con_nil, con_cons, beq_lit, ic1, ic2, ic3, ic4, ic5, ic6, ic7, ic8, ic9, p_lt, p_in_t, ss_nil, ss_cons, pl_list, List.any_cons, List.any_nil, String.reduceEq, ne_eq, not_false_eq_true, Bool.or_false, reduceCtorEq, ↓reduceIte, Bool.false_eq_true, List.length_cons, List.length_nil, decide_false, eq_self, Nat.reduceAdd, Nat.reduceLeDiff, lim, lkv_val, asK_val, asF_f, n9x0, n9x2, s9x2, n9x3, n9x4, s9x4, lk9_len, h1, h3, h4, hlt, z1, ho]
    exact ⟨_, rfl, by simp [upd_lit, ne_eq, String.reduceEq, not_false_eq_true, h2]⟩
  · simp only [bd_ok, bs_ok, vd_val, ofOpt_some, c_str, e_call, e_tup, evs_nil, evs_cons, vals_nil, vals_cons, fn_len, q_cmp, t_bool, t_cmp, a_nil, y_and, ya_yes, y_if, y_yes, y_no, x_append, pxs_nil, y_cons, y_next, odd_lit, upd_same, upd_lit, con_nil, con_cons, beq_lit, ic1, ic2, ic3, ic4, ic5, ic6, ic7, ic8, ic9, p_lt, p_in_t, ss_nil, ss_cons, pl_list, List.any_cons, List.any_nil, String.reduceEq, ne_eq, not_false_eq_true, Bool.or_false, Bool.or_true, reduceCtorEq, ↓reduceIte, List.length_cons, List.length_nil, decide_false, eq_self, Nat.reduceAdd, Nat.reduceLeDiff, lim, BEq.rfl, lkv_val, asK_val, asF_f, n9x0, lk9_filled, n9x2, s9x2, n9x3, n9x4, s9x4, lk9_len, h1, h2, h3, h4, hlt, z1, z2, ho]
    exact ⟨_, rfl, by simp [upd_lit, upd_same, ne_eq, String.reduceEq, not_false_eq_true, ze]⟩

theorem sub_list {T : List PV} {j : Nat} {d : PV} (h : T[j]? = some d) (hj : j < 10000) : psub (.val (.list T)) (.int j) = some d := by
  show (if _ then _ else _) = _
  rw [if_pos (by constructor <;> simp [lim] <;> (first | lia | omega))]
  simpa using h
theorem sub_own {T : List PV} {x : Str} {j : Nat} {d : PV} (h : T[j]? = some d) (hj : j < 10000) : psub (.own x T) (.int j) = some d := by
  show pitem _ _ = _
  unfold pitem
  rw [if_pos (by (first | lia | omega)), if_pos (by simp [lim]; (first | lia | omega))]
  simpa using h

theorem ploop_cons {body : Loc → M (Fl × Loc)} {x : Str} {d : PV} {r : List PV} {ρ ρ' : Loc} (h : body (upd ρ x (.val d)) = ok (.next, ρ')) : ploop body x (d :: r) ρ = ploop body x r ρ' := by
  show bd (body (upd ρ x (.val d))) _ = _
  rw [h]; rfl
noncomputable def nums (j m : Nat) : List PV := (List.range' j m).map fun (k : Nat) => PV.int (k : Int)
theorem nums_succ (j m : Nat) : nums j (m + 1) = PV.int (j : Int) :: nums (j + 1) m := by simp [nums, List.range'_succ]
theorem range_nums {n : Nat} (h : n ≤ 10000) : rangeOf (.int n) = some (nums 0 n) := by
  show (if _ then _ else _) = _
  rw [if_pos (by constructor <;> simp [lim] <;> (first | lia | omega))]; simp [nums, List.range_eq_range']

theorem fillL_len : ∀ (ts : List Tk) (b : Tk), (fillL b ts).length ≤ 2 * ts.length + 1
  | [], b => by unfold fillL; split <;> simp
  | t :: ts, b => by
    have := fillL_len ts t
    unfold fillL
    split <;> simp <;> (first | lia | omega)

theorem fill_loop (k : Nat) (ts : List Tk) (hts : ts.length ≤ 2000) : ∀ (m j : Nat) (ρ : Loc) (F : List PV) (b : Tk), j + m = ts.length → ρ "tokens" = some (.val (.list (ts.map Tk.v))) → ρ "filled" = some (.own F) → ρ "before" = some (.val (.str b.k)) → F.length ≤ 2 * j →
    ∃ ρ', ploop (onBody (pxs GG (CC k) ["filled", "joined"] 96 (nmI 9)) (inOf (stI 9 2))) "i" (nums j (m + 1)) ρ = ok (.next, ρ') ∧ ρ' "filled" = some (.own (F ++ (fillL b (ts.drop j)).map Tk.v))
  | 0, j, ρ, F, b, hj, h1, h2, h3, hF => by
    have e : ts.drop j = [] := List.drop_of_length_le (by (first | lia | omega))
    obtain ⟨ρ', q1, q2⟩ := fill_last k (upd ρ "i" (.val (.int j))) (ts.map Tk.v) F b j (by simp only [upd_lit, ne_eq, String.reduceEq, not_false_eq_true, h1]) (by simp only [upd_lit, ne_eq, String.reduceEq, not_false_eq_true, h2]) (by simp only [upd_lit, ne_eq, String.reduceEq, not_false_eq_true, h3]) (by simp only [upd_same]) (by simp; (first | lia | omega)) (by (first | lia | omega)) (by simp; (first | lia | omega))
    refine ⟨ρ', ?_, ?_⟩
    · rw [nums_succ]
      exact (ploop_cons q1).trans rfl
    · rw [q2, e]; unfold fillL; cases b.opens <;> rfl
  | m + 1, j, ρ, F, b, hj, h1, h2, h3, hF => by
    have hlt : j < ts.length := by (first | lia | omega)
    have e : ts.drop j = ts[j] :: ts.drop (j + 1) := List.drop_eq_getElem_cons hlt
    obtain ⟨ρ1, q1, q2, q3, q4⟩ := fill_turn k (upd ρ "i" (.val (.int j))) (ts.map Tk.v) F b ts[j] j (by simp only [upd_lit, ne_eq, String.reduceEq, not_false_eq_true, h1]) (by simp only [upd_lit, ne_eq, String.reduceEq, not_false_eq_true, h2]) (by simp only [upd_lit, ne_eq, String.reduceEq, not_false_eq_true, h3]) (by simp only [upd_same]) (by simp; (first | lia | omega)) (by (first | lia | omega)) (by simp; (first | lia | omega)) (sub_list (by simp [hlt]) (by (first | lia | omega)))
    obtain ⟨ρ', p1, p2⟩ := fill_loop k ts hts m (j + 1) ρ1 _ ts[j] (by (first | lia | omega)) q2 q4 q3 (by cases b.opens && ts[j].closes <;> simp <;> (first | lia | omega))
    refine ⟨ρ', ?_, ?_⟩
    · rw [nums_succ]
      exact (ploop_cons q1).trans p1
    · rw [p2, e]
      conv => rhs; unfold fillL
      cases b.opens && ts[j].closes <;> simp

theorem ends_eq (t : Tk) : (Str.ofString "chr" == t.k || (Str.ofString "any" == t.k || (Str.ofString "eps" == t.k || (Str.ofString ")" == t.k || (Str.ofString "*" == t.k || (Str.ofString "+" == t.k || Str.ofString "?" == t.k)))))) = t.ends := by
  cases t with
  | un u => cases u <;> decide +kernel
  | _ => first | decide +kernel | rfl
theorem begins_eq (t : Tk) : (Str.ofString "chr" == t.k || (Str.ofString "any" == t.k || (Str.ofString "eps" == t.k || Str.ofString "(" == t.k))) = t.begins := by
  cases t with
  | un u => cases u <;> decide +kernel
  | _ => first | decide +kernel | rfl
theorem g_ends : GG "ENDS_PIECE" = some (.tup [.str "chr", .str "any", .str "eps", .str ")", .str "*", .str "+", .str "?"]) := by kernel_rfl
theorem g_begins : GG "BEGINS_PIECE" = some (.tup [.str "chr", .str "any", .str "eps", .str "("]) := by kernel_rfl

/-- one turn of the second pass -/
theorem join_turn (k : Nat) (ρ : Loc) (F J : List PV) (p t : Tk) (j : Nat) (h1 : ρ "filled" = some (.own F)) (h2 : ρ "joined" = some (.own J)) (h4 : ρ "i" = some (.val (.int j)))
    (hJ : J.length < 9000) (hj : (0 : Int) < (j : Int)) (hs : psub (.own "filled" F) (.int j) = some t.v) (hp : psub (.own "filled" F) (.int (j - 1)) = some p.v) :
    ∃ ρ', pxs GG (CC k) ["filled", "joined"] 94 (nmI 9) ρ (inOf (stI 9 4)) = ok (.next, ρ') ∧ ρ' "filled" = some (.own F) ∧
      ρ' "joined" = some (.own (J ++ (if p.ends && t.begins then [Tk.amp.v] else []) ++ [t.v])) := by
  conv in pxs _ _ _ _ _ _ _ => arg 7; whnf
  have ho := ends_eq p
  have hc := begins_eq t
  have hlt := decide_eq_true hj
  have hv := v_kind t
  have hvp := v_kind p
  have g1 := g_ends
  have g2 := g_begins
  have z2 : J.length < 10000 := by (first | lia | omega)
  have z3 : J.length + 1 < 10000 := by (first | lia | omega)
  have ze : Tk.amp.v = .tup [.str (Str.ofString "&"), .str (Str.ofString "")] := rfl
  cases hb : p.ends <;> cases hcl : t.begins <;> rw [hb] at ho <;> rw [hcl] at hc
  · simp only [bd_ok, bs_ok, vd_val, ofOpt_some, c_int, e_bin, s_name, s_const, s_bin, q_cmp, t_bool, t_cmp, y_and, ya_yes, ya_no, y_if, y_no, x_append, pxs_nil, y_cons, y_next, odd_lit, p_gt, p_in_t, pb_sub, ss_nil, ss_cons, List.any_cons, List.any_nil, String.reduceEq, ne_eq, not_false_eq_true, Bool.or_false, reduceCtorEq, ↓reduceIte, eq_self, lim, BEq.rfl, lkv_val, lkv_own, lkg_some, n9x1, n9x3, lk9_joined, n9x8, h1, h2, h4, hlt, hs, hp, hvp, g1, z2, ho]
    exact ⟨_, rfl, by simp only [upd_lit, ne_eq, String.reduceEq, not_false_eq_true, h1], by simp [upd_same]⟩
  · simp only [bd_ok, bs_ok, vd_val, ofOpt_some, c_int, e_bin, s_name, s_const, s_bin, q_cmp, t_bool, t_cmp, y_and, ya_yes, ya_no, y_if, y_no, x_append, pxs_nil, y_cons, y_next, odd_lit, p_gt, p_in_t, pb_sub, ss_nil, ss_cons, List.any_cons, List.any_nil, String.reduceEq, ne_eq, not_false_eq_true, Bool.or_false, Bool.and_true, reduceCtorEq, ↓reduceIte, Bool.false_eq_true, eq_self, lim, BEq.rfl, lkv_val, lkv_own, lkg_some, n9x1, n9x3, lk9_joined, n9x8, h1, h2, h4, hlt, hs, hp, hvp, g1, z2, ho]
    exact ⟨_, rfl, by simp only [upd_lit, ne_eq, String.reduceEq, not_false_eq_true, h1], by simp [upd_same]⟩
  · simp only [bd_ok, bs_ok, vd_val, ofOpt_some, c_int, e_bin, s_name, s_const, s_bin, q_cmp, t_bool, t_cmp, y_and, ya_yes, ya_no, y_if, y_no, x_append, pxs_nil, y_cons, y_next, odd_lit, p_gt, p_in_t, pb_sub, ss_nil, ss_cons, List.any_cons, List.any_nil, String.reduceEq, ne_eq, not_false_eq_true, Bool.or_false, Bool.true_and, reduceCtorEq, ↓reduceIte, Bool.false_eq_true, eq_self, lim, BEq.rfl, lkv_val, lkv_own, lkg_some, n9x1, n9x3, lk9_joined, n9x8, n9x9, h1, h2, h4, hlt, hs, hp, hv, hvp, g1, g2, z2, ho, hc]
    exact ⟨_, rfl, by simp only [upd_lit, ne_eq, String.reduceEq, not_false_eq_true, h1], by simp [upd_same]⟩
  · simp only [bd_ok, bs_ok, vd_val, ofOpt_some, c_int, c_str, e_bin, e_tup, s_name, s_const, s_bin, evs_nil, evs_cons, vals_nil, vals_cons, q_cmp, t_bool, t_cmp, a_nil, y_and, ya_yes, y_if, y_yes, x_append, pxs_nil, y_cons, y_next, odd_lit, upd_same, upd_lit, p_gt, p_in_t, pb_sub, ss_nil, ss_cons, List.any_cons, List.any_nil, String.reduceEq, ne_eq, not_false_eq_true, Bool.or_false, Bool.and_true, reduceCtorEq, ↓reduceIte, List.length_cons, List.length_nil, eq_self, Nat.reduceAdd, Nat.reduceLeDiff, lim, BEq.rfl, lkv_val, lkv_own, lkg_some, n9x1, n9x3, lk9_joined, n9x8, n9x9, h1, h2, h4, hlt, hs, hp, hv, hvp, g1, g2, z2, ho, hc, List.length_append, z3]
    exact ⟨_, rfl, by simp only [upd_lit, ne_eq, String.reduceEq, not_false_eq_true, h1], by simp [upd_same, ze]⟩
theorem join_first (k : Nat) (ρ : Loc) (F J : List PV) (t : Tk) (h1 : ρ "filled" = some (.own F)) (h2 : ρ "joined" = some (.own J)) (h4 : ρ "i" = some (.val (.int 0)))
    (hJ : J.length < 9000) (hs : psub (.own "filled" F) (.int 0) = some t.v) :
    ∃ ρ', pxs GG (CC k) ["filled", "joined"] 94 (nmI 9) ρ (inOf (stI 9 4)) = ok (.next, ρ') ∧ ρ' "filled" = some (.own F) ∧ ρ' "joined" = some (.own (J ++ [t.v])) := by
  conv in pxs _ _ _ _ _ _ _ => arg 7; whnf
  have z2 : J.length < 10000 := by (first | lia | omega)
  have z0 : decide ((0 : Int) < 0) = false := by decide
  simp only [bd_ok, bs_ok, vd_val, ofOpt_some, c_int, s_name, q_cmp, t_bool, t_cmp, y_and, ya_no, y_if, y_no, x_append, pxs_nil, y_cons, y_next, odd_lit, p_gt, String.reduceEq, ne_eq, not_false_eq_true, reduceCtorEq, ↓reduceIte, eq_self, lim, BEq.rfl, lkv_val, lkv_own, n9x1, n9x3, lk9_joined, h1, h2, h4, hs, z2, z0]
  exact ⟨_, rfl, by simp only [upd_lit, ne_eq, String.reduceEq, not_false_eq_true, h1], by simp [upd_same]⟩
theorem joinL_len : ∀ (ts : List Tk) (b : Option Tk), (joinL b ts).length ≤ 2 * ts.length
  | [], b => by unfold joinL; simp
  | t :: ts, b => by
    have h1 := joinL_len ts (some t)
    unfold joinL
    rw [List.length_append, List.length_cons, List.length_cons]
    have h : ∀ c : Bool, (if c = true then [Tk.amp] else []).length ≤ 1 := fun c => by cases c <;> simp
    have h2 := h ((match b with | some p => p.ends | none => false) && t.begins)
    (first | lia | omega)

theorem join_loop (k : Nat) (fs : List Tk) (hfs : fs.length ≤ 4001) : ∀ (m j : Nat) (ρ : Loc) (J : List PV) (p : Tk), 0 < j → j + m = fs.length → fs[j - 1]? = some p → ρ "filled" = some (.own (fs.map Tk.v)) → ρ "joined" = some (.own J) → J.length ≤ 2 * j →
    ∃ ρ', ploop (onBody (pxs GG (CC k) ["filled", "joined"] 94 (nmI 9)) (inOf (stI 9 4))) "i" (nums j m) ρ = ok (.next, ρ') ∧ ρ' "joined" = some (.own (J ++ (joinL (some p) (fs.drop j)).map Tk.v))
  | 0, j, ρ, J, p, h0, hj, hp, h1, h2, hJ => by
    have e : fs.drop j = [] := List.drop_of_length_le (by (first | lia | omega))
    rw [e]
    exact ⟨ρ, rfl, by simpa [joinL] using h2⟩
  | m + 1, j, ρ, J, p, h0, hj, hp, h1, h2, hJ => by
    have hlt : j < fs.length := by (first | lia | omega)
    have e : fs.drop j = fs[j] :: fs.drop (j + 1) := List.drop_eq_getElem_cons hlt
    have hp' : psub (.own "filled" (fs.map Tk.v)) (.int ((j : Int) - 1)) = some p.v := by
      have : ((j : Int) - 1) = ((j - 1 : Nat) : Int) := by (first | lia | omega)
      rw [this]
      exact sub_own (by simp [hp]) (by (first | lia | omega))
    obtain ⟨ρ1, q1, q2, q3⟩ := join_turn k (upd ρ "i" (.val (.int j))) (fs.map Tk.v) J p fs[j] j (by simp only [upd_lit, ne_eq, String.reduceEq, not_false_eq_true, h1]) (by simp only [upd_lit, ne_eq, String.reduceEq, not_false_eq_true, h2]) (by simp only [upd_same]) (by (first | lia | omega)) (by (first | lia | omega)) (sub_own (by simp [hlt]) (by (first | lia | omega))) hp'
    obtain ⟨ρ', p1, p2⟩ := join_loop k fs hfs m (j + 1) ρ1 _ fs[j] (by (first | lia | omega)) (by (first | lia | omega)) (by simp [hlt]) q2 q3 (by cases p.ends && fs[j].begins <;> simp <;> (first | lia | omega))
    refine ⟨ρ', ?_, ?_⟩
    · rw [nums_succ]
      exact (ploop_cons q1).trans p1
    · rw [p2, e]
      conv => rhs; unfold joinL
      cases p.ends && fs[j].begins <;> simp

theorem fn_9 : getFn "with_joins" = fnI 9 := by kernel_rfl
/-- the joined tokens -/
noncomputable def joins (ts : List Tk) : List Tk := joinL none (fillL .bar ts)
theorem joins_len (ts : List Tk) : (joins ts).length ≤ 4 * ts.length + 2 := by
  have h1 := fillL_len ts .bar
  have h2 := joinL_len (fillL .bar ts) none
  unfold joins
  (first | lia | omega)
theorem fillL_ne : ∀ (ts : List Tk), fillL .bar ts ≠ []
  | [] => by simp [fillL, Tk.opens]
  | t :: ts => by unfold fillL; simp

theorem joins_eq (k : Nat) (ts : List Tk) (hts : ts.length ≤ 1000) : CC (k + 1) "with_joins" [.list (ts.map Tk.v)] = ok (.list ((joins ts).map Tk.v)) := by
  have ho : owned "with_joins" = (["filled", "joined"] : List Str) := by kernel_rfl
  have hb : (fnI 9).body = [stI 9 0, stI 9 1, stI 9 2, stI 9 3, stI 9 4, stI 9 5] := by kernel_rfl
  generalize hρ0 : bindsOf ["tokens"] [.list (ts.map Tk.v)] = ρ0
  have r0 : ρ0 "tokens" = some (.val (.list (ts.map Tk.v))) := by rw [← hρ0]; simp only [bindsOf, upd_same]
  have h0 : px GG (CC k) ["filled", "joined"] 99 (nmI 9) ρ0 (stI 9 0) = ok (.next, upd ρ0 "filled" (.own [])) := by kernel_rfl
  have h1 : px GG (CC k) ["filled", "joined"] 98 (nmI 9) (upd ρ0 "filled" (.own [])) (stI 9 1) = ok (.next, upd (upd ρ0 "filled" (.own [])) "before" (.val (.str "|"))) := by kernel_rfl
  obtain ⟨ρ2, q1, q2⟩ := fill_loop k ts (by (first | lia | omega)) ts.length 0 (upd (upd ρ0 "filled" (.own [])) "before" (.val (.str "|"))) [] .bar (by (first | lia | omega)) (by simp only [upd_lit, ne_eq, String.reduceEq, not_false_eq_true, r0]) (by simp only [upd_lit, upd_same, ne_eq, String.reduceEq, not_false_eq_true]) (by simp only [upd_same]; rfl) (by simp)
  have h2 : px GG (CC k) ["filled", "joined"] 97 (nmI 9) (upd (upd ρ0 "filled" (.own [])) "before" (.val (.str "|"))) (stI 9 2) = ok (.next, ρ2) := by
    have : px GG (CC k) ["filled", "joined"] 97 (nmI 9) (upd (upd ρ0 "filled" (.own [])) "before" (.val (.str "|"))) (stI 9 2) = bd (pits GG 96 (CC k) (nmI 9) (upd (upd ρ0 "filled" (.own [])) "before" (.val (.str "|"))) (itOf (stI 9 2))) fun ds => ploop (onBody (pxs GG (CC k) ["filled", "joined"] 96 (nmI 9)) (inOf (stI 9 2))) "i" ds (upd (upd ρ0 "filled" (.own [])) "before" (.val (.str "|"))) := by kernel_rfl
    rw [this]
    conv => lhs; arg 1; arg 6; whnf
    have hr : rangeOf (.int ((ts.length : Int) + 1)) = some (nums 0 (ts.length + 1)) := range_nums (n := ts.length + 1) (by (first | lia | omega))
    have z : ts.length ≤ 10000 := by (first | lia | omega)
    simp only [bd_ok, vd_val, ofOpt_some, c_int, e_bin, e_call, fn_len, i_range, upd_lit, pb_add, pl_list, String.reduceEq, ne_eq, not_false_eq_true, ↓reduceIte, eq_self, lim, lkv_val, n9x0, lk9_range, lk9_len, r0, List.length_map, z, hr]
    exact q1
  rw [List.drop_zero, List.nil_append] at q2
  have hfl := fillL_len ts .bar
  have hfne := fillL_ne ts
  generalize hfs : fillL .bar ts = fs at q2 hfl hfne
  have h3 : px GG (CC k) ["filled", "joined"] 96 (nmI 9) ρ2 (stI 9 3) = ok (.next, upd ρ2 "joined" (.own [])) := by kernel_rfl
  obtain ⟨f0, fr, rfl⟩ := List.exists_cons_of_ne_nil hfne
  obtain ⟨ρ4, p1, p2, p3⟩ := join_first k (upd (upd ρ2 "joined" (.own [])) "i" (.val (.int 0))) (((f0 :: fr)).map Tk.v) [] f0 (by simp only [upd_lit, ne_eq, String.reduceEq, not_false_eq_true, q2]) (by simp only [upd_lit, upd_same, ne_eq, String.reduceEq, not_false_eq_true]) (by simp only [upd_same]) (by simp) rfl
  obtain ⟨ρ5, s1, s2⟩ := join_loop k (f0 :: fr) (by (first | lia | omega)) fr.length 1 ρ4 _ f0 (by (first | lia | omega)) (by simp; (first | lia | omega)) rfl p2 p3 (by simp)
  have h4 : px GG (CC k) ["filled", "joined"] 95 (nmI 9) (upd ρ2 "joined" (.own [])) (stI 9 4) = ok (.next, ρ5) := by
    have : px GG (CC k) ["filled", "joined"] 95 (nmI 9) (upd ρ2 "joined" (.own [])) (stI 9 4) = bd (pits GG 94 (CC k) (nmI 9) (upd ρ2 "joined" (.own [])) (itOf (stI 9 4))) fun ds => ploop (onBody (pxs GG (CC k) ["filled", "joined"] 94 (nmI 9)) (inOf (stI 9 4))) "i" ds (upd ρ2 "joined" (.own [])) := by kernel_rfl
    rw [this]
    conv => lhs; arg 1; arg 6; whnf
    have hr : rangeOf (.int ((fr.length : Int) + 1)) = some (nums 0 (fr.length + 1)) := range_nums (n := fr.length + 1) (by simp at hfl; (first | lia | omega))
    have z : fr.length + 1 ≤ 10000 := by simp at hfl; (first | lia | omega)
    have zc : (((fr.length + 1 : Nat)) : Int) = (fr.length : Int) + 1 := by (first | lia | omega)
    simp only [bd_ok, vd_val, ofOpt_some, e_call, fn_len, i_range, upd_lit, pl_own, String.reduceEq, ne_eq, not_false_eq_true, ↓reduceIte, List.length_cons, eq_self, lim, lkv_own, n9x1, lk9_range, lk9_len, q2, List.length_map, List.map_cons, z, zc, hr]
    rw [nums_succ]
    exact (ploop_cons p1).trans s1
  have h5 : px GG (CC k) ["filled", "joined"] 94 (nmI 9) ρ5 (stI 9 5) = ok (.ret (.own "joined" ((joins ts).map Tk.v)), ρ5) := by
    conv => lhs; arg 7; whnf
    have e : (joins ts).map Tk.v = [f0.v] ++ (joinL (some f0) fr).map Tk.v := by
      unfold joins
      rw [hfs]
      conv => lhs; unfold joinL
      simp
    have s2 : ρ5 "joined" = some (.own ((joins ts).map Tk.v)) := by rw [s2, e]; rfl
    simp only [bd_ok, x_ret, eq_self, lkv_own, n9x5, s2]
  refine (pcall_eq (f := "with_joins") (r := .ok (.ret (.own "joined" ((joins ts).map Tk.v)), ρ5)) (by kernel_rfl) (by kernel_rfl) ?_).trans rfl
  have e0 : bindsOf (getFn "with_joins").params [.list (ts.map Tk.v)] = ρ0 := by rw [← hρ0]; kernel_rfl
  rw [e0, fn_9, ho, hb, show fuel = 99 + 1 from rfl]
  show pxs GG (CC k) ["filled", "joined"] (99 + 1) (nmI 9) ρ0 _ = _
  rw [pxs_next h0, pxs_next h1, pxs_next h2, pxs_next h3, pxs_next h4]
  exact pxs_ret h5
end Mine

-- SxP6
namespace Mine
open PySem PyProof.Rows

noncomputable def okStep (d : Int) : It → Option Int
  | .chr c => if c ∈ plainL then some (d + 1) else none
  | .any => some (d + 1)
  | .eps => some (d + 1)
  | .un _ => if d < 1 then none else some d
  | .cat => if d < 2 then none else some (d - 1)
  | .alt => if d < 2 then none else some (d - 1)
noncomputable def okRun (d : Int) : List It → Option Int
  | [] => some d
  | i :: is => match okStep d i with
    | some d' => okRun d' is
    | none => none
noncomputable def okList (is : List It) : Bool := match okRun 0 is with
  | some d => d == 1
  | none => false

theorem i_kind (t : It) : psub (.val t.v) (.int 0) = some (.str t.k) := rfl
theorem i_sign (t : It) : psub (.val t.v) (.int 1) = some (.str t.g) := rfl
theorem isi_tup (ds : List PV) : pisi (.tup ds) (Str.ofString "tuple") = some true := by kernel_rfl
theorem isi_str (x : Str) : pisi (.str x) (Str.ofString "str") = some true := by kernel_rfl

theorem in_parts : inOf (stI 12 1) = [inI (stI 12 1) 0, inI (stI 12 1) 1, inI (stI 12 1) 2, inI (stI 12 1) 3, inI (stI 12 1) 4] := by kernel_rfl
theorem ok_pre (k : Nat) (ρ : Loc) (x y : Str) (h1 : ρ "item" = some (.val (.tup [.str x, .str y]))) :
    ∃ ρ', pxs GG (CC k) [] 97 (nmI 12) ρ (inOf (stI 12 1)) = pxs GG (CC k) [] 93 (nmI 12) ρ' [inI (stI 12 1) 4] ∧ ρ' "kind" = some (.val (.str x)) ∧ ρ' "sign" = some (.val (.str y)) ∧ ρ' "depth" = ρ "depth" := by
  have e1 := isi_tup
  have e2 := isi_str
  have e3 : plen (.val (.tup [.str x, .str y])) = some (.int 2) := rfl
  have k1 : psub (.val (.tup [.str x, .str y])) (.int 0) = some (.str x) := rfl
  have k2 : psub (.val (.tup [.str x, .str y])) (.int 1) = some (.str y) := rfl
  have n22 : ((2 : Int) != 2) = false := by decide
  have q0 : px GG (CC k) [] 96 (nmI 12) ρ (inI (stI 12 1) 0) = ok (.next, ρ) := by
    conv => lhs; arg 7; whnf
    simp only [e3, bd_ok, bs_ok, vd_val, ofOpt_some, c_int, c_str, e_bin, e_call, s_const, evs_nil, evs_cons, fn_len, fn_isi, fo0, call_one, q_cmp, t_not, t_bool, t_cmp, t_call, a_nil', y_or, yo_no, y_if, y_yes, y_no, pxs_nil, y_cons, y_next, upd_same, upd_lit, con_nil, ic1, ic2, ic3, ic4, ic5, ic6, ic7, ic8, ic9, p_eq_s, p_ne_i, pb_add, String.reduceEq, ne_eq, not_false_eq_true, reduceCtorEq, eq_self, BEq.rfl, lkv_val, asK_val, asF_f, n12x1, s12x1, n12x2, n12x3, s12x3, n12x4, s12x4, lk12_isinstance, lk12_tuple, lk12_len, lk12_str, lk12_is_plain_sign, h1, e1, e2, n22, Bool.not_true, k1, k2, t_call]
  have q1 : px GG (CC k) [] 95 (nmI 12) ρ (inI (stI 12 1) 1) = ok (.next, upd ρ "kind" (.val (.str x))) := by
    conv => lhs; arg 7; whnf
    simp only [bd_ok, bs_ok, vd_val, ofOpt_some, c_int, c_str, e_bin, e_call, s_const, evs_nil, evs_cons, fn_len, fn_isi, fo0, call_one, q_cmp, t_not, t_bool, t_cmp, t_call, a_nil', y_or, yo_no, y_if, y_yes, y_no, pxs_nil, y_cons, y_next, upd_same, upd_lit, con_nil, ic1, ic2, ic3, ic4, ic5, ic6, ic7, ic8, ic9, p_eq_s, p_ne_i, pb_add, String.reduceEq, ne_eq, not_false_eq_true, reduceCtorEq, eq_self, BEq.rfl, lkv_val, asK_val, asF_f, n12x1, s12x1, n12x2, n12x3, s12x3, n12x4, s12x4, lk12_isinstance, lk12_tuple, lk12_len, lk12_str, lk12_is_plain_sign, h1, e1, e2, n22, Bool.not_true, k1, k2, t_call]
  have q2 : px GG (CC k) [] 94 (nmI 12) (upd ρ "kind" (.val (.str x))) (inI (stI 12 1) 2) = ok (.next, upd (upd ρ "kind" (.val (.str x))) "sign" (.val (.str y))) := by
    conv => lhs; arg 7; whnf
    simp only [bd_ok, bs_ok, vd_val, ofOpt_some, c_int, c_str, e_bin, e_call, s_const, evs_nil, evs_cons, fn_len, fn_isi, fo0, call_one, q_cmp, t_not, t_bool, t_cmp, t_call, a_nil', y_or, yo_no, y_if, y_yes, y_no, pxs_nil, y_cons, y_next, upd_same, upd_lit, con_nil, ic1, ic2, ic3, ic4, ic5, ic6, ic7, ic8, ic9, p_eq_s, p_ne_i, pb_add, String.reduceEq, ne_eq, not_false_eq_true, reduceCtorEq, eq_self, BEq.rfl, lkv_val, asK_val, asF_f, n12x1, s12x1, n12x2, n12x3, s12x3, n12x4, s12x4, lk12_isinstance, lk12_tuple, lk12_len, lk12_str, lk12_is_plain_sign, h1, e1, e2, n22, Bool.not_true, k1, k2, t_call]
  have q3 : px GG (CC k) [] 93 (nmI 12) (upd (upd ρ "kind" (.val (.str x))) "sign" (.val (.str y))) (inI (stI 12 1) 3) = ok (.next, upd (upd ρ "kind" (.val (.str x))) "sign" (.val (.str y))) := by
    conv => lhs; arg 7; whnf
    simp only [bd_ok, bs_ok, vd_val, ofOpt_some, c_int, c_str, e_bin, e_call, s_const, evs_nil, evs_cons, fn_len, fn_isi, fo0, call_one, q_cmp, t_not, t_bool, t_cmp, t_call, a_nil', y_or, yo_no, y_if, y_yes, y_no, pxs_nil, y_cons, y_next, upd_same, upd_lit, con_nil, ic1, ic2, ic3, ic4, ic5, ic6, ic7, ic8, ic9, p_eq_s, p_ne_i, pb_add, String.reduceEq, ne_eq, not_false_eq_true, reduceCtorEq, eq_self, BEq.rfl, lkv_val, asK_val, asF_f, n12x1, s12x1, n12x2, n12x3, s12x3, n12x4, s12x4, lk12_isinstance, lk12_tuple, lk12_len, lk12_str, lk12_is_plain_sign, h1, e1, e2, n22, Bool.not_true, k1, k2, t_call]
  refine ⟨upd (upd ρ "kind" (.val (.str x))) "sign" (.val (.str y)), ?_, ?_, ?_, ?_⟩
  · rw [in_parts, pxs_next q0, pxs_next q1, pxs_next q2, pxs_next q3]
  · simp only [upd_lit, upd_same, ne_eq, String.reduceEq, not_false_eq_true]
  · simp only [upd_same]
  · simp only [upd_lit, ne_eq, String.reduceEq, not_false_eq_true]
theorem ok_turn (k : Nat) (ρ : Loc) (d : Int) (t : It) (h1 : ρ "item" = some (.val t.v)) (h2 : ρ "depth" = some (.val (.int d))) :
    match okStep d t with
    | some d' => ∃ ρ', pxs GG (CC (k + 1)) [] 97 (nmI 12) ρ (inOf (stI 12 1)) = ok (.next, ρ') ∧ ρ' "depth" = some (.val (.int d'))
    | none => ∃ ρ', pxs GG (CC (k + 1)) [] 97 (nmI 12) ρ (inOf (stI 12 1)) = ok (.ret (.val (.bool false)), ρ') := by
  obtain ⟨ρ2, hpre, r1, r2, r3⟩ := ok_pre (k + 1) ρ t.k t.g h1
  rw [h2] at r3
  rw [hpre]
  have e1 : ∀ t : It, pisi t.v (Str.ofString "tuple") = some true := fun t => isi_tup _
  have e2 := isi_str
  have e3 : ∀ t : It, plen (.val t.v) = some (.int 2) := fun t => rfl
  have n22 : ((2 : Int) != 2) = false := by decide
  cases t with
  | chr c =>
    have k1 := i_kind (.chr c)
    have k2 := i_sign (.chr c)
    have k3 : (It.chr c).k = Str.ofString "chr" := rfl
    have k4 : (It.chr c).g = sg c := rfl
    have hp := is_plain_sg k c
    by_cases c1 : c ∈ plainL
    · have d1 := decide_eq_true c1
      simp only [okStep, if_pos c1]
      conv in pxs _ _ _ _ _ _ _ => arg 7; arg 1; whnf
      simp only [r1, r2, r3, bd_ok, bs_ok, vd_val, ofOpt_some, c_int, c_str, e_bin, e_call, s_const, evs_nil, evs_cons, fn_len, fn_isi, fo0, call_one, q_cmp, t_not, t_bool, t_cmp, t_call, a_nil', y_or, yo_no, y_if, y_yes, y_no, pxs_nil, y_cons, y_next, upd_same, upd_lit, con_nil, ic1, ic2, ic3, ic4, ic5, ic6, ic7, ic8, ic9, p_eq_s, p_ne_i, pb_add, String.reduceEq, ne_eq, not_false_eq_true, reduceCtorEq, eq_self, BEq.rfl, lkv_val, asK_val, asF_f, n12x1, s12x1, n12x2, n12x3, s12x3, n12x4, s12x4, lk12_isinstance, lk12_tuple, lk12_len, lk12_str, lk12_is_plain_sign, h1, h2, e1, e2, e3, n22, Bool.not_true, k1, k2, k3, k4, hp, d1]
      exact ⟨_, rfl, by simp only [upd_same]⟩
    · have d1 := decide_eq_false c1
      simp only [okStep, if_neg c1]
      conv in pxs _ _ _ _ _ _ _ => arg 7; arg 1; whnf
      simp only [r1, r2, r3, bd_ok, bs_ok, vd_val, ofOpt_some, c_bool, c_int, c_str, e_call, s_const, evs_nil, evs_cons, fn_len, fn_isi, fo0, call_one, q_cmp, t_not, t_bool, t_cmp, t_call, a_nil', y_or, yo_no, y_if, y_yes, y_no, x_ret, pxs_nil, y_cons, y_next, y_ret, upd_same, upd_lit, con_nil, ic1, ic2, ic3, ic4, ic5, ic6, ic7, ic8, ic9, p_eq_s, p_ne_i, String.reduceEq, ne_eq, not_false_eq_true, reduceCtorEq, eq_self, BEq.rfl, lkv_val, asK_val, asF_f, n12x2, n12x3, s12x3, n12x4, s12x4, lk12_isinstance, lk12_tuple, lk12_len, lk12_str, lk12_is_plain_sign, h1, e1, e2, e3, n22, Bool.not_true, Bool.not_false, k1, k2, k3, k4, hp, d1]
      exact ⟨_, rfl⟩
  | any =>
    have k1 := i_kind .any
    have k2 := i_sign .any
    have k3 : It.any.k = Str.ofString "any" := rfl
    have k4 : It.any.g = Str.ofString "" := rfl
    simp only [okStep]
    conv in pxs _ _ _ _ _ _ _ => arg 7; arg 1; whnf
    simp only [r1, r2, r3, bd_ok, bs_ok, vd_val, ofOpt_some, c_int, c_str, e_bin, e_call, e_tup, s_const, evs_nil, evs_cons, vals_nil, vals_cons, fn_len, fn_isi, q_cmp, t_not, t_bool, t_cmp, t_call, a_nil', y_or, yo_no, y_if, y_yes, y_no, pxs_nil, y_cons, y_next, upd_same, upd_lit, con_nil, beq_lit, ic1, ic2, ic3, ic4, ic5, ic6, ic7, ic8, ic9, p_eq_s, p_ne_s, p_ne_i, p_in_t, pb_add, ss_nil, ss_cons, List.any_cons, List.any_nil, String.reduceEq, ne_eq, not_false_eq_true, Bool.or_false, reduceCtorEq, ↓reduceIte, List.length_cons, List.length_nil, decide_false, eq_self, Nat.reduceAdd, Nat.reduceLeDiff, lim, BEq.rfl, lkv_val, asK_val, asF_f, n12x1, s12x1, n12x2, n12x3, s12x3, n12x4, s12x4, lk12_isinstance, lk12_tuple, lk12_len, lk12_str, h1, h2, e1, e2, e3, n22, Bool.not_true, k1, k2, k3, k4, bne_self_eq_false]
    exact ⟨_, rfl, by simp only [upd_same]⟩
  | eps =>
    have k1 := i_kind .eps
    have k2 := i_sign .eps
    have k3 : It.eps.k = Str.ofString "eps" := rfl
    have k4 : It.eps.g = Str.ofString "" := rfl
    simp only [okStep]
    conv in pxs _ _ _ _ _ _ _ => arg 7; arg 1; whnf
    simp only [r1, r2, r3, bd_ok, bs_ok, vd_val, ofOpt_some, c_int, c_str, e_bin, e_call, e_tup, s_const, evs_nil, evs_cons, vals_nil, vals_cons, fn_len, fn_isi, q_cmp, t_not, t_bool, t_cmp, t_call, a_nil', y_or, yo_no, y_if, y_yes, y_no, pxs_nil, y_cons, y_next, upd_same, upd_lit, con_nil, beq_lit, ic1, ic2, ic3, ic4, ic5, ic6, ic7, ic8, ic9, p_eq_s, p_ne_s, p_ne_i, p_in_t, pb_add, ss_nil, ss_cons, List.any_cons, List.any_nil, String.reduceEq, ne_eq, not_false_eq_true, Bool.or_false, Bool.or_true, reduceCtorEq, ↓reduceIte, List.length_cons, List.length_nil, decide_false, eq_self, Nat.reduceAdd, Nat.reduceLeDiff, lim, BEq.rfl, lkv_val, asK_val, asF_f, n12x1, s12x1, n12x2, n12x3, s12x3, n12x4, s12x4, lk12_isinstance, lk12_tuple, lk12_len, lk12_str, h1, h2, e1, e2, e3, n22, Bool.not_true, k1, k2, k3, k4, bne_self_eq_false]
    exact ⟨_, rfl, by simp only [upd_same]⟩
  | cat =>
    have k1 := i_kind .cat
    have k2 := i_sign .cat
    have k3 : It.cat.k = Str.ofString "cat" := rfl
    have k4 : It.cat.g = Str.ofString "" := rfl
    by_cases c1 : d < 2
    · have d1 := decide_eq_true c1
      simp only [okStep, if_pos c1]
      conv in pxs _ _ _ _ _ _ _ => arg 7; arg 1; whnf
      simp only [r1, r2, r3, bd_ok, bs_ok, vd_val, ofOpt_some, c_bool, c_int, c_str, e_call, e_tup, s_const, evs_nil, evs_cons, vals_nil, vals_cons, fn_len, fn_isi, q_cmp, t_not, t_bool, t_cmp, t_call, a_nil', y_or, yo_no, y_if, y_yes, y_no, x_ret, pxs_nil, y_cons, y_next, y_ret, upd_same, upd_lit, con_nil, beq_lit, ic1, ic2, ic3, ic4, ic5, ic6, ic7, ic8, ic9, p_eq_s, p_ne_s, p_ne_i, p_lt, p_in_t, ss_nil, ss_cons, List.any_cons, List.any_nil, String.reduceEq, ne_eq, not_false_eq_true, Bool.or_false, reduceCtorEq, ↓reduceIte, List.length_cons, List.length_nil, decide_false, eq_self, Nat.reduceAdd, Nat.reduceLeDiff, lim, BEq.rfl, lkv_val, asK_val, asF_f, n12x1, n12x2, n12x3, s12x3, n12x4, s12x4, lk12_isinstance, lk12_tuple, lk12_len, lk12_str, h1, h2, e1, e2, e3, n22, Bool.not_true, k1, k2, k3, k4, bne_self_eq_false, d1]
      exact ⟨_, rfl⟩
    · have d1 := decide_eq_false c1
      simp only [okStep, if_neg c1]
      conv in pxs _ _ _ _ _ _ _ => arg 7; arg 1; whnf
      simp only [r1, r2, r3, bd_ok, bs_ok, vd_val, ofOpt_some, c_int, c_str, e_bin, e_call, e_tup, s_const, evs_nil, evs_cons, vals_nil, vals_cons, fn_len, fn_isi, q_cmp, t_not, t_bool, t_cmp, t_call, a_nil', y_or, yo_no, y_if, y_yes, y_no, pxs_nil, y_cons, y_next, upd_same, upd_lit, con_nil, beq_lit, ic1, ic2, ic3, ic4, ic5, ic6, ic7, ic8, ic9, p_eq_s, p_ne_s, p_ne_i, p_lt, p_in_t, pb_sub, ss_nil, ss_cons, List.any_cons, List.any_nil, String.reduceEq, ne_eq, not_false_eq_true, Bool.or_false, reduceCtorEq, ↓reduceIte, List.length_cons, List.length_nil, decide_false, eq_self, Nat.reduceAdd, Nat.reduceLeDiff, lim, BEq.rfl, lkv_val, asK_val, asF_f, n12x1, s12x1, n12x2, n12x3, s12x3, n12x4, s12x4, lk12_isinstance, lk12_tuple, lk12_len, lk12_str, h1, h2, e1, e2, e3, n22, Bool.not_true, k1, k2, k3, k4, bne_self_eq_false, d1]
      exact ⟨_, rfl, by simp only [upd_same]⟩
  | alt =>
    have k1 := i_kind .alt
    have k2 := i_sign .alt
    have k3 : It.alt.k = Str.ofString "alt" := rfl
    have k4 : It.alt.g = Str.ofString "" := rfl
    by_cases c1 : d < 2
    · have d1 := decide_eq_true c1
      simp only [okStep, if_pos c1]
      conv in pxs _ _ _ _ _ _ _ => arg 7; arg 1; whnf
      simp only [r1, r2, r3, bd_ok, bs_ok, vd_val, ofOpt_some, c_bool, c_int, c_str, e_call, e_tup, s_const, evs_nil, evs_cons, vals_nil, vals_cons, fn_len, fn_isi, q_cmp, t_not, t_bool, t_cmp, t_call, a_nil', y_or, yo_no, y_if, y_yes, y_no, x_ret, pxs_nil, y_cons, y_next, y_ret, upd_same, upd_lit, con_nil, beq_lit, ic1, ic2, ic3, ic4, ic5, ic6, ic7, ic8, ic9, p_eq_s, p_ne_s, p_ne_i, p_lt, p_in_t, ss_nil, ss_cons, List.any_cons, List.any_nil, String.reduceEq, ne_eq, not_false_eq_true, Bool.or_false, Bool.or_true, reduceCtorEq, ↓reduceIte, List.length_cons, List.length_nil, decide_false, eq_self, Nat.reduceAdd, Nat.reduceLeDiff, lim, BEq.rfl, lkv_val, asK_val, asF_f, n12x1, n12x2, n12x3, s12x3, n12x4, s12x4, lk12_isinstance, lk12_tuple, lk12_len, lk12_str, h1, h2, e1, e2, e3, n22, Bool.not_true, k1, k2, k3, k4, bne_self_eq_false, d1]
      exact ⟨_, rfl⟩
    · have d1 := decide_eq_false c1
      simp only [okStep, if_neg c1]
      conv in pxs _ _ _ _ _ _ _ => arg 7; arg 1; whnf
      simp only [r1, r2, r3, bd_ok, bs_ok, vd_val, ofOpt_some, c_int, c_str, e_bin, e_call, e_tup, s_const, evs_nil, evs_cons, vals_nil, vals_cons, fn_len, fn_isi, q_cmp, t_not, t_bool, t_cmp, t_call, a_nil', y_or, yo_no, y_if, y_yes, y_no, pxs_nil, y_cons, y_next, upd_same, upd_lit, con_nil, beq_lit, ic1, ic2, ic3, ic4, ic5, ic6, ic7, ic8, ic9, p_eq_s, p_ne_s, p_ne_i, p_lt, p_in_t, pb_sub, ss_nil, ss_cons, List.any_cons, List.any_nil, String.reduceEq, ne_eq, not_false_eq_true, Bool.or_false, Bool.or_true, reduceCtorEq, ↓reduceIte, List.length_cons, List.length_nil, decide_false, eq_self, Nat.reduceAdd, Nat.reduceLeDiff, lim, BEq.rfl, lkv_val, asK_val, asF_f, n12x1, s12x1, n12x2, n12x3, s12x3, n12x4, s12x4, lk12_isinstance, lk12_tuple, lk12_len, lk12_str, h1, h2, e1, e2, e3, n22, Bool.not_true, k1, k2, k3, k4, bne_self_eq_false, d1]
      exact ⟨_, rfl, by simp only [upd_same]⟩
  | un u =>
    have k1 := i_kind (.un u)
    have k2 := i_sign (.un u)
    have k3 : (It.un u).k = u.n := rfl
    have k4 : (It.un u).g = Str.ofString "" := rfl
    by_cases c1 : d < 1
    · have d1 := decide_eq_true c1
      simp only [okStep, if_pos c1]
      conv in pxs _ _ _ _ _ _ _ => arg 7; arg 1; whnf
      cases u <;> simp only [r1, r2, r3, bd_ok, bs_ok, vd_val, ofOpt_some, c_bool, c_int, c_str, e_call, e_tup, s_const, evs_nil, evs_cons, vals_nil, vals_cons, fn_len, fn_isi, q_cmp, t_not, t_bool, t_cmp, t_call, a_nil', y_or, yo_no, y_if, y_yes, y_no, x_ret, pxs_nil, y_cons, y_next, y_ret, upd_same, upd_lit, con_nil, beq_lit, ic1, ic2, ic3, ic4, ic5, ic6, ic7, ic8, ic9, p_eq_s, p_ne_s, p_ne_i, p_lt, p_in_t, ss_nil, ss_cons, List.any_cons, List.any_nil, String.reduceEq, ne_eq, not_false_eq_true, Bool.or_false, Bool.or_true, reduceCtorEq, ↓reduceIte, List.length_cons, List.length_nil, decide_false, eq_self, Nat.reduceAdd, Nat.reduceLeDiff, lim, BEq.rfl, lkv_val, asK_val, asF_f, n12x1, n12x2, n12x3, s12x3, n12x4, s12x4, lk12_isinstance, lk12_tuple, lk12_len, lk12_str, h1, h2, e1, e2, e3, n22, Bool.not_true, k1, k2, k3, k4, bne_self_eq_false, d1, U.n] <;> exact ⟨_, rfl⟩
    · have d1 := decide_eq_false c1
      simp only [okStep, if_neg c1]
      conv in pxs _ _ _ _ _ _ _ => arg 7; arg 1; whnf
      cases u <;> simp only [r1, r2, r3, bd_ok, bs_ok, vd_val, ofOpt_some, c_int, c_str, e_call, e_tup, s_const, evs_nil, evs_cons, vals_nil, vals_cons, fn_len, fn_isi, q_cmp, t_not, t_bool, t_cmp, t_call, a_nil', y_or, yo_no, y_if, y_yes, y_no, pxs_nil, y_cons, y_next, upd_same, upd_lit, con_nil, beq_lit, ic1, ic2, ic3, ic4, ic5, ic6, ic7, ic8, ic9, p_eq_s, p_ne_s, p_ne_i, p_lt, p_in_t, ss_nil, ss_cons, List.any_cons, List.any_nil, String.reduceEq, ne_eq, not_false_eq_true, Bool.or_false, Bool.or_true, reduceCtorEq, ↓reduceIte, List.length_cons, List.length_nil, decide_false, eq_self, Nat.reduceAdd, Nat.reduceLeDiff, lim, BEq.rfl, lkv_val, asK_val, asF_f, n12x1, n12x2, n12x3, s12x3, n12x4, s12x4, lk12_isinstance, lk12_tuple, lk12_len, lk12_str, h1, h2, e1, e2, e3, n22, Bool.not_true, k1, k2, k3, k4, bne_self_eq_false, d1, U.n] <;> exact ⟨_, rfl, r3⟩

theorem ploop_ret {body : Loc → M (Fl × Loc)} {x : Str} {d : PV} {r : List PV} {ρ ρ' : Loc} {v : RV} (h : body (upd ρ x (.val d)) = ok (.ret v, ρ')) : ploop body x (d :: r) ρ = ok (.ret v, ρ') := by
  show bd (body (upd ρ x (.val d))) _ = _
  rw [h]; rfl

theorem ok_loop (k : Nat) : ∀ (is : List It) (ρ : Loc) (d : Int), ρ "depth" = some (.val (.int d)) →
    match okRun d is with
    | some d' => ∃ ρ', ploop (onBody (pxs GG (CC (k + 1)) [] 97 (nmI 12)) (inOf (stI 12 1))) "item" (is.map It.v) ρ = ok (.next, ρ') ∧ ρ' "depth" = some (.val (.int d'))
    | none => ∃ ρ', ploop (onBody (pxs GG (CC (k + 1)) [] 97 (nmI 12)) (inOf (stI 12 1))) "item" (is.map It.v) ρ = ok (.ret (.val (.bool false)), ρ')
  | [], ρ, d, h => ⟨ρ, rfl, h⟩
  | t :: is, ρ, d, h => by
    have ht := ok_turn k (upd ρ "item" (.val t.v)) d t (by simp only [upd_same]) (by simp only [upd_lit, ne_eq, String.reduceEq, not_false_eq_true, h])
    unfold okRun
    cases hs : okStep d t with
    | none =>
      rw [hs] at ht
      obtain ⟨ρ', q⟩ := ht
      exact ⟨ρ', ploop_ret q⟩
    | some d' =>
      rw [hs] at ht
      obtain ⟨ρ1, q1, q2⟩ := ht
      have ih := ok_loop k is ρ1 d' q2
      dsimp only
      cases hr : okRun d' is with
      | none =>
        rw [hr] at ih
        obtain ⟨ρ', q⟩ := ih
        exact ⟨ρ', (ploop_cons q1).trans q⟩
      | some d2 =>
        rw [hr] at ih
        obtain ⟨ρ', q, q'⟩ := ih
        exact ⟨ρ', (ploop_cons q1).trans q, q'⟩

theorem fn_12 : getFn "postfix_ok" = fnI 12 := by kernel_rfl
theorem ok_head (k : Nat) (L : List PV) (r : M (Fl × Loc)) (ρ0 : Loc) (hρ : ρ0 "post" = some (.val (.list L))) (hr : ploop (onBody (pxs GG (CC k) [] 97 (nmI 12)) (inOf (stI 12 1))) "item" L (upd ρ0 "depth" (.val (.int 0))) = r) :
    pxs GG (CC k) [] (99 + 1) (nmI 12) ρ0 (fnI 12).body = bd r fun q => match q.1 with
        | .next => pxs GG (CC k) [] 98 (nmI 12) q.2 [stI 12 2]
        | f => ok (f, q.2) := by
  have hb : (fnI 12).body = [stI 12 0, stI 12 1, stI 12 2] := by kernel_rfl
  have h0 : px GG (CC k) [] 99 (nmI 12) ρ0 (stI 12 0) = ok (.next, upd ρ0 "depth" (.val (.int 0))) := by kernel_rfl
  have h1 : px GG (CC k) [] 98 (nmI 12) (upd ρ0 "depth" (.val (.int 0))) (stI 12 1) = r := by
    have : px GG (CC k) [] 98 (nmI 12) (upd ρ0 "depth" (.val (.int 0))) (stI 12 1) = bd (pits GG 97 (CC k) (nmI 12) (upd ρ0 "depth" (.val (.int 0))) (itOf (stI 12 1))) fun ds => ploop (onBody (pxs GG (CC k) [] 97 (nmI 12)) (inOf (stI 12 1))) "item" ds (upd ρ0 "depth" (.val (.int 0))) := by kernel_rfl
    rw [this, ← hr]
    conv => lhs; arg 1; arg 6; whnf
    simp only [bd_ok, ofOpt_some, i_name, upd_lit, String.reduceEq, ne_eq, not_false_eq_true, eq_self, lkv_val, n12x0, hρ, itemsOf]
  rw [hb, pxs_next h0, pxs_cons, h1]
  all_goals rfl

theorem postfix_eq (k : Nat) (is : List It) : CC (k + 2) "postfix_ok" [.list (is.map It.v)] = ok (.bool (okList is)) := by
  generalize hρ0 : bindsOf (getFn "postfix_ok").params [.list (is.map It.v)] = ρ0
  have r0 : ρ0 "post" = some (.val (.list (is.map It.v))) := by rw [← hρ0]; kernel_rfl
  have hl := ok_loop k is (upd ρ0 "depth" (.val (.int 0))) 0 (by simp only [upd_same])
  unfold okList
  cases hq : okRun 0 is with
  | none =>
    rw [hq] at hl
    obtain ⟨ρ', q⟩ := hl
    refine (pcall_eq (f := "postfix_ok") (r := .ok (.ret (.val (.bool false)), ρ')) (by kernel_rfl) (by kernel_rfl) ?_).trans rfl
    rw [hρ0, fn_12]
    exact (ok_head (k + 1) _ _ ρ0 r0 q).trans rfl
  | some d =>
    rw [hq] at hl
    obtain ⟨ρ', q, q2⟩ := hl
    refine (pcall_eq (f := "postfix_ok") (r := .ok (.ret (.val (.bool (d == 1))), ρ')) (by kernel_rfl) (by kernel_rfl) ?_).trans rfl
    rw [hρ0, fn_12]
    refine (ok_head (k + 1) _ _ ρ0 r0 q).trans ?_
    show pxs GG (CC (k + 1)) [] 98 (nmI 12) ρ' [stI 12 2] = _
    conv => lhs; arg 7; arg 1; whnf
    simp only [bd_ok, bs_ok, vd_val, ofOpt_some, c_int, e_cmp, q_cmp, x_ret, y_cons, y_ret, p_eq_i, ne_eq, not_false_eq_true, reduceCtorEq, lkv_val, n12x1, q2]
    rfl
end Mine

-- SxP7
namespace Mine
open PySem PyProof.Rows

inductive O where
  | op
  | bar
  | amp
noncomputable def O.k : O → Str
  | .op => "("
  | .bar => "|"
  | .amp => "&"
noncomputable def O.i : O → It
  | .amp => .cat
  | _ => .alt
noncomputable def O.v (o : O) : PV := .str o.k

theorem fn_11 : getFn "operator_name" = fnI 11 := by kernel_rfl
theorem opname_eq (k : Nat) (o : O) : CC (k + 1) "operator_name" [.str o.k] = ok (.str o.i.k) := by
  cases o <;> kernel_rfl

/-- the Python list of a stack -/
noncomputable def opsV (st : List O) : List PV := (st.reverse).map O.v
theorem opsV_cons (o : O) (r : List O) : opsV (o :: r) = opsV r ++ [o.v] := by simp [opsV]
theorem opsV_len (st : List O) : (opsV st).length = st.length := by simp [opsV]
theorem last_own {x : Str} {T : List PV} {d : PV} : psub (.own x (T ++ [d])) (.int (-1)) = some d := by
  show pitem _ _ = _
  unfold pitem
  rw [if_neg (by decide), if_pos (by simp [lim]; (first | lia | omega))]
  have : (-1 + ((T ++ [d]).length : Int)).toNat = T.length := by simp; (first | lia | omega)
  rw [this]; simp

noncomputable def nth (l : List Stmt) (j : Nat) : Stmt := l[j]?.getD (.Pass ⟨0, 0, 0, 0⟩)
noncomputable def thenOf (s : Stmt) : List Stmt := (partsOf s).2.1
noncomputable def elseOf (s : Stmt) : List Stmt := (partsOf s).2.2
/-- the branch on ')' and on the two operators -/
noncomputable def ifCl : Stmt := nth (elseOf (nth (elseOf (nth (elseOf (inI (stI 10 2) 1)) 0)) 0)) 0
noncomputable def forCl : Stmt := nth (thenOf ifCl) 1
noncomputable def forBin : Stmt := nth (elseOf ifCl) 0

theorem isCl (o : O) : (o.k == Str.ofString "(") = match o with | .op => true | _ => false := by cases o <;> decide +kernel

theorem cl_break (k n : Nat) (ρ : Loc) (T : List PV) (h2 : ρ "ops" = some (.own (T ++ [O.op.v]))) (hT : T.length ≤ 5000) :
    pxs GG (CC (k + 1)) ["out", "ops"] (n + 20) (nmI 10) ρ (inOf forCl) = ok (.brk, upd (upd ρ "top" (.val (.str "("))) "ops" (.own T)) := by
  conv => lhs; arg 7; whnf
  have hl : psub (.own (Str.ofString "ops") (T ++ [O.op.v])) (.int (-1)) = some (.str "(") := last_own
  have z : ¬ ((T ++ [O.op.v]).length = 0 ∨ 10000 < (T ++ [O.op.v]).length) := by simp; (first | lia | omega)
  have zd : (T ++ [O.op.v]).dropLast = T := by simp
  simp only [bd_ok, bs_ok, vd_val, ofOpt_some, c_str, c_neg, s_neg, q_cmp, t_cmp, y_if, y_yes, x_brk, x_del, y_cons, y_next, y_brk, odd_lit, upd_same, upd_lit, con_nil, con_cons, beq_lit, ic1, ic2, ic3, ic4, ic5, ic6, ic7, ic8, ic9, p_eq_s, String.reduceEq, ne_eq, not_false_eq_true, Bool.or_false, reduceCtorEq, ↓reduceIte, decide_false, eq_self, lim, BEq.rfl, lkv_val, lkv_own, asK_val, asF_f, lk10_ops, n10x2, n10x6, s10x6, h2, hl, z, zd]
theorem cl_pop (k n : Nat) (ρ : Loc) (T X : List PV) (o : O) (ho : (o.k == Str.ofString "(") = false) (h1 : ρ "out" = some (.own X)) (h2 : ρ "ops" = some (.own (T ++ [o.v]))) (hT : T.length ≤ 5000) (hX : X.length < 9000) :
    pxs GG (CC (k + 1)) ["out", "ops"] (n + 20) (nmI 10) ρ (inOf forCl) = ok (.next, upd (upd (upd ρ "top" (.val (.str o.k))) "ops" (.own T)) "out" (.own (X ++ [o.i.v]))) := by
  conv => lhs; arg 7; whnf
  have hl : psub (.own (Str.ofString "ops") (T ++ [o.v])) (.int (-1)) = some (.str o.k) := last_own
  have z : ¬ ((T ++ [o.v]).length = 0 ∨ 10000 < (T ++ [o.v]).length) := by simp; (first | lia | omega)
  have zd : (T ++ [o.v]).dropLast = T := by simp
  have z2 : X.length < 10000 := by (first | lia | omega)
  have hn := opname_eq k o
  have hv : o.i.v = .tup [.str o.i.k, .str (Str.ofString "")] := by cases o <;> rfl
  simp only [bd_ok, bs_ok, vd_val, ofOpt_some, c_str, c_neg, e_call, e_tup, s_neg, evs_nil, evs_cons, vals_nil, vals_cons, fo4, call_one, q_cmp, t_cmp, y_if, y_no, x_append, x_del, pxs_nil, y_cons, y_next, odd_lit, upd_same, upd_lit, con_nil, con_cons, beq_lit, ic1, ic2, ic3, ic4, ic5, ic6, ic7, ic8, ic9, p_eq_s, String.reduceEq, ne_eq, not_false_eq_true, Bool.or_false, reduceCtorEq, ↓reduceIte, List.length_cons, List.length_nil, decide_false, eq_self, Nat.reduceAdd, Nat.reduceLeDiff, lim, BEq.rfl, lkv_val, lkv_own, asK_val, asF_f, lk10_out, lk10_ops, n10x2, n10x6, s10x6, lk10_operator_name, h1, h2, hl, z, zd, ho, hn, z2, hv]
theorem ploop_brk {body : Loc → M (Fl × Loc)} {x : Str} {d : PV} {r : List PV} {ρ ρ' : Loc} (h : body (upd ρ x (.val d)) = ok (.brk, ρ')) : ploop body x (d :: r) ρ = ok (.next, ρ') := by
  show bd (body (upd ρ x (.val d))) _ = _
  rw [h]; rfl
theorem ploop_err {body : Loc → M (Fl × Loc)} {x : Str} {d : PV} {r : List PV} {ρ : Loc} {m : Str} (h : body (upd ρ x (.val d)) = some (.error m)) : ploop body x (d :: r) ρ = some (.error m) := by
  show bd (body (upd ρ x (.val d))) _ = _
  rw [h]; rfl

noncomputable def O.isOp : O → Bool
  | .op => true
  | _ => false
theorem isOp_eq (o : O) : (o.k == Str.ofString "(") = o.isOp := by cases o <;> decide +kernel

/-- what a ')' takes from the stack -/
noncomputable def popCl : List O → List It × List O
  | [] => ([], [])
  | o :: r => if o.isOp then ([], r) else (o.i :: (popCl r).1, (popCl r).2)
/-- where an operator stops -/
noncomputable def stops (amp : Bool) : O → Bool
  | .op => true
  | .bar => amp
  | .amp => false
/-- what an operator takes from the stack -/
noncomputable def popBin (amp : Bool) : List O → List It × List O
  | [] => ([], [])
  | o :: r => if stops amp o then ([], o :: r) else (o.i :: (popBin amp r).1, (popBin amp r).2)

theorem cl_loop (k n : Nat) : ∀ (st : List O) (L : List PV) (ρ : Loc) (X : List PV), L.length = st.length → (st.any O.isOp) = true → ρ "out" = some (.own X) → ρ "ops" = some (.own (opsV st)) → st.length + X.length ≤ 5000 →
    ∃ ρ', ploop (onBody (pxs GG (CC (k + 1)) ["out", "ops"] (n + 20) (nmI 10)) (inOf forCl)) "k" L ρ = ok (.next, ρ') ∧ ρ' "out" = some (.own (X ++ (popCl st).1.map It.v)) ∧ ρ' "ops" = some (.own (opsV (popCl st).2))
  | [], L, ρ, X, hl, ha, h1, h2, hz => by cases ha
  | o :: r, [], ρ, X, hl, ha, h1, h2, hz => by cases hl
  | o :: r, d :: L, ρ, X, hl, ha, h1, h2, hz => by
    rw [opsV_cons] at h2
    have hz' : r.length + 1 + X.length ≤ 5000 := hz
    by_cases ho : o.isOp = true
    · obtain rfl : o = .op := by cases o <;> first | rfl | cases ho
      have q := cl_break k n (upd ρ "k" (.val d)) (opsV r) (by simp only [upd_lit, ne_eq, String.reduceEq, not_false_eq_true, h2]) (by rw [opsV_len]; (first | lia | omega))
      refine ⟨_, ploop_brk q, ?_, ?_⟩
      · simp [upd_lit, ne_eq, String.reduceEq, not_false_eq_true, h1, popCl, O.isOp]
      · simp [upd_same, popCl, O.isOp]
    · have ho' : o.isOp = false := by simpa using ho
      have q := cl_pop k n (upd ρ "k" (.val d)) (opsV r) X o ((isOp_eq o).trans ho') (by simp only [upd_lit, ne_eq, String.reduceEq, not_false_eq_true, h1]) (by simp only [upd_lit, ne_eq, String.reduceEq, not_false_eq_true, h2]) (by rw [opsV_len]; (first | lia | omega)) (by (first | lia | omega))
      obtain ⟨ρ', p1, p2, p3⟩ := cl_loop k n r L (upd (upd (upd (upd ρ "k" (.val d)) "top" (.val (.str o.k))) "ops" (.own (opsV r))) "out" (.own (X ++ [o.i.v]))) (X ++ [o.i.v]) (by simpa using hl) (by simpa [ho'] using ha) (by simp only [upd_same]) (by simp only [upd_lit, upd_same, ne_eq, String.reduceEq, not_false_eq_true]) (by simp; (first | lia | omega))
      refine ⟨ρ', (ploop_cons q).trans p1, ?_, ?_⟩
      · rw [p2]; simp [popCl, ho']
      · rw [p3]; simp [popCl, ho']

theorem isBar_eq (o : O) : (o.k == Str.ofString "|") = match o with | .bar => true | _ => false := by cases o <;> decide +kernel
theorem isAmp_eq (o : O) : (o.k == Str.ofString "&") = match o with | .amp => true | _ => false := by cases o <;> decide +kernel

theorem bin_break (k n : Nat) (ρ : Loc) (T : List PV) (o : O) (kd : Str) (amp : Bool) (hk : (kd == Str.ofString "&") = amp) (hs : (stops amp o) = true) (h2 : ρ "ops" = some (.own (T ++ [o.v]))) (h3 : ρ "kind" = some (.val (.str kd))) :
    pxs GG (CC (k + 1)) ["out", "ops"] (n + 20) (nmI 10) ρ (inOf forBin) = ok (.brk, upd ρ "top" (.val (.str o.k))) := by
  conv => lhs; arg 7; whnf
  have hl : psub (.own (Str.ofString "ops") (T ++ [o.v])) (.int (-1)) = some (.str o.k) := last_own
  have i1 := isOp_eq o
  have i2 := isBar_eq o
  cases o <;> cases amp <;> first
    | (exfalso; revert hs; decide)
    | (simp only [O.isOp] at i1 i2
       simp only [bd_ok, bs_ok, vd_val, ofOpt_some, c_str, c_neg, s_neg, q_cmp, t_bool, t_cmp, a_nil, y_and, y_or, ya_yes, yo_yes, yo_no, y_if, y_yes, x_brk, y_cons, y_next, y_brk, upd_same, upd_lit, con_nil, con_cons, beq_lit, ic1, ic2, ic3, ic4, ic5, ic6, ic7, ic8, ic9, p_eq_s, String.reduceEq, ne_eq, not_false_eq_true, Bool.or_false, reduceCtorEq, decide_false, eq_self, lkv_val, lkv_own, asK_val, asF_f, n10x2, n10x4, n10x6, s10x6, h2, h3, hl, i1, i2, hk])
theorem bin_pop (k n : Nat) (ρ : Loc) (T X : List PV) (o : O) (kd : Str) (amp : Bool) (hk : (kd == Str.ofString "&") = amp) (hs : (stops amp o) = false) (h1 : ρ "out" = some (.own X)) (h2 : ρ "ops" = some (.own (T ++ [o.v]))) (h3 : ρ "kind" = some (.val (.str kd))) (hT : T.length ≤ 5000) (hX : X.length < 9000) :
    pxs GG (CC (k + 1)) ["out", "ops"] (n + 20) (nmI 10) ρ (inOf forBin) = ok (.next, upd (upd (upd ρ "top" (.val (.str o.k))) "out" (.own (X ++ [o.i.v]))) "ops" (.own T)) := by
  conv => lhs; arg 7; whnf
  have hl : psub (.own (Str.ofString "ops") (T ++ [o.v])) (.int (-1)) = some (.str o.k) := last_own
  have z : ¬ ((T ++ [o.v]).length = 0 ∨ 10000 < (T ++ [o.v]).length) := by simp; (first | lia | omega)
  have zd : (T ++ [o.v]).dropLast = T := by simp
  have z2 : X.length < 10000 := by (first | lia | omega)
  have hn := opname_eq k o
  have hv : o.i.v = .tup [.str o.i.k, .str (Str.ofString "")] := by cases o <;> rfl
  have i1 := isOp_eq o
  have i2 := isBar_eq o
  cases o <;> cases amp <;> first
    | (exfalso; revert hs; decide)
    | (simp only [O.isOp] at i1 i2
       simp only [bd_ok, bs_ok, vd_val, ofOpt_some, c_str, c_neg, e_call, e_tup, s_neg, evs_nil, evs_cons, vals_nil, vals_cons, fo4, call_one, q_cmp, t_bool, t_cmp, a_nil', y_and, y_or, ya_yes, ya_no, yo_no, y_if, y_no, x_append, x_del, pxs_nil, y_cons, y_next, odd_lit, upd_same, upd_lit, con_nil, con_cons, beq_lit, ic1, ic2, ic3, ic4, ic5, ic6, ic7, ic8, ic9, p_eq_s, String.reduceEq, ne_eq, not_false_eq_true, Bool.or_false, reduceCtorEq, ↓reduceIte, List.length_cons, List.length_nil, decide_false, eq_self, Nat.reduceAdd, Nat.reduceLeDiff, lim, BEq.rfl, lkv_val, lkv_own, asK_val, asF_f, lk10_out, lk10_ops, n10x2, n10x4, n10x6, s10x6, lk10_operator_name, h1, h2, h3, hl, z, zd, i1, i2, hk, hn, z2, hv])

theorem bin_loop (k n : Nat) (kd : Str) (amp : Bool) (hk : (kd == Str.ofString "&") = amp) : ∀ (st : List O) (L : List PV) (ρ : Loc) (X : List PV), L.length = st.length → ρ "out" = some (.own X) → ρ "ops" = some (.own (opsV st)) → ρ "kind" = some (.val (.str kd)) → st.length + X.length ≤ 5000 →
    ∃ ρ', ploop (onBody (pxs GG (CC (k + 1)) ["out", "ops"] (n + 20) (nmI 10)) (inOf forBin)) "k" L ρ = ok (.next, ρ') ∧ ρ' "out" = some (.own (X ++ (popBin amp st).1.map It.v)) ∧ ρ' "ops" = some (.own (opsV (popBin amp st).2)) ∧ ρ' "kind" = some (.val (.str kd))
  | [], [], ρ, X, hl, h1, h2, h3, hz => ⟨ρ, rfl, by simpa [popBin] using h1, by simpa [popBin] using h2, h3⟩
  | [], d :: L, ρ, X, hl, h1, h2, h3, hz => by cases hl
  | o :: r, [], ρ, X, hl, h1, h2, h3, hz => by cases hl
  | o :: r, d :: L, ρ, X, hl, h1, h2, h3, hz => by
    have h2' := h2
    rw [opsV_cons] at h2
    have hz' : r.length + 1 + X.length ≤ 5000 := hz
    cases hs : (stops amp o) with
    | true =>
      have q := bin_break k n (upd ρ "k" (.val d)) (opsV r) o kd amp hk hs (by simp only [upd_lit, ne_eq, String.reduceEq, not_false_eq_true, h2]) (by simp only [upd_lit, ne_eq, String.reduceEq, not_false_eq_true, h3])
      refine ⟨_, ploop_brk q, ?_, ?_, ?_⟩
      · simp only [upd_lit, ne_eq, String.reduceEq, not_false_eq_true, h1]; rw [popBin, if_pos hs]; simp
      · simp only [upd_lit, ne_eq, String.reduceEq, not_false_eq_true, h2']; rw [popBin, if_pos hs]
      · simp only [upd_lit, ne_eq, String.reduceEq, not_false_eq_true, h3]
    | false =>
      have q := bin_pop k n (upd ρ "k" (.val d)) (opsV r) X o kd amp hk hs (by simp only [upd_lit, ne_eq, String.reduceEq, not_false_eq_true, h1]) (by simp only [upd_lit, ne_eq, String.reduceEq, not_false_eq_true, h2]) (by simp only [upd_lit, ne_eq, String.reduceEq, not_false_eq_true, h3]) (by rw [opsV_len]; (first | lia | omega)) (by (first | lia | omega))
      obtain ⟨ρ', p1, p2, p3, p4⟩ := bin_loop k n kd amp hk r L (upd (upd (upd (upd ρ "k" (.val d)) "top" (.val (.str o.k))) "out" (.own (X ++ [o.i.v]))) "ops" (.own (opsV r))) (X ++ [o.i.v]) (by simpa using hl) (by simp only [upd_lit, upd_same, ne_eq, String.reduceEq, not_false_eq_true]) (by simp only [upd_same]) (by simp only [upd_lit, ne_eq, String.reduceEq, not_false_eq_true, h3]) (by simp; (first | lia | omega))
      have hs' : ¬ (stops amp o) = true := by rw [hs]; decide
      refine ⟨ρ', (ploop_cons q).trans p1, ?_, ?_, p4⟩
      · rw [p2, popBin, if_neg hs']; simp
      · rw [p3, popBin, if_neg hs']

/-- the last loop -/
theorem end_turn (k : Nat) (ρ : Loc) (T X : List PV) (o : O) (j : Nat) (h1 : ρ "out" = some (.own X)) (h2 : ρ "ops" = some (.own T)) (h3 : ρ "k" = some (.val (.int j))) (hT : T.length ≤ 5000) (hX : X.length < 9000)
    (hs : psub (.own (Str.ofString "ops") T) (.int ((T.length : Int) - 1 - j)) = some o.v) :
    pxs GG (CC (k + 1)) ["out", "ops"] 95 (nmI 10) ρ (inOf (stI 10 3)) = if o.isOp then some (.error "a '(' is never closed") else ok (.next, upd (upd ρ "top" (.val (.str o.k))) "out" (.own (X ++ [o.i.v]))) := by
  conv => lhs; arg 7; whnf
  have hs' : psub (.own (Str.ofString "ops") T) (.int ((T.length : Int) - 1 - j)) = some (.str o.k) := hs
  have z : T.length ≤ 10000 := by (first | lia | omega)
  have z2 : X.length < 10000 := by (first | lia | omega)
  have hn := opname_eq k o
  have hv : o.i.v = .tup [.str o.i.k, .str (Str.ofString "")] := by cases o <;> rfl
  have i1 := isOp_eq o
  cases hi : o.isOp <;> rw [hi] at i1 <;> simp only [bd_ok, bd_err, bs_ok, vd_val, ofOpt_some, c_int, c_str, e_bin, e_call, e_tup, s_bin, evs_nil, evs_cons, vals_nil, vals_cons, fn_len, fo4, call_one, q_cmp, t_cmp, y_if, y_yes, y_no, x_raise, x_append, pxs_nil, y_cons, y_next, odd_lit, upd_same, upd_lit, con_nil, con_cons, beq_lit, ic1, ic2, ic3, ic4, ic5, ic6, ic7, ic8, ic9, p_eq_s, pb_sub, pl_own, String.reduceEq, ne_eq, not_false_eq_true, Bool.or_false, reduceCtorEq, ↓reduceIte, Bool.false_eq_true, List.length_cons, List.length_nil, decide_false, eq_self, Nat.reduceAdd, Nat.reduceLeDiff, lim, BEq.rfl, lkv_val, lkv_own, asK_val, asF_f, lk10_out, n10x2, n10x5, n10x6, s10x6, lk10_PatternError, lk10_len, lk10_operator_name, h1, h2, h3, hs', z, z2, i1, hn, hv]

theorem end_loop (k : Nat) (st : List O) (hst : st.length ≤ 2000) : ∀ (m j : Nat) (ρ : Loc) (X : List PV), j + m = st.length → ρ "out" = some (.own X) → ρ "ops" = some (.own (opsV st)) → X.length + m ≤ 5000 →
    (if ((st.drop j).any O.isOp) = true then ploop (onBody (pxs GG (CC (k + 1)) ["out", "ops"] 95 (nmI 10)) (inOf (stI 10 3))) "k" (nums j m) ρ = some (.error "a '(' is never closed")
    else ∃ ρ', ploop (onBody (pxs GG (CC (k + 1)) ["out", "ops"] 95 (nmI 10)) (inOf (stI 10 3))) "k" (nums j m) ρ = ok (.next, ρ') ∧ ρ' "out" = some (.own (X ++ (st.drop j).map (fun o => o.i.v))))
  | 0, j, ρ, X, hj, h1, h2, hz => by
    have e : st.drop j = [] := List.drop_of_length_le (by (first | lia | omega))
    rw [e, if_neg (by simp)]
    exact ⟨ρ, rfl, by simpa using h1⟩
  | m + 1, j, ρ, X, hj, h1, h2, hz => by
    have hlt : j < st.length := by (first | lia | omega)
    have e : st.drop j = st[j] :: st.drop (j + 1) := List.drop_eq_getElem_cons hlt
    have hs : psub (.own (Str.ofString "ops") (opsV st)) (.int (((opsV st).length : Int) - 1 - j)) = some st[j].v := by
      have : (((opsV st).length : Int) - 1 - j) = ((st.length - 1 - j : Nat) : Int) := by rw [opsV_len]; (first | lia | omega)
      rw [this]
      refine sub_own ?_ (by (first | lia | omega))
      unfold opsV
      rw [List.getElem?_map, List.getElem?_reverse (by (first | lia | omega))]
      have : st.length - 1 - (st.length - 1 - j) = j := by (first | lia | omega)
      rw [this]; simp [hlt]
    have q := end_turn k (upd ρ "k" (.val (.int j))) (opsV st) X st[j] j (by simp only [upd_lit, ne_eq, String.reduceEq, not_false_eq_true, h1]) (by simp only [upd_lit, ne_eq, String.reduceEq, not_false_eq_true, h2]) (by simp only [upd_same]) (by rw [opsV_len]; (first | lia | omega)) (by (first | lia | omega)) hs
    rw [e, nums_succ, List.any_cons]
    cases hi : st[j].isOp with
    | true =>
      rw [hi] at q
      rw [if_pos (by simp)]
      exact ploop_err q
    | false =>
      rw [hi] at q
      have ih := end_loop k st hst m (j + 1) (upd (upd (upd ρ "k" (.val (.int j))) "top" (.val (.str st[j].k))) "out" (.own (X ++ [st[j].i.v]))) (X ++ [st[j].i.v]) (by (first | lia | omega)) (by simp only [upd_same]) (by simp only [upd_lit, ne_eq, String.reduceEq, not_false_eq_true, h2]) (by simp; (first | lia | omega))
      rw [Bool.false_or]
      have q' : onBody (pxs GG (CC (k + 1)) ["out", "ops"] 95 (nmI 10)) (inOf (stI 10 3)) (upd ρ "k" (.val (.int j))) = ok (.next, upd (upd (upd ρ "k" (.val (.int j))) "top" (.val (.str st[j].k))) "out" (.own (X ++ [st[j].i.v]))) := q
      rw [ploop_cons q']
      split at ih
      · rename_i h; rw [if_pos h]; exact ih
      · rename_i h
        rw [if_neg h]
        obtain ⟨ρ', p1, p2⟩ := ih
        exact ⟨ρ', p1, by rw [p2]; simp only [List.map_cons, List.append_assoc, List.singleton_append]⟩
end Mine

-- SxP8
namespace Mine
open PySem PyProof.Rows

noncomputable def shStep (s : List It × List O) : Tk → Except Str (List It × List O)
  | .chr c => .ok (s.1 ++ [.chr c], s.2)
  | .any => .ok (s.1 ++ [.any], s.2)
  | .eps => .ok (s.1 ++ [.eps], s.2)
  | .un u => .ok (s.1 ++ [.un u], s.2)
  | .op => .ok (s.1, .op :: s.2)
  | .cl => if s.2.any O.isOp then .ok (s.1 ++ (popCl s.2).1, (popCl s.2).2) else .error "a ')' closes no '('"
  | .bar => .ok (s.1 ++ (popBin false s.2).1, .bar :: (popBin false s.2).2)
  | .amp => .ok (s.1 ++ (popBin true s.2).1, .amp :: (popBin true s.2).2)
noncomputable def shRun (s : List It × List O) : List Tk → Except Str (List It × List O)
  | [] => .ok s
  | t :: ts => match shStep s t with
    | .ok s' => shRun s' ts
    | .error m => .error m
noncomputable def postL (ts : List Tk) : Except Str (List It) := match shRun ([], []) ts with
  | .error m => .error m
  | .ok s => if s.2.any O.isOp then .error "a '(' is never closed" else if okList (s.1 ++ s.2.map O.i) then .ok (s.1 ++ s.2.map O.i) else .error "an operator has nothing to work on"

theorem g_post : GG "POSTFIX_NAMES" = some (.sdict [("*", "star"), ("+", "plus"), ("?", "opt")]) := by kernel_rfl

theorem strs_ops (st : List O) : strsOf (opsV st) = some (st.reverse.map O.k) := by
  unfold opsV
  generalize st.reverse = l
  induction l with
  | nil => rfl
  | cons o l ih =>
    show (match strsOf (l.map O.v) with
      | some ys => some (o.k :: ys)
      | none => none) = _
    rw [ih]; rfl
theorem any_ops (st : List O) : ((st.reverse.map O.k).any fun x => x == Str.ofString "(") = st.any O.isOp := by
  rw [List.any_map, List.any_reverse]
  congr 1; funext o; exact isOp_eq o
theorem popBin_len (b : Bool) : ∀ st : List O, (popBin b st).1.length + (popBin b st).2.length = st.length
  | [] => rfl
  | o :: r => by
    unfold popBin
    split
    · simp
    · have := popBin_len b r
      simp; (first | lia | omega)
theorem popCl_len : ∀ st : List O, (popCl st).1.length + (popCl st).2.length ≤ st.length
  | [] => by simp [popCl]
  | o :: r => by
    unfold popCl
    split
    · simp
    · have := popCl_len r
      simp; (first | lia | omega)
structure St (ρ : Loc) (s : List It × List O) : Prop where
  out : ρ "out" = some (.own (s.1.map It.v))
  ops : ρ "ops" = some (.own (opsV s.2))

theorem sh_turn (k : Nat) (ρ : Loc) (s : List It × List O) (t : Tk) (hS : St ρ s) (h1 : ρ "token" = some (.val t.v)) (hz : s.1.length + s.2.length ≤ 4000) :
    match shStep s t with
    | .ok s' => ∃ ρ', pxs GG (CC (k + 1)) ["out", "ops"] 96 (nmI 10) ρ (inOf (stI 10 2)) = ok (.next, ρ') ∧ St ρ' s'
    | .error m => pxs GG (CC (k + 1)) ["out", "ops"] 96 (nmI 10) ρ (inOf (stI 10 2)) = some (.error m) := by
  have h2 := hS.out
  have h3 := hS.ops
  have z1 : (s.1.map It.v).length < 10000 := by simp; (first | lia | omega)
  have z2 : (opsV s.2).length < 10000 := by rw [opsV_len]; (first | lia | omega)
  have z3 : (opsV s.2).length ≤ 10000 := by (first | lia | omega)
  cases t with
  | chr c =>
    simp only [shStep]
    conv in pxs _ _ _ _ _ _ _ => arg 7; whnf
    have kk : psub (.val (Tk.chr c).v) (.int 0) = some (.str (Str.ofString "chr")) := rfl
    simp only [bd_ok, bs_ok, vd_val, ofOpt_some, c_int, c_str, e_tup, s_const, evs_nil, evs_cons, vals_nil, vals_cons, q_cmp, t_cmp, y_if, y_yes, x_append, pxs_nil, y_cons, y_next, odd_lit, upd_same, upd_lit, con_nil, con_cons, beq_lit, ic1, ic2, ic3, ic4, ic5, ic6, ic7, ic8, ic9, p_in_t, ss_nil, ss_cons, List.any_cons, List.any_nil, String.reduceEq, ne_eq, not_false_eq_true, Bool.or_false, reduceCtorEq, ↓reduceIte, List.length_cons, List.length_nil, decide_false, eq_self, Nat.reduceAdd, Nat.reduceLeDiff, lim, BEq.rfl, lkv_val, asK_val, asF_f, lk10_out, n10x3, n10x4, s10x4, h1, h2, kk, z1]
    exact ⟨_, rfl, by constructor <;> simp [upd_lit, upd_same, ne_eq, String.reduceEq, not_false_eq_true, h3, It.v, Tk.v, It.k, Tk.k, It.g, Tk.g]⟩
  | any =>
    simp only [shStep]
    conv in pxs _ _ _ _ _ _ _ => arg 7; whnf
    have kk : psub (.val Tk.any.v) (.int 0) = some (.str (Str.ofString "any")) := rfl
    simp only [bd_ok, bs_ok, vd_val, ofOpt_some, c_int, c_str, e_tup, s_const, evs_nil, evs_cons, vals_nil, vals_cons, q_cmp, t_cmp, y_if, y_yes, x_append, pxs_nil, y_cons, y_next, odd_lit, upd_same, upd_lit, con_nil, con_cons, beq_lit, ic1, ic2, ic3, ic4, ic5, ic6, ic7, ic8, ic9, p_in_t, ss_nil, ss_cons, List.any_cons, List.any_nil, String.reduceEq, ne_eq, not_false_eq_true, Bool.or_false, Bool.or_true, reduceCtorEq, ↓reduceIte, List.length_cons, List.length_nil, decide_false, eq_self, Nat.reduceAdd, Nat.reduceLeDiff, lim, BEq.rfl, lkv_val, asK_val, asF_f, lk10_out, n10x3, n10x4, s10x4, h1, h2, kk, z1]
    exact ⟨_, rfl, by constructor <;> simp [upd_lit, upd_same, ne_eq, String.reduceEq, not_false_eq_true, h3, It.v, Tk.v, It.k, Tk.k, It.g, Tk.g]⟩
  | eps =>
    simp only [shStep]
    conv in pxs _ _ _ _ _ _ _ => arg 7; whnf
    have kk : psub (.val Tk.eps.v) (.int 0) = some (.str (Str.ofString "eps")) := rfl
    simp only [bd_ok, bs_ok, vd_val, ofOpt_some, c_int, c_str, e_tup, s_const, evs_nil, evs_cons, vals_nil, vals_cons, q_cmp, t_cmp, y_if, y_yes, x_append, pxs_nil, y_cons, y_next, odd_lit, upd_same, upd_lit, con_nil, con_cons, beq_lit, ic1, ic2, ic3, ic4, ic5, ic6, ic7, ic8, ic9, p_in_t, ss_nil, ss_cons, List.any_cons, List.any_nil, String.reduceEq, ne_eq, not_false_eq_true, Bool.or_false, Bool.or_true, reduceCtorEq, ↓reduceIte, List.length_cons, List.length_nil, decide_false, eq_self, Nat.reduceAdd, Nat.reduceLeDiff, lim, BEq.rfl, lkv_val, asK_val, asF_f, lk10_out, n10x3, n10x4, s10x4, h1, h2, kk, z1]
    exact ⟨_, rfl, by constructor <;> simp [upd_lit, upd_same, ne_eq, String.reduceEq, not_false_eq_true, h3, It.v, Tk.v, It.k, Tk.k, It.g, Tk.g]⟩
  | un u =>
    have gp := g_post
    simp only [shStep]
    conv in pxs _ _ _ _ _ _ _ => arg 7; whnf
    have kk : psub (.val (Tk.un u).v) (.int 0) = some (.str u.s) := rfl
    have kd : psub (.val (.sdict [("*", "star"), ("+", "plus"), ("?", "opt")])) (.str u.s) = some (.str u.n) := by cases u <;> kernel_rfl
    have f1 : (Str.ofString "chr" == u.s) = false := by cases u <;> decide +kernel
    have f2 : (Str.ofString "any" == u.s) = false := by cases u <;> decide +kernel
    have f3 : (Str.ofString "eps" == u.s) = false := by cases u <;> decide +kernel
    have f4 : (Str.ofString "*" == u.s || (Str.ofString "+" == u.s || Str.ofString "?" == u.s)) = true := by cases u <;> decide +kernel
    simp only [f1, f2, f3, f4, bd_ok, bs_ok, vd_val, ofOpt_some, c_int, c_str, e_tup, s_name, s_const, evs_nil, evs_cons, vals_nil, vals_cons, q_cmp, t_cmp, y_if, y_yes, y_no, x_append, pxs_nil, y_cons, y_next, odd_lit, upd_same, upd_lit, con_nil, con_cons, beq_lit, ic1, ic2, ic3, ic4, ic5, ic6, ic7, ic8, ic9, p_in_t, p_in_d, ss_nil, ss_cons, List.any_cons, List.any_nil, String.reduceEq, ne_eq, not_false_eq_true, Bool.or_false, Bool.or_true, reduceCtorEq, ↓reduceIte, List.length_cons, List.length_nil, decide_false, eq_self, Nat.reduceAdd, Nat.reduceLeDiff, lim, BEq.rfl, lkv_val, lkg_some, asK_val, asF_f, lk10_out, n10x3, n10x4, s10x4, n10x7, h1, h2, kk, z1, gp, kd]
    exact ⟨_, rfl, by constructor <;> simp [upd_lit, upd_same, ne_eq, String.reduceEq, not_false_eq_true, h3, It.v, It.k, It.g]⟩
  | op =>
    have gp := g_post
    simp only [shStep]
    conv in pxs _ _ _ _ _ _ _ => arg 7; whnf
    have kk : psub (.val Tk.op.v) (.int 0) = some (.str (Str.ofString "(")) := rfl
    simp only [bd_ok, bs_ok, vd_val, ofOpt_some, c_int, c_str, e_tup, s_const, evs_nil, evs_cons, vals_nil, vals_cons, q_cmp, t_cmp, y_if, y_yes, y_no, x_append, pxs_nil, y_cons, y_next, odd_lit, upd_same, upd_lit, con_nil, con_cons, beq_lit, ic1, ic2, ic3, ic4, ic5, ic6, ic7, ic8, ic9, p_eq_s, p_in_t, p_in_d, ss_nil, ss_cons, List.any_cons, List.any_nil, String.reduceEq, ne_eq, not_false_eq_true, Bool.or_false, reduceCtorEq, ↓reduceIte, List.length_cons, List.length_nil, decide_false, eq_self, Nat.reduceAdd, Nat.reduceLeDiff, lim, BEq.rfl, lkv_val, lkg_some, asK_val, asF_f, lk10_ops, n10x3, n10x4, s10x4, n10x7, h1, h3, kk, z2, gp]
    exact ⟨_, rfl, by constructor <;> simp [upd_lit, upd_same, ne_eq, String.reduceEq, not_false_eq_true, h2, opsV_cons, O.v, O.k]⟩
  | cl =>
    have gp := g_post
    simp only [shStep]
    have kk : psub (.val Tk.cl.v) (.int 0) = some (.str (Str.ofString ")")) := rfl
    have hso := strs_ops s.2
    have hao := any_ops s.2
    by_cases ha : s.2.any O.isOp = true
    · rw [ha] at hao
      rw [if_pos ha]
      have hr := range_nums (n := (opsV s.2).length) z3
      obtain ⟨ρ', p1, p2, p3⟩ := cl_loop k 64 s.2 (nums 0 (opsV s.2).length) (upd ρ "kind" (.val (.str (Str.ofString ")")))) (s.1.map It.v) (by simp [nums, opsV_len]) ha (by simp only [upd_lit, ne_eq, String.reduceEq, not_false_eq_true, h2]) (by simp only [upd_lit, ne_eq, String.reduceEq, not_false_eq_true, h3]) (by simp; (first | lia | omega))
      conv at p1 => lhs; arg 1; arg 2; whnf
      dsimp only
      conv in pxs _ _ _ _ _ _ _ => arg 7; whnf
      simp only [bd_ok, bs_ok, vd_val, ofOpt_some, c_int, c_str, e_call, e_tup, s_const, evs_nil, evs_cons, vals_nil, vals_cons, fn_len, q_cmp, t_cmp, y_if, y_yes, y_no, x_for, i_range, pxs_nil, y_cons, y_next, upd_same, upd_lit, con_nil, con_cons, beq_lit, ic1, ic2, ic3, ic4, ic5, ic6, ic7, ic8, ic9, p_eq_s, p_in_t, p_in_d, po_nin, ss_nil, ss_cons, pl_own, List.any_cons, List.any_nil, String.reduceEq, ne_eq, not_false_eq_true, Bool.or_false, reduceCtorEq, ↓reduceIte, List.length_cons, List.length_nil, decide_false, eq_self, Nat.reduceAdd, Nat.reduceLeDiff, lim, BEq.rfl, lkv_val, lkv_own, lkg_some, asK_val, asF_f, n10x2, n10x3, n10x4, s10x4, lk10_k, n10x7, lk10_range, lk10_len, h1, h3, kk, z3, gp, hso, hao, hr, p1, Bool.not_true]
      exact ⟨ρ', rfl, ⟨by rw [p2]; simp, p3⟩⟩
    · have ha' : s.2.any O.isOp = false := by simpa using ha
      rw [ha'] at hao
      rw [if_neg ha]
      dsimp only
      conv in pxs _ _ _ _ _ _ _ => arg 7; whnf
      simp only [bd_ok, bd_err, bs_ok, vd_val, ofOpt_some, c_int, c_str, e_tup, s_const, evs_nil, evs_cons, vals_nil, vals_cons, q_cmp, t_cmp, y_if, y_yes, y_no, x_raise, y_cons, y_next, upd_same, upd_lit, con_nil, con_cons, beq_lit, ic1, ic2, ic3, ic4, ic5, ic6, ic7, ic8, ic9, p_eq_s, p_in_t, p_in_d, po_nin, ss_nil, ss_cons, List.any_cons, List.any_nil, String.reduceEq, ne_eq, not_false_eq_true, Bool.or_false, reduceCtorEq, ↓reduceIte, List.length_cons, List.length_nil, decide_false, eq_self, Nat.reduceAdd, Nat.reduceLeDiff, lim, BEq.rfl, lkv_val, lkv_own, lkg_some, asK_val, asF_f, n10x2, n10x3, n10x4, s10x4, n10x7, lk10_PatternError, h1, h3, kk, gp, hso, hao, Bool.not_false]
  | bar =>
    have gp := g_post
    simp only [shStep]
    have kk : psub (.val Tk.bar.v) (.int 0) = some (.str (Str.ofString "|")) := rfl
    have hr := range_nums (n := (opsV s.2).length) z3
    obtain ⟨ρ', p1, p2, p3, p4⟩ := bin_loop k 65 (Str.ofString "|") false (by decide +kernel) s.2 (nums 0 (opsV s.2).length) (upd ρ "kind" (.val (.str (Str.ofString "|")))) (s.1.map It.v) (by simp [nums, opsV_len]) (by simp only [upd_lit, ne_eq, String.reduceEq, not_false_eq_true, h2]) (by simp only [upd_lit, ne_eq, String.reduceEq, not_false_eq_true, h3]) (by simp only [upd_same]) (by simp; (first | lia | omega))
    conv at p1 => lhs; arg 1; arg 2; whnf
    conv in pxs _ _ _ _ _ _ _ => arg 7; whnf
    have z4 : (opsV (popBin false s.2).2).length < 10000 := by rw [opsV_len]; have := popBin_len false s.2; (first | lia | omega)
    simp only [bd_ok, bs_ok, vd_val, ofOpt_some, c_int, c_str, e_call, e_tup, s_const, evs_nil, evs_cons, vals_nil, vals_cons, fn_len, q_cmp, t_cmp, y_if, y_no, x_for, x_append, i_range, pxs_nil, y_cons, y_next, odd_lit, upd_same, upd_lit, con_nil, con_cons, beq_lit, ic1, ic2, ic3, ic4, ic5, ic6, ic7, ic8, ic9, p_eq_s, p_in_t, p_in_d, ss_nil, ss_cons, pl_own, List.any_cons, List.any_nil, String.reduceEq, ne_eq, not_false_eq_true, Bool.or_false, reduceCtorEq, ↓reduceIte, List.length_cons, List.length_nil, decide_false, eq_self, Nat.reduceAdd, Nat.reduceLeDiff, lim, BEq.rfl, lkv_val, lkv_own, lkg_some, asK_val, asF_f, lk10_ops, n10x2, n10x3, n10x4, s10x4, lk10_k, n10x7, lk10_range, lk10_len, h1, h3, kk, z3, gp, hr, p1, p3, p4, z4]
    exact ⟨_, rfl, by constructor <;> simp [upd_lit, upd_same, ne_eq, String.reduceEq, not_false_eq_true, p2, opsV_cons, O.v, O.k]⟩
  | amp =>
    have gp := g_post
    simp only [shStep]
    have kk : psub (.val Tk.amp.v) (.int 0) = some (.str (Str.ofString "&")) := rfl
    have hr := range_nums (n := (opsV s.2).length) z3
    obtain ⟨ρ', p1, p2, p3, p4⟩ := bin_loop k 65 (Str.ofString "&") true (by decide +kernel) s.2 (nums 0 (opsV s.2).length) (upd ρ "kind" (.val (.str (Str.ofString "&")))) (s.1.map It.v) (by simp [nums, opsV_len]) (by simp only [upd_lit, ne_eq, String.reduceEq, not_false_eq_true, h2]) (by simp only [upd_lit, ne_eq, String.reduceEq, not_false_eq_true, h3]) (by simp only [upd_same]) (by simp; (first | lia | omega))
    conv at p1 => lhs; arg 1; arg 2; whnf
    conv in pxs _ _ _ _ _ _ _ => arg 7; whnf
    have z4 : (opsV (popBin true s.2).2).length < 10000 := by rw [opsV_len]; have := popBin_len true s.2; (first | lia | omega)
    simp only [bd_ok, bs_ok, vd_val, ofOpt_some, c_int, c_str, e_call, e_tup, s_const, evs_nil, evs_cons, vals_nil, vals_cons, fn_len, q_cmp, t_cmp, y_if, y_no, x_for, x_append, i_range, pxs_nil, y_cons, y_next, odd_lit, upd_same, upd_lit, con_nil, con_cons, beq_lit, ic1, ic2, ic3, ic4, ic5, ic6, ic7, ic8, ic9, p_eq_s, p_in_t, p_in_d, ss_nil, ss_cons, pl_own, List.any_cons, List.any_nil, String.reduceEq, ne_eq, not_false_eq_true, Bool.or_false, reduceCtorEq, ↓reduceIte, List.length_cons, List.length_nil, decide_false, eq_self, Nat.reduceAdd, Nat.reduceLeDiff, lim, BEq.rfl, lkv_val, lkv_own, lkg_some, asK_val, asF_f, lk10_ops, n10x2, n10x3, n10x4, s10x4, lk10_k, n10x7, lk10_range, lk10_len, h1, h3, kk, z3, gp, hr, p1, p3, p4, z4]
    exact ⟨_, rfl, by constructor <;> simp [upd_lit, upd_same, ne_eq, String.reduceEq, not_false_eq_true, p2, opsV_cons, O.v, O.k]⟩
theorem shStep_len {s s' : List It × List O} {t : Tk} (h : shStep s t = .ok s') : s'.1.length + s'.2.length ≤ s.1.length + s.2.length + 1 := by
  cases t with
  | cl =>
    simp only [shStep] at h
    split at h
    · cases h
      have := popCl_len s.2
      simp; (first | lia | omega)
    · cases h
  | bar => cases h; have := popBin_len false s.2; simp; (first | lia | omega)
  | amp => cases h; have := popBin_len true s.2; simp; (first | lia | omega)
  | _ => cases h; simp; try (first | lia | omega)

theorem sh_loop (k : Nat) : ∀ (ts : List Tk) (ρ : Loc) (s : List It × List O), St ρ s → s.1.length + s.2.length + ts.length ≤ 4000 →
    match shRun s ts with
    | .ok s' => ∃ ρ', ploop (onBody (pxs GG (CC (k + 1)) ["out", "ops"] 96 (nmI 10)) (inOf (stI 10 2))) "token" (ts.map Tk.v) ρ = ok (.next, ρ') ∧ St ρ' s' ∧ s'.1.length + s'.2.length ≤ s.1.length + s.2.length + ts.length
    | .error m => ploop (onBody (pxs GG (CC (k + 1)) ["out", "ops"] 96 (nmI 10)) (inOf (stI 10 2))) "token" (ts.map Tk.v) ρ = some (.error m)
  | [], ρ, s, hS, hz => ⟨ρ, rfl, hS, by simp⟩
  | t :: ts, ρ, s, hS, hz => by
    have hz' : s.1.length + s.2.length + (ts.length + 1) ≤ 4000 := hz
    have ht := sh_turn k (upd ρ "token" (.val t.v)) s t ⟨by simp only [upd_lit, ne_eq, String.reduceEq, not_false_eq_true, hS.out], by simp only [upd_lit, ne_eq, String.reduceEq, not_false_eq_true, hS.ops]⟩ (by simp only [upd_same]) (by (first | lia | omega))
    unfold shRun
    cases hs : shStep s t with
    | error m => rw [hs] at ht; exact ploop_err ht
    | ok s' =>
      rw [hs] at ht
      obtain ⟨ρ1, q1, q2⟩ := ht
      have hl := shStep_len hs
      have ih := sh_loop k ts ρ1 s' q2 (by (first | lia | omega))
      dsimp only
      cases hr : shRun s' ts with
      | error m => rw [hr] at ih; exact (ploop_cons q1).trans ih
      | ok s2 =>
        rw [hr] at ih
        obtain ⟨ρ', p1, p2, p3⟩ := ih
        exact ⟨ρ', (ploop_cons q1).trans p1, p2, by simp; (first | lia | omega)⟩

theorem fn_10 : getFn "to_postfix" = fnI 10 := by kernel_rfl
theorem post_eq (k : Nat) (ts : List Tk) (hts : ts.length ≤ 2000) : CC (k + 3) "to_postfix" [.list (ts.map Tk.v)] = match postL ts with
    | .ok is => ok (.list (is.map It.v))
    | .error m => some (.error m) := by
  have ho : owned "to_postfix" = (["out", "ops"] : List Str) := by kernel_rfl
  have hb : (fnI 10).body = [stI 10 0, stI 10 1, stI 10 2, stI 10 3, stI 10 4, stI 10 5] := by kernel_rfl
  generalize hρ0 : bindsOf (getFn "to_postfix").params [.list (ts.map Tk.v)] = ρ0
  have r0 : ρ0 "tokens" = some (.val (.list (ts.map Tk.v))) := by rw [← hρ0]; kernel_rfl
  have h0 : px GG (CC (k + 2)) ["out", "ops"] 99 (nmI 10) ρ0 (stI 10 0) = ok (.next, upd ρ0 "out" (.own [])) := by kernel_rfl
  have h1 : px GG (CC (k + 2)) ["out", "ops"] 98 (nmI 10) (upd ρ0 "out" (.own [])) (stI 10 1) = ok (.next, upd (upd ρ0 "out" (.own [])) "ops" (.own [])) := by kernel_rfl
  have hl := sh_loop (k + 1) ts (upd (upd ρ0 "out" (.own [])) "ops" (.own [])) ([], []) ⟨by simp only [upd_lit, upd_same, ne_eq, String.reduceEq, not_false_eq_true]; rfl, by simp only [upd_same]; rfl⟩ (by simp; (first | lia | omega))
  have h2 : px GG (CC (k + 2)) ["out", "ops"] 97 (nmI 10) (upd (upd ρ0 "out" (.own [])) "ops" (.own [])) (stI 10 2) = ploop (onBody (pxs GG (CC (k + 2)) ["out", "ops"] 96 (nmI 10)) (inOf (stI 10 2))) "token" (ts.map Tk.v) (upd (upd ρ0 "out" (.own [])) "ops" (.own [])) := by
    have : px GG (CC (k + 2)) ["out", "ops"] 97 (nmI 10) (upd (upd ρ0 "out" (.own [])) "ops" (.own [])) (stI 10 2) = bd (pits GG 96 (CC (k + 2)) (nmI 10) (upd (upd ρ0 "out" (.own [])) "ops" (.own [])) (itOf (stI 10 2))) fun ds => ploop (onBody (pxs GG (CC (k + 2)) ["out", "ops"] 96 (nmI 10)) (inOf (stI 10 2))) "token" ds (upd (upd ρ0 "out" (.own [])) "ops" (.own [])) := by kernel_rfl
    rw [this]
    conv => lhs; arg 1; arg 6; whnf
    simp only [bd_ok, ofOpt_some, i_name, upd_lit, String.reduceEq, ne_eq, not_false_eq_true, eq_self, lkv_val, n10x0, r0, itemsOf]
  have go : ∀ {r : Except Str (Fl × Loc)}, pxs GG (CC (k + 2)) ["out", "ops"] 98 (nmI 10) (upd (upd ρ0 "out" (.own [])) "ops" (.own [])) [stI 10 2, stI 10 3, stI 10 4, stI 10 5] = some r → pcall theBody GG (k + 3) "to_postfix" [.list (ts.map Tk.v)] = resOf r := fun {r} h => by
    refine pcall_eq (f := "to_postfix") (r := r) (by kernel_rfl) (by kernel_rfl) ?_
    rw [hρ0, fn_10, ho, hb, show fuel = 99 + 1 from rfl]
    show pxs GG (CC (k + 2)) ["out", "ops"] (99 + 1) (nmI 10) ρ0 _ = _
    rw [pxs_next h0, pxs_next h1]
    exact h
  unfold postL
  cases hs : shRun ([], []) ts with
  | error m =>
    rw [hs] at hl
    exact go (r := .error m) (pxs_err (h2.trans hl))
  | ok s =>
    rw [hs] at hl
    obtain ⟨ρ2, p1, p2, p3⟩ := hl
    have p3 : s.1.length + s.2.length ≤ 0 + 0 + ts.length := p3
    have h3 : px GG (CC (k + 2)) ["out", "ops"] 96 (nmI 10) ρ2 (stI 10 3) = ploop (onBody (pxs GG (CC (k + 2)) ["out", "ops"] 95 (nmI 10)) (inOf (stI 10 3))) "k" (nums 0 s.2.length) ρ2 := by
      have : px GG (CC (k + 2)) ["out", "ops"] 96 (nmI 10) ρ2 (stI 10 3) = bd (pits GG 95 (CC (k + 2)) (nmI 10) ρ2 (itOf (stI 10 3))) fun ds => ploop (onBody (pxs GG (CC (k + 2)) ["out", "ops"] 95 (nmI 10)) (inOf (stI 10 3))) "k" ds ρ2 := by kernel_rfl
      rw [this]
      conv => lhs; arg 1; arg 6; whnf
      have q := p2.ops
      have z : s.2.length ≤ 10000 := by (first | lia | omega)
      have hr := range_nums z
      simp only [bd_ok, vd_val, ofOpt_some, e_call, fn_len, i_range, pl_own, ↓reduceIte, eq_self, lim, lkv_own, n10x2, lk10_range, lk10_len, q, opsV_len, z, hr]
    have he := end_loop (k + 1) s.2 (by (first | lia | omega)) s.2.length 0 ρ2 (s.1.map It.v) (by (first | lia | omega)) p2.out p2.ops (by simp; (first | lia | omega))
    rw [List.drop_zero] at he
    dsimp only
    by_cases ha : s.2.any O.isOp = true
    · rw [if_pos ha] at he ⊢
      refine go (r := .error _) ?_
      rw [pxs_next (h2.trans p1)]
      exact pxs_err (h3.trans he)
    · rw [if_neg ha] at he ⊢
      obtain ⟨ρ3, q1, q2⟩ := he
      have q2 : ρ3 "out" = some (.own ((s.1 ++ s.2.map O.i).map It.v)) := by rw [q2]; simp
      have hp := postfix_eq k (s.1 ++ s.2.map O.i)
      cases hk : okList (s.1 ++ s.2.map O.i) with
      | false =>
        rw [hk] at hp
        rw [if_neg (by decide)]
        refine go (r := .error _) ?_
        rw [pxs_next (h2.trans p1), pxs_next (h3.trans q1)]
        refine pxs_err ?_
        conv => lhs; arg 7; whnf
        simp only [bd_ok, bd_err, c_str, e_call, evs_nil, evs_cons, fo5, call_own1, t_not, t_call, y_if, y_yes, x_raise, y_cons, ↓reduceIte, eq_self, lkv_own, n10x1, lk10_PatternError, lk10_postfix_ok, q2, hp, immediate, Bool.not_false]
      | true =>
        rw [hk] at hp
        rw [if_pos rfl]
        refine (go (r := .ok (.ret (.own "out" ((s.1 ++ s.2.map O.i).map It.v)), ρ3)) ?_).trans rfl
        have h4 : px GG (CC (k + 2)) ["out", "ops"] 95 (nmI 10) ρ3 (stI 10 4) = ok (.next, ρ3) := by
          conv => lhs; arg 7; whnf
          simp only [bd_ok, e_call, evs_nil, evs_cons, fo5, call_own1, t_not, t_call, y_if, y_no, pxs_nil, ↓reduceIte, eq_self, lkv_own, n10x1, lk10_postfix_ok, q2, hp, immediate, Bool.not_true]
        have h5 : px GG (CC (k + 2)) ["out", "ops"] 94 (nmI 10) ρ3 (stI 10 5) = ok (.ret (.own "out" ((s.1 ++ s.2.map O.i).map It.v)), ρ3) := by
          conv => lhs; arg 7; whnf
          simp only [bd_ok, x_ret, eq_self, lkv_own, n10x1, q2]
        rw [pxs_next (h2.trans p1), pxs_next (h3.trans q1), pxs_next h4]
        exact pxs_ret h5
end Mine

-- SxP9
namespace Mine
open PySem PyProof.Rows

theorem tokL_len : ∀ (cs : List Nat) (j : Nat) (ts : List Tk), tokL j cs = .ok ts → ts.length = cs.length
  | [], j, ts, h => by cases h; rfl
  | c :: cs, j, ts, h => by
    unfold tokL at h
    split at h
    · cases h
    · split at h
      · rename_i us hu
        cases h
        simp [tokL_len cs (j + 1) us hu]
      · cases h

/-- the whole compilation -/
noncomputable def compL (cs : List Nat) : Except Str (List It) := match tokL 0 cs with
  | .error m => .error m
  | .ok ts => postL (joins ts)

theorem fn_13 : getFn "compile_pattern" = fnI 13 := by kernel_rfl
theorem comp_eq (k : Nat) (x : Str) (hx : x.cps.size ≤ 400) : CC (k + 4) "compile_pattern" [.str x] = match compL x.cps.toList with
    | .ok is => ok (.list (is.map It.v))
    | .error m => some (.error m) := by
  have ho : owned "compile_pattern" = [] := by kernel_rfl
  generalize hρ0 : bindsOf (getFn "compile_pattern").params [.str x] = ρ0
  have r0 : ρ0 "pattern" = some (.val (.str x)) := by rw [← hρ0]; kernel_rfl
  have ht := tokens_eq (k + 1) x (by (first | lia | omega))
  have go : ∀ {r : Except Str (Fl × Loc)}, pxs GG (CC (k + 3)) [] fuel (nmI 13) ρ0 (fnI 13).body = some r → pcall theBody GG (k + 4) "compile_pattern" [.str x] = resOf r := fun {r} h => by
    refine pcall_eq (f := "compile_pattern") (r := r) (by kernel_rfl) (by kernel_rfl) ?_
    rw [hρ0, fn_13, ho]
    exact h
  unfold compL
  cases hq : tokL 0 x.cps.toList with
  | error m =>
    rw [hq] at ht
    refine go (r := .error m) ?_
    conv => lhs; arg 7; whnf
    simp only [bd_ok, bd_err, e_call, evs_nil, evs_cons, fo1, fo2, fo3, call_one, x_ret, y_cons, eq_self, lkv_val, n13x0, lk13_to_postfix, lk13_with_joins, lk13_tokens_of, r0, ht, fuel]
  | ok ts =>
    rw [hq] at ht
    have hl : ts.length ≤ 400 := by rw [tokL_len _ _ _ hq]; simpa using hx
    have hj := joins_eq (k + 2) ts (by (first | lia | omega))
    have hp := post_eq k (joins ts) (by have := joins_len ts; (first | lia | omega))
    dsimp only
    cases hs : postL (joins ts) with
    | error m =>
      rw [hs] at hp
      refine go (r := .error m) ?_
      conv => lhs; arg 7; whnf
      simp only [bd_ok, bd_err, e_call, evs_nil, evs_cons, fo1, fo2, fo3, call_one, x_ret, y_cons, eq_self, lkv_val, n13x0, lk13_to_postfix, lk13_with_joins, lk13_tokens_of, r0, ht, hj, hp, fuel]
    | ok is =>
      rw [hs] at hp
      refine (go (r := .ok (.ret (.val (.list (is.map It.v))), ρ0)) ?_).trans rfl
      conv => lhs; arg 7; whnf
      simp only [bd_ok, e_call, evs_nil, evs_cons, fo1, fo2, fo3, call_one, x_ret, y_cons, y_ret, eq_self, lkv_val, n13x0, lk13_to_postfix, lk13_with_joins, lk13_tokens_of, r0, ht, hj, hp, fuel]
      rfl

section
variable {G : Str → Option PV} {call : Calls} {ow : List Str} {n : Nat} {sc : Names} {ρ : Loc} {x : Str} {p p1 p2 : Pos} {e : Expr} {hd : ExceptHandler}
theorem x_try : px G call ow (n + 1) sc ρ (.Try [.Assign [.Name x p] e p1] [hd] [] [] p2) = match isHandler hd with
      | some (y, v) => if (sc.lookup x = some .local ∧ sc.lookup y = some .local ∧ sc.lookup v = some .local) ∧ (sc.lookup ("PatternError" : Str) = some .globalImplicit ∧ sc.lookup ("str" : Str) = some .globalImplicit) ∧ isComp e = false ∧ oddName v = false ∧ (ρ v).isNone = true then (match pe G n call sc ρ e with
          | some (.ok (.val d)) => ok (.next, upd ρ x (.val d))
          | some (.error m) => ok (.next, upd ρ y (.val (.str m)))
          | _ => none) else none
      | none => none := rfl
end

theorem hnd {p q r s t u v : Pos} : isHandler (.ExceptHandler (some (.Name (Str.ofString "PatternError") p)) (some (Str.ofString "err")) [.Assign [.Name (Str.ofString "why") q] (.Call (.Name (Str.ofString "str") r) [.Name (Str.ofString "err") s] [] t) u] v) = some (Str.ofString "why", Str.ofString "err") := by kernel_rfl

/-- what the two readers give -/
noncomputable def pairL : Except Str (List It) → PV
  | .ok is => .tup [.list (is.map It.v), .str ""]
  | .error m => .tup [.none, .str m]

theorem fn_26 : getFn "_law_read" = fnI 26 := by kernel_rfl
theorem read_eq (k : Nat) (x : Str) (hx : x.cps.size ≤ 400) : CC (k + 5) "_law_read" [.str x] = ok (pairL (compL x.cps.toList)) := by
  have ho : owned "_law_read" = [] := by kernel_rfl
  generalize hρ0 : bindsOf (getFn "_law_read").params [.str x] = ρ0
  have r0 : ρ0 "text" = some (.val (.str x)) := by rw [← hρ0]; kernel_rfl
  have r1 : ρ0 "err" = none := by rw [← hρ0]; kernel_rfl
  have hc := comp_eq k x hx
  have go : ∀ {r : Except Str (Fl × Loc)}, pxs GG (CC (k + 4)) [] fuel (nmI 26) ρ0 (fnI 26).body = some r → pcall theBody GG (k + 5) "_law_read" [.str x] = resOf r := fun {r} h => by
    refine pcall_eq (f := "_law_read") (r := r) (by kernel_rfl) (by kernel_rfl) ?_
    rw [hρ0, fn_26, ho]
    exact h
  cases hq : compL x.cps.toList with
  | error m =>
    rw [hq] at hc
    have e : ∃ ρ', pxs GG (CC (k + 4)) [] fuel (nmI 26) ρ0 (fnI 26).body = some (.ok (.ret (.val (.tup [.none, .str m])), ρ')) := by
      conv in pxs _ _ _ _ _ _ _ => arg 7; whnf
      simp only [bd_ok, bd_err, ofOpt_some, c_none, c_str, e_call, e_tup, evs_nil, evs_cons, vals_nil, vals_cons, fo6, call_one, x_ret, y_cons, y_next, y_ret, odd_lit, upd_same, upd_lit, ne_lit, con_nil, ic1, ic2, ic3, ic4, ic5, ic6, ic7, ic8, ic9, String.reduceEq, ne_eq, not_false_eq_true, ↓reduceIte, List.length_cons, List.length_nil, eq_self, and_self, Nat.reduceAdd, Nat.reduceLeDiff, lim, lkv_val, asK_val, asF_f, n26x0, lk26_got, n26x1, s26x1, lk26_why, n26x2, s26x2, lk26_err, lk26_compile_pattern, lk26_PatternError, lk26_str, r0, r1, hc, fuel, x_try, hnd, Option.isNone_none]
      exact ⟨_, rfl⟩
    obtain ⟨ρ', e⟩ := e
    exact (go e).trans rfl
  | ok is =>
    rw [hq] at hc
    have e : ∃ ρ', pxs GG (CC (k + 4)) [] fuel (nmI 26) ρ0 (fnI 26).body = some (.ok (.ret (.val (.tup [.list (is.map It.v), .str ""])), ρ')) := by
      conv in pxs _ _ _ _ _ _ _ => arg 7; whnf
      simp only [bd_ok, c_none, c_str, e_call, evs_nil, evs_cons, fo6, call_one, y_cons, y_next, odd_lit, upd_lit, ne_lit, con_nil, ic1, ic2, ic3, ic4, ic5, ic6, ic7, ic8, ic9, String.reduceEq, ne_eq, not_false_eq_true, ↓reduceIte, eq_self, and_self, lkv_val, asK_val, asF_f, n26x0, lk26_got, s26x1, lk26_why, s26x2, lk26_err, lk26_compile_pattern, lk26_PatternError, lk26_str, r0, r1, hc, fuel, x_try, hnd, Option.isNone_none]
      exact ⟨_, rfl⟩
    obtain ⟨ρ', e⟩ := e
    exact (go e).trans rfl

theorem fn_27 : getFn "_law_order" = fnI 27 := by kernel_rfl
theorem order_eq (k : Nat) (ts : List Tk) (hx : ts.length ≤ 2000) : CC (k + 4) "_law_order" [.list (ts.map Tk.v)] = ok (pairL (postL ts)) := by
  have ho : owned "_law_order" = [] := by kernel_rfl
  generalize hρ0 : bindsOf (getFn "_law_order").params [.list (ts.map Tk.v)] = ρ0
  have r0 : ρ0 "tokens" = some (.val (.list (ts.map Tk.v))) := by rw [← hρ0]; kernel_rfl
  have r1 : ρ0 "err" = none := by rw [← hρ0]; kernel_rfl
  have hc := post_eq k ts hx
  have go : ∀ {r : Except Str (Fl × Loc)}, pxs GG (CC (k + 3)) [] fuel (nmI 27) ρ0 (fnI 27).body = some r → pcall theBody GG (k + 4) "_law_order" [.list (ts.map Tk.v)] = resOf r := fun {r} h => by
    refine pcall_eq (f := "_law_order") (r := r) (by kernel_rfl) (by kernel_rfl) ?_
    rw [hρ0, fn_27, ho]
    exact h
  cases hq : postL ts with
  | error m =>
    rw [hq] at hc
    have e : ∃ ρ', pxs GG (CC (k + 3)) [] fuel (nmI 27) ρ0 (fnI 27).body = some (.ok (.ret (.val (.tup [.none, .str m])), ρ')) := by
      conv in pxs _ _ _ _ _ _ _ => arg 7; whnf
      simp only [bd_ok, bd_err, ofOpt_some, c_none, c_str, e_call, e_tup, evs_nil, evs_cons, vals_nil, vals_cons, fo3, call_one, x_ret, y_cons, y_next, y_ret, odd_lit, upd_same, upd_lit, ne_lit, con_nil, ic1, ic2, ic3, ic4, ic5, ic6, ic7, ic8, ic9, String.reduceEq, ne_eq, not_false_eq_true, ↓reduceIte, List.length_cons, List.length_nil, eq_self, and_self, Nat.reduceAdd, Nat.reduceLeDiff, lim, lkv_val, asK_val, asF_f, n27x0, lk27_got, n27x1, s27x1, lk27_why, n27x2, s27x2, lk27_err, lk27_to_postfix, lk27_PatternError, lk27_str, r0, r1, hc, fuel, x_try, hnd, Option.isNone_none]
      exact ⟨_, rfl⟩
    obtain ⟨ρ', e⟩ := e
    exact (go e).trans rfl
  | ok is =>
    rw [hq] at hc
    have e : ∃ ρ', pxs GG (CC (k + 3)) [] fuel (nmI 27) ρ0 (fnI 27).body = some (.ok (.ret (.val (.tup [.list (is.map It.v), .str ""])), ρ')) := by
      conv in pxs _ _ _ _ _ _ _ => arg 7; whnf
      simp only [bd_ok, c_none, c_str, e_call, evs_nil, evs_cons, fo3, call_one, y_cons, y_next, odd_lit, upd_lit, ne_lit, con_nil, ic1, ic2, ic3, ic4, ic5, ic6, ic7, ic8, ic9, String.reduceEq, ne_eq, not_false_eq_true, ↓reduceIte, eq_self, and_self, lkv_val, asK_val, asF_f, n27x0, lk27_got, s27x1, lk27_why, s27x2, lk27_err, lk27_to_postfix, lk27_PatternError, lk27_str, r0, r1, hc, fuel, x_try, hnd, Option.isNone_none]
      exact ⟨_, rfl⟩
    obtain ⟨ρ', e⟩ := e
    exact (go e).trans rfl
end Mine

-- SxP10
namespace Mine
open PySem PyProof.Rows

noncomputable def allL : List Nat := (Str.ofString "abcdefghijklmnopqrstuvwxyz0123456789.()|*+?").cps.toList
theorem codes_all : allL = plainL ++ [46, 40, 41, 124, 42, 43, 63] := by kernel_rfl
noncomputable def firstBad (j : Nat) : List Nat → Option Nat
  | [] => none
  | c :: cs => if c ∈ allL then firstBad (j + 1) cs else some j
noncomputable def depRun (d : Int) : List Nat → Option Int
  | [] => some d
  | c :: cs => if d + (if c = 40 then 1 else 0) - (if c = 41 then 1 else 0) < 0 then none else depRun (d + (if c = 40 then 1 else 0) - (if c = 41 then 1 else 0)) cs
noncomputable def unBad (b : Nat) : List Nat → Bool
  | [] => false
  | c :: cs => if c ∈ [42, 43, 63] ∧ b ∈ [40, 124] then true else unBad c cs
noncomputable def signMsg (j : Nat) : Str := (Str.ofString "sign " ++ Str.ofString (toString (j : Int))) ++ Str.ofString " "
noncomputable def dueL (cs : List Nat) : Str := match firstBad 0 cs with
  | some j => signMsg j
  | none => match depRun 0 cs with
    | none => "closes no"
    | some d => if 0 < d then "never closed" else if unBad 124 cs then "nothing to work on" else ""

theorem due0 (k : Nat) (ρ : Loc) (x : Str) (j c : Nat) (h1 : ρ "text" = some (.val (.str x))) (h3 : ρ "i" = some (.val (.int j))) (h4 : x.cps[j]? = some c) (hj : j < 10000) :
    pxs GG (CC k) [] 98 (nmI 23) ρ (inOf (stI 23 0)) = if c ∈ allL then ok (.next, ρ) else ok (.ret (.val (.str (signMsg j))), ρ) := by
  have hs : psub (.val (.str x)) (.int j) = some (.str (sg c)) := by
    show (if _ then _ else _) = _
    rw [if_pos (by constructor <;> simp [lim] <;> (first | lia | omega))]
    simp [h4]
  have hsm := small_nat hj
  have z0 := digits_len hj
  have z1 : (Str.ofString "sign ").length = 5 := by kernel_rfl
  have z2 : (Str.ofString " ").length = 1 := by kernel_rfl
  have z3 : 5 + (Str.ofString (toString (j : Int))).length ≤ 10000 := by (first | lia | omega)
  have z4 : 5 + (Str.ofString (toString (j : Int))).length + 1 ≤ 10000 := by (first | lia | omega)
  have z5 : (Str.ofString "sign " ++ Str.ofString (toString (j : Int))).length = 5 + (Str.ofString (toString (j : Int))).length := by rw [length_append, z1]
  conv => lhs; arg 7; whnf
  by_cases c1 : c ∈ allL
  · have d1 : decide (c ∈ (Str.ofString "abcdefghijklmnopqrstuvwxyz0123456789.()|*+?").cps.toList) = true := decide_eq_true c1
    rw [if_pos c1]
    simp only [bd_ok, bs_ok, vd_val, ofOpt_some, c_str, s_name, q_cmp, t_cmp, y_if, y_no, pxs_nil, y_cons, y_next, p_nin_s, ne_eq, not_false_eq_true, reduceCtorEq, eq_self, lkv_val, n23x0, n23x1, h1, h3, hs, has_one, d1, Bool.not_true]
  · have d1 : decide (c ∈ (Str.ofString "abcdefghijklmnopqrstuvwxyz0123456789.()|*+?").cps.toList) = false := decide_eq_false c1
    rw [if_neg c1]
    simp only [bd_ok, bs_ok, vd_val, ofOpt_some, c_str, e_bin, e_call, s_name, fn_str, q_cmp, t_cmp, y_if, y_yes, x_ret, y_cons, y_ret, p_nin_s, pb_cat, ne_eq, not_false_eq_true, reduceCtorEq, ↓reduceIte, eq_self, lim, lkv_val, n23x0, n23x1, lk23_str, h1, h3, hs, has_one, d1, Bool.not_false, hsm, z1, z2, z3, z4, z5]
    rfl

theorem due0_loop (k : Nat) (x : Str) (hx : x.cps.size ≤ 10000) : ∀ (m j : Nat) (ρ : Loc), j + m = x.cps.size → ρ "text" = some (.val (.str x)) →
    match firstBad j (x.cps.toList.drop j) with
    | some i => ∃ ρ', ploop (onBody (pxs GG (CC k) [] 98 (nmI 23)) (inOf (stI 23 0))) "i" (nums j m) ρ = ok (.ret (.val (.str (signMsg i))), ρ')
    | none => ∃ ρ', ploop (onBody (pxs GG (CC k) [] 98 (nmI 23)) (inOf (stI 23 0))) "i" (nums j m) ρ = ok (.next, ρ') ∧ ρ' "text" = some (.val (.str x))
  | 0, j, ρ, hj, h1 => by
    have e : x.cps.toList.drop j = [] := List.drop_of_length_le (by simp; (first | lia | omega))
    rw [e]
    exact ⟨ρ, rfl, h1⟩
  | m + 1, j, ρ, hj, h1 => by
    have hlt : j < x.cps.size := by (first | lia | omega)
    have e : x.cps.toList.drop j = x.cps[j] :: x.cps.toList.drop (j + 1) := by
      rw [List.drop_eq_getElem_cons (by simpa using hlt)]; simp
    have hc : x.cps[j]? = some x.cps[j] := by simp [hlt]
    have q := due0 k (upd ρ "i" (.val (.int j))) x j x.cps[j] (by simp only [upd_lit, ne_eq, String.reduceEq, not_false_eq_true, h1]) (by simp only [upd_same]) hc (by (first | lia | omega))
    rw [e, nums_succ]
    unfold firstBad
    by_cases c1 : x.cps[j] ∈ allL
    · rw [if_pos c1] at q ⊢
      have ih := due0_loop k x hx m (j + 1) (upd ρ "i" (.val (.int j))) (by (first | lia | omega)) (by simp only [upd_lit, ne_eq, String.reduceEq, not_false_eq_true, h1])
      rw [ploop_cons q]
      exact ih
    · rw [if_neg c1] at q ⊢
      exact ⟨_, ploop_ret q⟩

theorem due1 (k : Nat) (ρ : Loc) (d e : Int) (c : Nat) (h1 : ρ "c" = some (.val (.str (sg c)))) (h2 : ρ "depth" = some (.val (.int d))) (he : e = d + (if c = 40 then 1 else 0) - (if c = 41 then 1 else 0)) :
    (e < 0 → ∃ ρ', pxs GG (CC k) [] 96 (nmI 23) ρ (inOf (stI 23 2)) = ok (.ret (.val (.str "closes no")), ρ')) ∧
    (¬ e < 0 → ∃ ρ', pxs GG (CC k) [] 96 (nmI 23) ρ (inOf (stI 23 2)) = ok (.next, ρ') ∧ ρ' "text" = ρ "text" ∧ ρ' "depth" = some (.val (.int e))) := by
  have i1 : (sg c == Str.ofString "(") = decide (c = 40) := sg_eq (by kernel_rfl)
  have i2 : (sg c == Str.ofString ")") = decide (c = 41) := sg_eq (by kernel_rfl)
  by_cases c1 : c = 40
  · have c2 : c ≠ 41 := by (first | lia | omega)
    have d1 := decide_eq_true c1
    have d2 := decide_eq_false c2
    obtain rfl : e = d + 1 := by rw [he, if_pos c1, if_neg c2]; (first | lia | omega)
    refine ⟨fun c3 => ?_, fun c3 => ?_⟩
    · have d3 := decide_eq_true c3
      conv in pxs _ _ _ _ _ _ _ => arg 7; whnf
      simp only [bd_ok, bs_ok, vd_val, ofOpt_some, c_int, c_str, e_bin, q_cmp, t_cmp, y_if, y_yes, y_no, x_ret, pxs_nil, y_cons, y_next, y_ret, upd_same, upd_lit, con_nil, ic1, ic2, ic3, ic4, ic5, ic6, ic7, ic8, ic9, p_eq_s, p_lt, pb_add, String.reduceEq, ne_eq, not_false_eq_true, reduceCtorEq, eq_self, lkv_val, asK_val, asF_f, n23x2, s23x2, n23x3, h1, h2, i1, i2, d1, d2, d3]
      exact ⟨_, rfl⟩
    · have d3 := decide_eq_false c3
      conv in pxs _ _ _ _ _ _ _ => arg 7; whnf
      simp only [bd_ok, bs_ok, vd_val, ofOpt_some, c_int, c_str, e_bin, q_cmp, t_cmp, y_if, y_yes, y_no, pxs_nil, y_cons, y_next, upd_same, upd_lit, con_nil, ic1, ic2, ic3, ic4, ic5, ic6, ic7, ic8, ic9, p_eq_s, p_lt, pb_add, String.reduceEq, ne_eq, not_false_eq_true, reduceCtorEq, eq_self, lkv_val, asK_val, asF_f, n23x2, s23x2, n23x3, h1, h2, i1, i2, d1, d2, d3]
      exact ⟨_, rfl, by simp only [upd_lit, ne_eq, String.reduceEq, not_false_eq_true], by simp only [upd_same]⟩
  · have d1 := decide_eq_false c1
    by_cases c2 : c = 41
    · have d2 := decide_eq_true c2
      obtain rfl : e = d - 1 := by rw [he, if_neg c1, if_pos c2]; (first | lia | omega)
      refine ⟨fun c3 => ?_, fun c3 => ?_⟩
      · have d3 := decide_eq_true c3
        conv in pxs _ _ _ _ _ _ _ => arg 7; whnf
        simp only [bd_ok, bs_ok, vd_val, ofOpt_some, c_int, c_str, e_bin, q_cmp, t_cmp, y_if, y_yes, y_no, x_ret, pxs_nil, y_cons, y_next, y_ret, upd_same, con_nil, ic1, ic2, ic3, ic4, ic5, ic6, ic7, ic8, ic9, p_eq_s, p_lt, pb_sub, ne_eq, not_false_eq_true, reduceCtorEq, eq_self, lkv_val, asK_val, asF_f, n23x2, s23x2, n23x3, h1, h2, i1, i2, d1, d2, d3]
        exact ⟨_, rfl⟩
      · have d3 := decide_eq_false c3
        conv in pxs _ _ _ _ _ _ _ => arg 7; whnf
        simp only [bd_ok, bs_ok, vd_val, ofOpt_some, c_int, c_str, e_bin, q_cmp, t_cmp, y_if, y_yes, y_no, pxs_nil, y_cons, y_next, upd_same, con_nil, ic1, ic2, ic3, ic4, ic5, ic6, ic7, ic8, ic9, p_eq_s, p_lt, pb_sub, ne_eq, not_false_eq_true, reduceCtorEq, eq_self, lkv_val, asK_val, asF_f, n23x2, s23x2, n23x3, h1, h2, i1, i2, d1, d2, d3]
        exact ⟨_, rfl, by simp only [upd_lit, ne_eq, String.reduceEq, not_false_eq_true], by simp only [upd_same]⟩
    · have d2 := decide_eq_false c2
      obtain rfl : e = d := by rw [he, if_neg c1, if_neg c2]; (first | lia | omega)
      refine ⟨fun c3 => ?_, fun c3 => ?_⟩
      · have d3 := decide_eq_true c3
        conv in pxs _ _ _ _ _ _ _ => arg 7; whnf
        simp only [bd_ok, bs_ok, vd_val, ofOpt_some, c_int, c_str, q_cmp, t_cmp, y_if, y_yes, y_no, x_ret, pxs_nil, y_cons, y_next, y_ret, p_eq_s, p_lt, ne_eq, not_false_eq_true, reduceCtorEq, lkv_val, n23x2, n23x3, h1, h2, i1, i2, d1, d2, d3]
        exact ⟨_, rfl⟩
      · have d3 := decide_eq_false c3
        conv in pxs _ _ _ _ _ _ _ => arg 7; whnf
        simp only [bd_ok, bs_ok, vd_val, ofOpt_some, c_int, c_str, q_cmp, t_cmp, y_if, y_no, pxs_nil, y_cons, y_next, p_eq_s, p_lt, ne_eq, not_false_eq_true, reduceCtorEq, lkv_val, n23x2, n23x3, h1, h2, i1, i2, d1, d2, d3]
        exact ⟨_, rfl, rfl, h2⟩

theorem due1_loop (k : Nat) (x : Str) : ∀ (cs : List Nat) (ρ : Loc) (d : Int), ρ "text" = some (.val (.str x)) → ρ "depth" = some (.val (.int d)) →
    match depRun d cs with
    | none => ∃ ρ', ploop (onBody (pxs GG (CC k) [] 96 (nmI 23)) (inOf (stI 23 2))) "c" (cs.map fun c => .str (sg c)) ρ = ok (.ret (.val (.str "closes no")), ρ')
    | some d' => ∃ ρ', ploop (onBody (pxs GG (CC k) [] 96 (nmI 23)) (inOf (stI 23 2))) "c" (cs.map fun c => .str (sg c)) ρ = ok (.next, ρ') ∧ ρ' "text" = some (.val (.str x)) ∧ ρ' "depth" = some (.val (.int d'))
  | [], ρ, d, h1, h2 => ⟨ρ, rfl, h1, h2⟩
  | c :: cs, ρ, d, h1, h2 => by
    obtain ⟨qa, qb⟩ := due1 k (upd ρ "c" (.val (.str (sg c)))) d _ c (by simp only [upd_same]) (by simp only [upd_lit, ne_eq, String.reduceEq, not_false_eq_true, h2]) rfl
    unfold depRun
    by_cases c3 : d + (if c = 40 then 1 else 0) - (if c = 41 then 1 else 0) < 0
    · obtain ⟨ρ1, q1⟩ := qa c3
      rw [if_pos c3]
      exact ⟨_, ploop_ret q1⟩
    · obtain ⟨ρ1, q1, q2, q3⟩ := qb c3
      rw [if_neg c3]
      have q2 : ρ1 "text" = some (.val (.str x)) := by rw [q2]; simp only [upd_lit, ne_eq, String.reduceEq, not_false_eq_true, h1]
      have ih := due1_loop k x cs ρ1 _ q2 q3
      rw [List.map_cons, ploop_cons q1]
      exact ih

theorem due2 (k : Nat) (ρ : Loc) (b c : Nat) (h1 : ρ "c" = some (.val (.str (sg c)))) (h2 : ρ "before" = some (.val (.str (sg b)))) :
    pxs GG (CC k) [] 93 (nmI 23) ρ (inOf (stI 23 5)) = if c ∈ [42, 43, 63] ∧ b ∈ [40, 124] then ok (.ret (.val (.str "nothing to work on")), ρ) else ok (.next, upd ρ "before" (.val (.str (sg c)))) := by
  have e1 : (Str.ofString "*+?").cps.toList = [42, 43, 63] := by kernel_rfl
  have e2 : (Str.ofString "(|").cps.toList = [40, 124] := by kernel_rfl
  conv => lhs; arg 7; whnf
  by_cases c1 : c ∈ [42, 43, 63]
  · have d1 := decide_eq_true c1
    by_cases c2 : b ∈ [40, 124]
    · have d2 := decide_eq_true c2
      rw [if_pos ⟨c1, c2⟩]
      simp only [bd_ok, bs_ok, vd_val, ofOpt_some, c_str, q_cmp, t_bool, t_cmp, a_nil, y_and, ya_yes, y_if, y_yes, x_ret, y_cons, y_ret, p_in_s, ne_eq, not_false_eq_true, reduceCtorEq, eq_self, lkv_val, n23x3, n23x4, h1, h2, has_one, e1, e2, d1, d2]
    · have d2 := decide_eq_false c2
      rw [if_neg fun q => c2 q.2]
      simp only [bd_ok, bs_ok, vd_val, ofOpt_some, c_str, q_cmp, t_bool, t_cmp, y_and, ya_yes, ya_no, y_if, y_no, pxs_nil, y_cons, y_next, con_nil, ic1, ic2, ic3, ic4, ic5, ic6, ic7, ic8, ic9, p_in_s, ne_eq, not_false_eq_true, reduceCtorEq, eq_self, lkv_val, asK_val, asF_f, n23x3, n23x4, s23x4, h1, h2, has_one, e1, e2, d1, d2]
  · have d1 := decide_eq_false c1
    rw [if_neg fun q => c1 q.1]
    simp only [bd_ok, bs_ok, vd_val, ofOpt_some, c_str, q_cmp, t_bool, t_cmp, y_and, ya_no, y_if, y_no, pxs_nil, y_cons, y_next, con_nil, ic1, ic2, ic3, ic4, ic5, ic6, ic7, ic8, ic9, p_in_s, ne_eq, not_false_eq_true, reduceCtorEq, eq_self, lkv_val, asK_val, asF_f, n23x3, s23x4, h1, has_one, e1, d1]

theorem due2_loop (k : Nat) : ∀ (cs : List Nat) (ρ : Loc) (b : Nat), ρ "before" = some (.val (.str (sg b))) →
    if unBad b cs then ∃ ρ', ploop (onBody (pxs GG (CC k) [] 93 (nmI 23)) (inOf (stI 23 5))) "c" (cs.map fun c => .str (sg c)) ρ = ok (.ret (.val (.str "nothing to work on")), ρ')
    else ∃ ρ', ploop (onBody (pxs GG (CC k) [] 93 (nmI 23)) (inOf (stI 23 5))) "c" (cs.map fun c => .str (sg c)) ρ = ok (.next, ρ')
  | [], ρ, b, h2 => by
    rw [if_neg (by simp [unBad])]
    exact ⟨ρ, rfl⟩
  | c :: cs, ρ, b, h2 => by
    have q := due2 k (upd ρ "c" (.val (.str (sg c)))) b c (by simp only [upd_same]) (by simp only [upd_lit, ne_eq, String.reduceEq, not_false_eq_true, h2])
    rw [unBad]
    by_cases c3 : c ∈ [42, 43, 63] ∧ b ∈ [40, 124]
    · rw [if_pos c3] at q
      rw [if_pos c3, if_pos rfl]
      exact ⟨_, ploop_ret q⟩
    · rw [if_neg c3] at q
      rw [if_neg c3]
      have ih := due2_loop k cs (upd (upd ρ "c" (.val (.str (sg c)))) "before" (.val (.str (sg c)))) c (by simp only [upd_same])
      rw [List.map_cons, ploop_cons q]
      exact ih

theorem fn_23 : getFn "_law_due" = fnI 23 := by kernel_rfl
theorem due_eq (k : Nat) (x : Str) (hx : x.cps.size ≤ 5000) : CC (k + 1) "_law_due" [.str x] = ok (.str (dueL x.cps.toList)) := by
  have ho : owned "_law_due" = [] := by kernel_rfl
  have hb : (fnI 23).body = [stI 23 0, stI 23 1, stI 23 2, stI 23 3, stI 23 4, stI 23 5, stI 23 6] := by kernel_rfl
  generalize hρ0 : bindsOf (getFn "_law_due").params [.str x] = ρ0
  have r0 : ρ0 "text" = some (.val (.str x)) := by rw [← hρ0]; kernel_rfl
  have hlen : x.length = x.cps.size := rfl
  have z : x.cps.size ≤ 10000 := by (first | lia | omega)
  have go : ∀ {v : PV} {ρ' : Loc}, pxs GG (CC k) [] (99 + 1) (nmI 23) ρ0 [stI 23 0, stI 23 1, stI 23 2, stI 23 3, stI 23 4, stI 23 5, stI 23 6] = ok (.ret (.val v), ρ') → pcall theBody GG (k + 1) "_law_due" [.str x] = ok v := fun {v ρ'} h => by
    refine (pcall_eq (f := "_law_due") (r := .ok (.ret (.val v), ρ')) (by kernel_rfl) (by kernel_rfl) ?_).trans rfl
    rw [hρ0, fn_23, ho, hb]
    exact h
  have h0 : px GG (CC k) [] 99 (nmI 23) ρ0 (stI 23 0) = ploop (onBody (pxs GG (CC k) [] 98 (nmI 23)) (inOf (stI 23 0))) "i" (nums 0 x.cps.size) ρ0 := by
    have : px GG (CC k) [] 99 (nmI 23) ρ0 (stI 23 0) = bd (pits GG 98 (CC k) (nmI 23) ρ0 (itOf (stI 23 0))) fun ds => ploop (onBody (pxs GG (CC k) [] 98 (nmI 23)) (inOf (stI 23 0))) "i" ds ρ0 := by kernel_rfl
    rw [this]
    conv => lhs; arg 1; arg 6; whnf
    have hr := range_nums z
    simp only [bd_ok, vd_val, ofOpt_some, e_call, fn_len, i_range, pl_str, ↓reduceIte, eq_self, lim, lkv_val, n23x0, lk23_range, lk23_len, r0, hlen, z, hr]
  have l0 := due0_loop k x z x.cps.size 0 ρ0 (by (first | lia | omega)) r0
  rw [List.drop_zero] at l0
  unfold dueL
  cases hq : firstBad 0 x.cps.toList with
  | some i =>
    rw [hq] at l0
    obtain ⟨ρ', q⟩ := l0
    exact go (pxs_ret (h0.trans q))
  | none =>
    rw [hq] at l0
    obtain ⟨ρ1, q1, q2⟩ := l0
    have h1 : px GG (CC k) [] 98 (nmI 23) ρ1 (stI 23 1) = ok (.next, upd ρ1 "depth" (.val (.int 0))) := by kernel_rfl
    have h2 : px GG (CC k) [] 97 (nmI 23) (upd ρ1 "depth" (.val (.int 0))) (stI 23 2) = ploop (onBody (pxs GG (CC k) [] 96 (nmI 23)) (inOf (stI 23 2))) "c" (x.cps.toList.map fun c => .str (sg c)) (upd ρ1 "depth" (.val (.int 0))) := by
      have : px GG (CC k) [] 97 (nmI 23) (upd ρ1 "depth" (.val (.int 0))) (stI 23 2) = bd (pits GG 96 (CC k) (nmI 23) (upd ρ1 "depth" (.val (.int 0))) (itOf (stI 23 2))) fun ds => ploop (onBody (pxs GG (CC k) [] 96 (nmI 23)) (inOf (stI 23 2))) "c" ds (upd ρ1 "depth" (.val (.int 0))) := by kernel_rfl
      rw [this]
      conv => lhs; arg 1; arg 6; whnf
      simp only [bd_ok, ofOpt_some, i_name, upd_lit, String.reduceEq, ne_eq, not_false_eq_true, eq_self, lkv_val, n23x0, q2, itemsOf]
    have l1 := due1_loop k x x.cps.toList (upd ρ1 "depth" (.val (.int 0))) 0 (by simp only [upd_lit, ne_eq, String.reduceEq, not_false_eq_true, q2]) (by simp only [upd_same])
    dsimp only
    cases hd : depRun 0 x.cps.toList with
    | none =>
      rw [hd] at l1
      obtain ⟨ρ', q⟩ := l1
      refine go (v := .str "closes no") (ρ' := ρ') ?_
      rw [pxs_next (h0.trans q1), pxs_next h1]
      exact pxs_ret (h2.trans q)
    | some d =>
      rw [hd] at l1
      obtain ⟨ρ2, q3, q4, q5⟩ := l1
      dsimp only
      by_cases c1 : 0 < d
      · have d1 := decide_eq_true c1
        rw [if_pos c1]
        refine go (v := .str "never closed") (ρ' := ρ2) ?_
        rw [pxs_next (h0.trans q1), pxs_next h1, pxs_next (h2.trans q3)]
        refine pxs_ret ?_
        conv => lhs; arg 7; whnf
        simp only [bd_ok, bs_ok, vd_val, ofOpt_some, c_int, c_str, q_cmp, t_cmp, y_if, y_yes, x_ret, y_cons, y_ret, p_gt, ne_eq, not_false_eq_true, reduceCtorEq, eq_self, lkv_val, n23x2, q5, d1]
      · have d1 := decide_eq_false c1
        rw [if_neg c1]
        have h3 : px GG (CC k) [] 96 (nmI 23) ρ2 (stI 23 3) = ok (.next, ρ2) := by
          conv => lhs; arg 7; whnf
          simp only [bd_ok, bs_ok, vd_val, ofOpt_some, c_int, q_cmp, t_cmp, y_if, y_no, pxs_nil, p_gt, ne_eq, not_false_eq_true, reduceCtorEq, eq_self, lkv_val, n23x2, q5, d1]
        have h4 : px GG (CC k) [] 95 (nmI 23) ρ2 (stI 23 4) = ok (.next, upd ρ2 "before" (.val (.str (sg 124)))) := by kernel_rfl
        have h5 : px GG (CC k) [] 94 (nmI 23) (upd ρ2 "before" (.val (.str (sg 124)))) (stI 23 5) = ploop (onBody (pxs GG (CC k) [] 93 (nmI 23)) (inOf (stI 23 5))) "c" (x.cps.toList.map fun c => .str (sg c)) (upd ρ2 "before" (.val (.str (sg 124)))) := by
          have : px GG (CC k) [] 94 (nmI 23) (upd ρ2 "before" (.val (.str (sg 124)))) (stI 23 5) = bd (pits GG 93 (CC k) (nmI 23) (upd ρ2 "before" (.val (.str (sg 124)))) (itOf (stI 23 5))) fun ds => ploop (onBody (pxs GG (CC k) [] 93 (nmI 23)) (inOf (stI 23 5))) "c" ds (upd ρ2 "before" (.val (.str (sg 124)))) := by kernel_rfl
          rw [this]
          conv => lhs; arg 1; arg 6; whnf
          simp only [bd_ok, ofOpt_some, i_name, upd_lit, String.reduceEq, ne_eq, not_false_eq_true, eq_self, lkv_val, n23x0, q4, itemsOf]
        have l2 := due2_loop k x.cps.toList (upd ρ2 "before" (.val (.str (sg 124)))) 124 (by simp only [upd_same])
        by_cases c2 : unBad 124 x.cps.toList = true
        · rw [if_pos c2] at l2 ⊢
          obtain ⟨ρ', q⟩ := l2
          refine go (v := .str "nothing to work on") (ρ' := ρ') ?_
          rw [pxs_next (h0.trans q1), pxs_next h1, pxs_next (h2.trans q3), pxs_next h3, pxs_next h4]
          exact pxs_ret (h5.trans q)
        · rw [if_neg c2] at l2 ⊢
          obtain ⟨ρ', q⟩ := l2
          refine go (v := .str "") (ρ' := ρ') ?_
          rw [pxs_next (h0.trans q1), pxs_next h1, pxs_next (h2.trans q3), pxs_next h3, pxs_next h4, pxs_next (h5.trans q)]
          exact pxs_ret (by kernel_rfl)
end Mine

-- SxP11
namespace Mine
open PySem PyProof.Rows

noncomputable def lostL (t : Tk) (side : Bool) : Str := match t with
  | .un _ => ""
  | .op => if side then "never closed" else "closes no"
  | .cl => if side then "closes no" else "never closed"
  | _ => "nothing to work on"
theorem lost_eq (k : Nat) (t : Tk) (side : Bool) : CC (k + 1) "_law_lost" [.str t.k, .int (if side then 1 else 0)] = ok (.str (lostL t side)) := by
  cases t with
  | un u => cases u <;> cases side <;> kernel_rfl
  | _ => cases side <;> kernel_rfl

/-- an item dropped or doubled -/
noncomputable def bentL {α : Type} (l : List α) (p : Nat) (side : Bool) : List α := if side then l.take (p + 1) ++ l.drop p else l.take p ++ l.drop (p + 1)

theorem fn_25 : getFn "_law_bent" = fnI 25 := by kernel_rfl
theorem slice_to {ds : List PV} {j : Nat} (h : ds.length ≤ 10000) : pslice (.list ds) none (some (.int j)) = some (.list (ds.take j)) := by
  show (if _ then _ else _) = _
  rw [if_pos ⟨by (first | lia | omega), h⟩]; simp
theorem slice_from {ds : List PV} {j : Nat} (h : ds.length ≤ 10000) : pslice (.list ds) (some (.int j)) none = some (.list (ds.drop j)) := by
  show (if _ then _ else _) = _
  rw [if_pos ⟨by (first | lia | omega), h⟩]; simp
theorem bent_eq (k : Nat) (ds : List PV) (p : Nat) (side : Bool) (h : ds.length ≤ 2000) : CC (k + 1) "_law_bent" [.list ds, .int p, .int (if side then 1 else 0)] = ok (.list (bentL ds p side)) := by
  have ho : owned "_law_bent" = [] := by kernel_rfl
  generalize hρ0 : bindsOf (getFn "_law_bent").params [.list ds, .int p, .int (if side then 1 else 0)] = ρ0
  have r0 : ρ0 "items" = some (.val (.list ds)) := by rw [← hρ0]; kernel_rfl
  have r1 : ρ0 "spot" = some (.val (.int p)) := by rw [← hρ0]; kernel_rfl
  have r2 : ρ0 "side" = some (.val (.int (if side then 1 else 0))) := by rw [← hρ0]; kernel_rfl
  have z : ds.length ≤ 10000 := by (first | lia | omega)
  have pc : ((p : Int) + 1) = ((p + 1 : Nat) : Int) := by (first | lia | omega)
  have e1 := slice_to (ds := ds) (j := p) z
  have e2 := slice_from (ds := ds) (j := p) z
  have e3 : pslice (.list ds) none (some (.int ((p : Int) + 1))) = some (.list (ds.take (p + 1))) := by rw [pc]; exact slice_to z
  have e4 : pslice (.list ds) (some (.int ((p : Int) + 1))) none = some (.list (ds.drop (p + 1))) := by rw [pc]; exact slice_from z
  have z1 : (ds.take p).length + (ds.drop (p + 1)).length ≤ 10000 := by simp; (first | lia | omega)
  have z2 : (ds.take (p + 1)).length + (ds.drop p).length ≤ 10000 := by simp; (first | lia | omega)
  have b1 : ((1 : Int) == 0) = false := by decide
  have go : ∀ {v : PV}, pxs GG (CC k) [] fuel (nmI 25) ρ0 (fnI 25).body = ok (.ret (.val v), ρ0) → pcall theBody GG (k + 1) "_law_bent" [.list ds, .int p, .int (if side then 1 else 0)] = ok v := fun {v} h => by
    refine (pcall_eq (f := "_law_bent") (r := .ok (.ret (.val v), ρ0)) (by kernel_rfl) (by kernel_rfl) ?_).trans rfl
    rw [hρ0, fn_25, ho]
    exact h
  cases side with
  | false =>
    have r2 : ρ0 "side" = some (.val (.int 0)) := r2
    refine go ?_
    conv => lhs; arg 7; whnf
    simp only [bd_ok, bs_ok, vd_val, ofOpt_some, c_int, e_bin, e_from, e_to, q_cmp, t_cmp, y_if, y_yes, x_ret, y_cons, y_ret, p_eq_i, pb_add, pb_app, ne_eq, not_false_eq_true, reduceCtorEq, ↓reduceIte, lim, BEq.rfl, lkv_val, n25x0, n25x1, n25x2, r0, r1, r2, fuel, e1, e4, z1]
    rfl
  | true =>
    have r2 : ρ0 "side" = some (.val (.int 1)) := r2
    refine go ?_
    conv => lhs; arg 7; whnf
    simp only [bd_ok, bs_ok, vd_val, ofOpt_some, c_int, e_bin, e_from, e_to, q_cmp, t_cmp, y_if, y_no, x_ret, pxs_nil, y_cons, y_next, y_ret, p_eq_i, pb_add, pb_app, ne_eq, not_false_eq_true, reduceCtorEq, ↓reduceIte, lim, lkv_val, n25x0, n25x1, n25x2, r0, r1, r2, fuel, e2, e3, z2, b1]
    rfl

/-- text, joined tokens and postfix list of a piece -/
structure Pt where
  x : List Nat
  j : List Tk
  p : List It
noncomputable abbrev st (x : List Nat) : Str := ⟨x.toArray⟩
noncomputable def Pt.v (a : Pt) : PV := .tup [.str (st a.x), .list (a.j.map Tk.v), .list (a.p.map It.v)]
noncomputable def Pt.le (n : Nat) (a : Pt) : Prop := a.x.length ≤ n ∧ a.j.length ≤ n ∧ a.p.length ≤ n
theorem st_append (a b : List Nat) : st a ++ st b = st (a ++ b) := by
  show Str.mk (a.toArray ++ b.toArray) = Str.mk (a ++ b).toArray
  simp
theorem st_len (a : List Nat) : (st a).length = a.length := by show a.toArray.size = _; simp

/-- one leaf -/
noncomputable def leafP (i : Nat) : Pt := match i with
  | 0 => ⟨[97], [.chr 97], [.chr 97]⟩
  | 1 => ⟨[122], [.chr 122], [.chr 122]⟩
  | 2 => ⟨[48], [.chr 48], [.chr 48]⟩
  | 3 => ⟨[57], [.chr 57], [.chr 57]⟩
  | _ => ⟨[46], [.any], [.any]⟩
theorem fn_19 : getFn "_law_leaf" = fnI 19 := by kernel_rfl
theorem leaf_eq (k : Nat) (n : Int) : ∃ i, i < 5 ∧ CC (k + 1) "_law_leaf" [.int n] = ok (leafP i).v := by
  have ho : owned "_law_leaf" = [] := by kernel_rfl
  generalize hρ0 : bindsOf (getFn "_law_leaf").params [.int n] = ρ0
  have r0 : ρ0 "n" = some (.val (.int n)) := by rw [← hρ0]; kernel_rfl
  have go : ∀ {v : PV}, (∃ ρ', pxs GG (CC k) [] fuel (nmI 19) ρ0 (fnI 19).body = ok (.ret (.val v), ρ')) → pcall theBody GG (k + 1) "_law_leaf" [.int n] = ok v := fun {v} ⟨ρ', h⟩ => by
    refine (pcall_eq (f := "_law_leaf") (r := .ok (.ret (.val v), ρ')) (by kernel_rfl) (by kernel_rfl) ?_).trans rfl
    rw [hρ0, fn_19, ho]
    exact h
  have h1 : 0 ≤ n.fmod 5 := Int.fmod_nonneg_of_pos n (by decide)
  have h2 : n.fmod 5 < 5 := Int.fmod_lt_of_pos n (by decide)
  have hm : n.fmod 5 = 0 ∨ n.fmod 5 = 1 ∨ n.fmod 5 = 2 ∨ n.fmod 5 = 3 ∨ n.fmod 5 = 4 := by (first | lia | omega)
  have n5 : ((5 : Int) = 0) = False := by simp
  rcases hm with hm | hm | hm | hm | hm
  · refine ⟨0, by decide, go ?_⟩
    have hs : psub (.val (.str (Str.ofString "az09."))) (.int 0) = some (.str (Str.ofString "a")) := by kernel_rfl
    conv in pxs _ _ _ _ _ _ _ => arg 7; whnf
    simp only [bd_ok, bs_ok, vd_val, ofOpt_some, c_int, c_str, e_bin, e_tup, e_list, s_bin, evs_nil, evs_cons, vals_nil, vals_cons, q_cmp, t_cmp, y_if, y_no, x_ret, pxs_nil, y_cons, y_next, y_ret, upd_same, con_nil, beq_lit, ic1, ic2, ic3, ic4, ic5, ic6, ic7, ic8, ic9, p_eq_s, pb_mod, String.reduceEq, ne_eq, not_false_eq_true, reduceCtorEq, ↓reduceIte, List.length_cons, List.length_nil, decide_false, eq_self, Nat.reduceAdd, Nat.reduceLeDiff, lim, lkv_val, asK_val, asF_f, n19x0, n19x1, s19x1, r0, fuel, n5, hm, hs]
    exact ⟨_, rfl⟩
  · refine ⟨1, by decide, go ?_⟩
    have hs : psub (.val (.str (Str.ofString "az09."))) (.int 1) = some (.str (Str.ofString "z")) := by kernel_rfl
    conv in pxs _ _ _ _ _ _ _ => arg 7; whnf
    simp only [bd_ok, bs_ok, vd_val, ofOpt_some, c_int, c_str, e_bin, e_tup, e_list, s_bin, evs_nil, evs_cons, vals_nil, vals_cons, q_cmp, t_cmp, y_if, y_no, x_ret, pxs_nil, y_cons, y_next, y_ret, upd_same, con_nil, beq_lit, ic1, ic2, ic3, ic4, ic5, ic6, ic7, ic8, ic9, p_eq_s, pb_mod, String.reduceEq, ne_eq, not_false_eq_true, reduceCtorEq, ↓reduceIte, List.length_cons, List.length_nil, decide_false, eq_self, Nat.reduceAdd, Nat.reduceLeDiff, lim, lkv_val, asK_val, asF_f, n19x0, n19x1, s19x1, r0, fuel, n5, hm, hs]
    exact ⟨_, rfl⟩
  · refine ⟨2, by decide, go ?_⟩
    have hs : psub (.val (.str (Str.ofString "az09."))) (.int 2) = some (.str (Str.ofString "0")) := by kernel_rfl
    conv in pxs _ _ _ _ _ _ _ => arg 7; whnf
    simp only [bd_ok, bs_ok, vd_val, ofOpt_some, c_int, c_str, e_bin, e_tup, e_list, s_bin, evs_nil, evs_cons, vals_nil, vals_cons, q_cmp, t_cmp, y_if, y_no, x_ret, pxs_nil, y_cons, y_next, y_ret, upd_same, con_nil, beq_lit, ic1, ic2, ic3, ic4, ic5, ic6, ic7, ic8, ic9, p_eq_s, pb_mod, String.reduceEq, ne_eq, not_false_eq_true, reduceCtorEq, ↓reduceIte, List.length_cons, List.length_nil, decide_false, eq_self, Nat.reduceAdd, Nat.reduceLeDiff, lim, lkv_val, asK_val, asF_f, n19x0, n19x1, s19x1, r0, fuel, n5, hm, hs]
    exact ⟨_, rfl⟩
  · refine ⟨3, by decide, go ?_⟩
    have hs : psub (.val (.str (Str.ofString "az09."))) (.int 3) = some (.str (Str.ofString "9")) := by kernel_rfl
    conv in pxs _ _ _ _ _ _ _ => arg 7; whnf
    simp only [bd_ok, bs_ok, vd_val, ofOpt_some, c_int, c_str, e_bin, e_tup, e_list, s_bin, evs_nil, evs_cons, vals_nil, vals_cons, q_cmp, t_cmp, y_if, y_no, x_ret, pxs_nil, y_cons, y_next, y_ret, upd_same, con_nil, beq_lit, ic1, ic2, ic3, ic4, ic5, ic6, ic7, ic8, ic9, p_eq_s, pb_mod, String.reduceEq, ne_eq, not_false_eq_true, reduceCtorEq, ↓reduceIte, List.length_cons, List.length_nil, decide_false, eq_self, Nat.reduceAdd, Nat.reduceLeDiff, lim, lkv_val, asK_val, asF_f, n19x0, n19x1, s19x1, r0, fuel, n5, hm, hs]
    exact ⟨_, rfl⟩
  · refine ⟨4, by decide, go ?_⟩
    have hs : psub (.val (.str (Str.ofString "az09."))) (.int 4) = some (.str (Str.ofString ".")) := by kernel_rfl
    conv in pxs _ _ _ _ _ _ _ => arg 7; whnf
    simp only [bd_ok, bs_ok, vd_val, ofOpt_some, c_int, c_str, e_bin, e_tup, e_list, s_bin, evs_nil, evs_cons, vals_nil, vals_cons, q_cmp, t_cmp, y_if, y_yes, x_ret, y_cons, y_next, y_ret, upd_same, con_nil, ic1, ic2, ic3, ic4, ic5, ic6, ic7, ic8, ic9, p_eq_s, pb_mod, ne_eq, not_false_eq_true, reduceCtorEq, ↓reduceIte, List.length_cons, List.length_nil, eq_self, Nat.reduceAdd, Nat.reduceLeDiff, lim, BEq.rfl, lkv_val, asK_val, asF_f, n19x0, n19x1, s19x1, r0, fuel, n5, hm, hs]
    exact ⟨_, rfl⟩

noncomputable def U.c : U → Nat
  | .star => 42
  | .plus => 43
  | .opt => 63
noncomputable def markP (a : Pt) : Option U → Pt
  | none => a
  | some u => ⟨a.x ++ [u.c], a.j ++ [.un u], a.p ++ [.un u]⟩
theorem fn_20 : getFn "_law_marked" = fnI 20 := by kernel_rfl
theorem mark_eq (k : Nat) (a : Pt) (n : Int) (ha : a.le 2000) : ∃ u, CC (k + 1) "_law_marked" [a.v, .int n] = ok (markP a u).v := by
  have ho : owned "_law_marked" = [] := by kernel_rfl
  generalize hρ0 : bindsOf (getFn "_law_marked").params [a.v, .int n] = ρ0
  have r0 : ρ0 "part" = some (.val a.v) := by rw [← hρ0]; kernel_rfl
  have r1 : ρ0 "n" = some (.val (.int n)) := by rw [← hρ0]; kernel_rfl
  have go : ∀ {v : PV}, (∃ ρ', pxs GG (CC k) [] fuel (nmI 20) ρ0 (fnI 20).body = ok (.ret (.val v), ρ')) → pcall theBody GG (k + 1) "_law_marked" [a.v, .int n] = ok v := fun {v} ⟨ρ', h⟩ => by
    refine (pcall_eq (f := "_law_marked") (r := .ok (.ret (.val v), ρ')) (by kernel_rfl) (by kernel_rfl) ?_).trans rfl
    rw [hρ0, fn_20, ho]
    exact h
  have h1 : 0 ≤ n.fmod 4 := Int.fmod_nonneg_of_pos n (by decide)
  have h2 : n.fmod 4 < 4 := Int.fmod_lt_of_pos n (by decide)
  have hm : n.fmod 4 = 0 ∨ n.fmod 4 = 1 ∨ n.fmod 4 = 2 ∨ n.fmod 4 = 3 := by (first | lia | omega)
  have n4 : ((4 : Int) = 0) = False := by simp
  have s0 : psub (.val a.v) (.int 0) = some (.str (st a.x)) := rfl
  have s1 : psub (.val a.v) (.int 1) = some (.list (a.j.map Tk.v)) := rfl
  have s2 : psub (.val a.v) (.int 2) = some (.list (a.p.map It.v)) := rfl
  have m0 : psub (.val (.tup [.tup [.str (Str.ofString ""), .str (Str.ofString "")], .tup [.str (Str.ofString "*"), .str (Str.ofString "star")], .tup [.str (Str.ofString "+"), .str (Str.ofString "plus")], .tup [.str (Str.ofString "?"), .str (Str.ofString "opt")]])) (.int 0) = some (.tup [.str (Str.ofString ""), .str (Str.ofString "")]) := rfl
  have m1 : psub (.val (.tup [.tup [.str (Str.ofString ""), .str (Str.ofString "")], .tup [.str (Str.ofString "*"), .str (Str.ofString "star")], .tup [.str (Str.ofString "+"), .str (Str.ofString "plus")], .tup [.str (Str.ofString "?"), .str (Str.ofString "opt")]])) (.int 1) = some (.tup [.str (Str.ofString "*"), .str (Str.ofString "star")]) := rfl
  have m2 : psub (.val (.tup [.tup [.str (Str.ofString ""), .str (Str.ofString "")], .tup [.str (Str.ofString "*"), .str (Str.ofString "star")], .tup [.str (Str.ofString "+"), .str (Str.ofString "plus")], .tup [.str (Str.ofString "?"), .str (Str.ofString "opt")]])) (.int 2) = some (.tup [.str (Str.ofString "+"), .str (Str.ofString "plus")]) := rfl
  have m3 : psub (.val (.tup [.tup [.str (Str.ofString ""), .str (Str.ofString "")], .tup [.str (Str.ofString "*"), .str (Str.ofString "star")], .tup [.str (Str.ofString "+"), .str (Str.ofString "plus")], .tup [.str (Str.ofString "?"), .str (Str.ofString "opt")]])) (.int 3) = some (.tup [.str (Str.ofString "?"), .str (Str.ofString "opt")]) := rfl
  have p0 : ∀ x y : Str, psub (.val (.tup [.str x, .str y])) (.int 0) = some (.str x) := fun _ _ => rfl
  have p1 : ∀ x y : Str, psub (.val (.tup [.str x, .str y])) (.int 1) = some (.str y) := fun _ _ => rfl
  obtain ⟨b1, b2, b3⟩ := ha
  have z1 : ∀ u : U, (st a.x).length + u.s.length ≤ 10000 := fun u => by
    have e : u.s.length = 1 := by cases u <;> kernel_rfl
    rw [st_len, e]
    (first | lia | omega)
  have z2 : (a.j.map Tk.v).length + 1 ≤ 10000 := by simp; (first | lia | omega)
  have z3 : (a.p.map It.v).length + 1 ≤ 10000 := by simp; (first | lia | omega)
  have fin : ∀ u : U, PV.tup [.str (st a.x ++ u.s), .list (a.j.map Tk.v ++ [.tup [.str u.s, .str (Str.ofString "")]]), .list (a.p.map It.v ++ [.tup [.str u.n, .str (Str.ofString "")]])] = (markP a (some u)).v := fun u => by
    have e : u.s = st [u.c] := by cases u <;> kernel_rfl
    show _ = PV.tup [_, _, _]
    rw [e, st_append, ← e]
    simp [markP, Tk.v, It.v, Tk.k, Tk.g, It.k, It.g]
  have main : ∀ (u : U) (j : Int), n.fmod 4 = j → psub (.val (.tup [.tup [.str (Str.ofString ""), .str (Str.ofString "")], .tup [.str (Str.ofString "*"), .str (Str.ofString "star")], .tup [.str (Str.ofString "+"), .str (Str.ofString "plus")], .tup [.str (Str.ofString "?"), .str (Str.ofString "opt")]])) (.int j) = some (.tup [.str u.s, .str u.n]) → ∃ ρ', pxs GG (CC k) [] fuel (nmI 20) ρ0 (fnI 20).body = ok (.ret (.val (markP a (some u)).v), ρ') := fun u j hm m => by
    have z := z1 u
    have fu : (u.s == Str.ofString "") = false := by cases u <;> decide +kernel
    conv in pxs _ _ _ _ _ _ _ => arg 7; whnf
    simp only [m, fu, bd_ok, bs_ok, vd_val, ofOpt_some, c_int, c_str, e_bin, e_tup, e_list, s_const, s_bin, evs_nil, evs_cons, vals_nil, vals_cons, q_cmp, t_cmp, y_if, y_no, x_ret, pxs_nil, y_cons, y_next, y_ret, upd_same, upd_lit, con_nil, beq_lit, ic1, ic2, ic3, ic4, ic5, ic6, ic7, ic8, ic9, p_eq_s, pb_mod, pb_cat, pb_app, String.reduceEq, ne_eq, not_false_eq_true, reduceCtorEq, ↓reduceIte, List.length_cons, List.length_nil, decide_false, eq_self, Nat.reduceAdd, Nat.reduceLeDiff, lim, lkv_val, asK_val, asF_f, n20x0, n20x1, n20x2, s20x2, r0, r1, fuel, n4, hm, p0, p1, s0, s1, s2, z, z2, z3]
    exact ⟨_, by rw [← fin u]; all_goals rfl⟩
  rcases hm with hm | hm | hm | hm
  · refine ⟨none, go ?_⟩
    conv in pxs _ _ _ _ _ _ _ => arg 7; whnf
    simp only [bd_ok, bs_ok, vd_val, ofOpt_some, c_int, c_str, e_bin, e_tup, s_const, s_bin, evs_nil, evs_cons, vals_nil, vals_cons, q_cmp, t_cmp, y_if, y_yes, x_ret, y_cons, y_next, y_ret, upd_same, upd_lit, con_nil, ic1, ic2, ic3, ic4, ic5, ic6, ic7, ic8, ic9, p_eq_s, pb_mod, String.reduceEq, ne_eq, not_false_eq_true, reduceCtorEq, ↓reduceIte, List.length_cons, List.length_nil, eq_self, Nat.reduceAdd, Nat.reduceLeDiff, lim, BEq.rfl, lkv_val, asK_val, asF_f, n20x0, n20x1, n20x2, s20x2, r0, r1, fuel, n4, hm, m0, p0]
    exact ⟨_, rfl⟩
  · exact ⟨some .star, go (main .star 1 hm m1)⟩
  · exact ⟨some .plus, go (main .plus 2 hm m2)⟩
  · exact ⟨some .opt, go (main .opt 3 hm m3)⟩
end Mine

-- SxP12
namespace Mine
open PySem PyProof.Rows

section
variable {G : Str → Option PV} {call : Calls} {ow : List Str} {n : Nat} {sc : Names} {ρ : Loc} {x : Str} {p p1 : Pos} {e : Expr} {ts r : List Expr} {k : Nat} {d : PV} {ds : List PV}
theorem x_unp : px G call ow (n + 1) sc ρ (.Assign [.Tuple ts k p] e p1) = if isTup e = true then none else bd (pe G n call sc ρ e) fun r => match r with
      | .val (.tup ds) => if ts.all (fun t => match nameOf t with | some x => !ow.contains x | none => false) then
          (match bindAll sc ρ ts ds with
            | some ρ' => ok (.next, ρ')
            | none => none) else none
      | _ => none := rfl
theorem bind_nil : bindAll sc ρ [] [] = some ρ := rfl
theorem bind_cons : bindAll sc ρ (.Name x p :: r) (d :: ds) = if sc.lookup x = some .local ∨ sc.lookup x = some .cell then bindAll sc (upd ρ x (.val d)) r ds else none := rfl
end

noncomputable def catP (a b : Pt) : Pt := ⟨a.x ++ b.x, a.j ++ [.amp] ++ b.j, a.p ++ b.p ++ [.cat]⟩
noncomputable def altP (a b : Pt) : Pt := ⟨a.x ++ [124] ++ b.x, a.j ++ [.bar] ++ b.j, a.p ++ b.p ++ [.alt]⟩
noncomputable def epsP : Pt := ⟨[], [.eps], [.eps]⟩
noncomputable def rowP : List Pt → Pt
  | [] => epsP
  | a :: r => r.foldl catP a
noncomputable def idx (r : List Nat) : List PV := r.map fun (i : Nat) => PV.int (i : Int)

structure Ac (ρ : Loc) (a : Pt) : Prop where
  text : ρ "text" = some (.val (.str (st a.x)))
  joined : ρ "joined" = some (.val (.list (a.j.map Tk.v)))
  post : ρ "post" = some (.val (.list (a.p.map It.v)))

theorem row_turn (k : Nat) (ρ : Loc) (PS : List PV) (a b : Pt) (i : Nat) (hA : Ac ρ a) (h1 : ρ "parts" = some (.val (.list PS))) (h2 : ρ "k" = some (.val (.int i))) (hs : psub (.val (.list PS)) (.int i) = some b.v) (ha : a.le 2000) (hb : b.le 2000) :
    ∃ ρ', pxs GG (CC k) [] 96 (nmI 21) ρ (inOf (stI 21 2)) = ok (.next, ρ') ∧ Ac ρ' (catP a b) ∧ ρ' "parts" = some (.val (.list PS)) := by
  obtain ⟨a1, a2, a3⟩ := hA
  obtain ⟨y1, y2, y3⟩ := ha
  obtain ⟨w1, w2, w3⟩ := hb
  have s0 : psub (.val b.v) (.int 0) = some (.str (st b.x)) := rfl
  have s1 : psub (.val b.v) (.int 1) = some (.list (b.j.map Tk.v)) := rfl
  have s2 : psub (.val b.v) (.int 2) = some (.list (b.p.map It.v)) := rfl
  have z1 : (st a.x).length + (st b.x).length ≤ 10000 := by rw [st_len, st_len]; (first | lia | omega)
  have z2 : (a.j.map Tk.v).length + 1 ≤ 10000 := by simp; (first | lia | omega)
  have z3 : (a.j.map Tk.v).length + 1 + (b.j.map Tk.v).length ≤ 10000 := by simp; (first | lia | omega)
  have z4 : (a.p.map It.v).length + (b.p.map It.v).length ≤ 10000 := by simp; (first | lia | omega)
  have z5 : (a.p.map It.v).length + (b.p.map It.v).length + 1 ≤ 10000 := by simp; (first | lia | omega)
  conv in pxs _ _ _ _ _ _ _ => arg 7; whnf
  simp only [bd_ok, vd_val, ofOpt_some, c_int, c_str, e_bin, e_tup, e_list, s_name, s_const, evs_nil, evs_cons, vals_nil, vals_cons, pxs_nil, y_cons, y_next, upd_lit, con_nil, ic1, ic2, ic3, ic4, ic5, ic6, ic7, ic8, ic9, pb_cat, pb_app, String.reduceEq, ne_eq, not_false_eq_true, ↓reduceIte, List.length_cons, List.length_nil, eq_self, Nat.reduceAdd, Nat.reduceLeDiff, lim, lkv_val, asK_val, asF_f, n21x0, n21x2, s21x2, n21x3, s21x3, n21x4, s21x4, n21x5, a1, a2, a3, h1, h2, hs, s0, s1, s2, z1, z2, z3, z4, z5, List.length_append]
  refine ⟨_, rfl, ⟨?_, ?_, ?_⟩, ?_⟩
  · simp only [upd_lit, upd_same, ne_eq, String.reduceEq, not_false_eq_true, catP, st_append]
  · simp [upd_lit, upd_same, ne_eq, String.reduceEq, not_false_eq_true, catP, Tk.v, Tk.k, Tk.g]
  · simp [upd_same, catP, It.v, It.k, It.g]
  · simp only [upd_lit, ne_eq, String.reduceEq, not_false_eq_true, h1]

theorem le_cat {a b : Pt} {n m : Nat} (ha : a.le n) (hb : b.le m) : (catP a b).le (n + m + 1) := by
  obtain ⟨y1, y2, y3⟩ := ha
  obtain ⟨w1, w2, w3⟩ := hb
  refine ⟨?_, ?_, ?_⟩ <;> simp [catP] <;> (first | lia | omega)
theorem le_alt {a b : Pt} {n m : Nat} (ha : a.le n) (hb : b.le m) : (altP a b).le (n + m + 1) := by
  obtain ⟨y1, y2, y3⟩ := ha
  obtain ⟨w1, w2, w3⟩ := hb
  refine ⟨?_, ?_, ?_⟩ <;> simp [altP] <;> (first | lia | omega)
theorem Pt.le.mono {a : Pt} {n m : Nat} (h : a.le n) (hm : n ≤ m) : a.le m := ⟨Nat.le_trans h.1 hm, Nat.le_trans h.2.1 hm, Nat.le_trans h.2.2 hm⟩

theorem row_loop (k : Nat) (ps : List Pt) (N : Nat) (hN : ∀ b ∈ ps, b.le N) : ∀ (is : List Nat) (bs : List Pt) (ρ : Loc) (a : Pt) (n : Nat), bs = is.filterMap (ps[·]?) → (∀ i ∈ is, i < ps.length) → (∀ i ∈ is, i < 100) → Ac ρ a → ρ "parts" = some (.val (.list (ps.map Pt.v))) → a.le n → n + is.length * (N + 1) ≤ 2000 →
    ∃ ρ', ploop (onBody (pxs GG (CC k) [] 96 (nmI 21)) (inOf (stI 21 2))) "k" (idx is) ρ = ok (.next, ρ') ∧ Ac ρ' (bs.foldl catP a)
  | [], bs, ρ, a, n, hbs, h0, h00, hA, h1, ha, hz => by
    subst hbs
    exact ⟨ρ, rfl, hA⟩
  | i :: is, bs, ρ, a, n, hbs, h0, h00, hA, h1, ha, hz => by
    have hi := h0 i List.mem_cons_self
    have e : ps[i]? = some ps[i] := by simp [hi]
    have hb : ps[i].le N := hN _ (List.getElem_mem hi)
    have hz' : n + (is.length + 1) * (N + 1) ≤ 2000 := hz
    rw [Nat.add_mul, Nat.one_mul] at hz'
    obtain ⟨ρ1, q1, q2, q3⟩ := row_turn k (upd ρ "k" (.val (.int i))) (ps.map Pt.v) a ps[i] i ⟨by simp only [upd_lit, ne_eq, String.reduceEq, not_false_eq_true, hA.text], by simp only [upd_lit, ne_eq, String.reduceEq, not_false_eq_true, hA.joined], by simp only [upd_lit, ne_eq, String.reduceEq, not_false_eq_true, hA.post]⟩ (by simp only [upd_lit, ne_eq, String.reduceEq, not_false_eq_true, h1]) (by simp only [upd_same])
      (sub_list (by simp [e]) (by have := h00 i List.mem_cons_self; (first | lia | omega))) (ha.mono (by (first | lia | omega))) (hb.mono (by (first | lia | omega)))
    obtain ⟨ρ', p1, p2⟩ := row_loop k ps N hN is _ ρ1 (catP a ps[i]) (n + N + 1) rfl (fun x hx => h0 x (List.mem_cons_of_mem _ hx)) (fun x hx => h00 x (List.mem_cons_of_mem _ hx)) q2 q3 (le_cat ha hb) (by (first | lia | omega))
    refine ⟨ρ', (ploop_cons q1).trans p1, ?_⟩
    rw [hbs, List.filterMap_cons, e]
    exact p2

theorem fn_21 : getFn "_law_row" = fnI 21 := by kernel_rfl
theorem row_eq (k : Nat) (ps : List Pt) (is : List Nat) (N : Nat) (hN : ∀ b ∈ ps, b.le N) (h0 : ∀ i ∈ is, i < ps.length) (h00 : ∀ i ∈ is, i < 100) (hz : N + is.length * (N + 1) ≤ 2000) :
    CC (k + 1) "_law_row" [.list (ps.map Pt.v), .tup (idx is)] = ok (rowP (is.filterMap (ps[·]?))).v := by
  have ho : owned "_law_row" = [] := by kernel_rfl
  have hb : (fnI 21).body = [stI 21 0, stI 21 1, stI 21 2, stI 21 3] := by kernel_rfl
  generalize hρ0 : bindsOf (getFn "_law_row").params [.list (ps.map Pt.v), .tup (idx is)] = ρ0
  have r0 : ρ0 "parts" = some (.val (.list (ps.map Pt.v))) := by rw [← hρ0]; kernel_rfl
  have r1 : ρ0 "row" = some (.val (.tup (idx is))) := by rw [← hρ0]; kernel_rfl
  have go : ∀ {v : PV} {ρ' : Loc}, pxs GG (CC k) [] (99 + 1) (nmI 21) ρ0 [stI 21 0, stI 21 1, stI 21 2, stI 21 3] = ok (.ret (.val v), ρ') → pcall theBody GG (k + 1) "_law_row" [.list (ps.map Pt.v), .tup (idx is)] = ok v := fun {v ρ'} h => by
    refine (pcall_eq (f := "_law_row") (r := .ok (.ret (.val v), ρ')) (by kernel_rfl) (by kernel_rfl) ?_).trans rfl
    rw [hρ0, fn_21, ho, hb]
    exact h
  cases is with
  | nil =>
    refine go (ρ' := ρ0) (pxs_ret ?_)
    conv => lhs; arg 7; whnf
    have b0 : (((0 : Nat) : Int) == 0) = true := by decide
    simp only [bd_ok, bs_ok, vd_val, ofOpt_some, c_int, c_str, e_call, e_tup, e_list, evs_nil, evs_cons, vals_nil, vals_cons, fn_len, q_cmp, t_cmp, y_if, y_yes, x_ret, y_cons, y_ret, p_eq_i, pl_tup, ne_eq, not_false_eq_true, reduceCtorEq, ↓reduceIte, List.length_cons, List.length_nil, eq_self, Nat.reduceAdd, Nat.reduceLeDiff, lim, lkv_val, n21x1, lk21_len, r1, idx, List.map_nil, Nat.zero_le, b0]
    rfl
  | cons i is =>
    have hi := h0 i List.mem_cons_self
    have e : ps[i]? = some ps[i] := by simp [hi]
    have hbN : ps[i].le N := hN _ (List.getElem_mem hi)
    have hz' : N + (is.length + 1) * (N + 1) ≤ 2000 := hz
    rw [Nat.add_mul, Nat.one_mul] at hz'
    have hil : is.length ≤ 2000 := by
      have : is.length ≤ is.length * (N + 1) := Nat.le_mul_of_pos_right _ (by (first | lia | omega))
      (first | lia | omega)
    have z : (idx (i :: is)).length ≤ 10000 := by simp [idx]; (first | lia | omega)
    have b0 : (((idx (i :: is)).length : Int) == 0) = false := by simp [idx]; (first | lia | omega)
    have hx0 : px GG (CC k) [] 99 (nmI 21) ρ0 (stI 21 0) = ok (.next, ρ0) := by
      conv => lhs; arg 7; whnf
      simp only [bd_ok, bs_ok, vd_val, ofOpt_some, c_int, e_call, fn_len, q_cmp, t_cmp, y_if, y_no, pxs_nil, p_eq_i, pl_tup, ne_eq, not_false_eq_true, reduceCtorEq, ↓reduceIte, eq_self, lim, lkv_val, n21x1, lk21_len, r1, z, b0]
    have hs0 : psub (.val (.tup (idx (i :: is)))) (.int 0) = some (.int i) := rfl
    have hsi : psub (.val (.list (ps.map Pt.v))) (.int i) = some ps[i].v := sub_list (by simp [e]) (by have := h00 i List.mem_cons_self; (first | lia | omega))
    have hx1 : px GG (CC k) [] 98 (nmI 21) ρ0 (stI 21 1) = ok (.next, upd (upd (upd ρ0 "text" (.val (.str (st ps[i].x)))) "joined" (.val (.list (ps[i].j.map Tk.v)))) "post" (.val (.list (ps[i].p.map It.v)))) := by
      conv => lhs; arg 7; whnf
      simp only [bd_ok, vd_val, ofOpt_some, c_int, s_const, s_sub, con_nil, true_or, Bool.and_true, ↓reduceIte, Bool.false_eq_true, eq_self, lkv_val, n21x0, n21x1, lk21_text, lk21_joined, lk21_post, r0, r1, hs0, hsi, x_unp, it1, it2, bind_nil, bind_cons, Pt.v, List.all_cons, List.all_nil, nn1, Bool.not_false]
    obtain ⟨ρ', q1, q2⟩ := row_loop k ps N hN is _ (upd (upd (upd ρ0 "text" (.val (.str (st ps[i].x)))) "joined" (.val (.list (ps[i].j.map Tk.v)))) "post" (.val (.list (ps[i].p.map It.v)))) ps[i] N rfl (fun x hx => h0 x (List.mem_cons_of_mem _ hx)) (fun x hx => h00 x (List.mem_cons_of_mem _ hx))
      ⟨by simp only [upd_lit, upd_same, ne_eq, String.reduceEq, not_false_eq_true], by simp only [upd_lit, upd_same, ne_eq, String.reduceEq, not_false_eq_true], by simp only [upd_same]⟩ (by simp only [upd_lit, ne_eq, String.reduceEq, not_false_eq_true, r0]) hbN (by (first | lia | omega))
    have hx2 : px GG (CC k) [] 97 (nmI 21) (upd (upd (upd ρ0 "text" (.val (.str (st ps[i].x)))) "joined" (.val (.list (ps[i].j.map Tk.v)))) "post" (.val (.list (ps[i].p.map It.v)))) (stI 21 2) = ok (.next, ρ') := by
      have r1' : (upd (upd (upd ρ0 "text" (.val (.str (st ps[i].x)))) "joined" (.val (.list (ps[i].j.map Tk.v)))) "post" (.val (.list (ps[i].p.map It.v)))) "row" = some (.val (.tup (idx (i :: is)))) := by simp only [upd_lit, ne_eq, String.reduceEq, not_false_eq_true, r1]
      generalize upd (upd (upd ρ0 "text" (.val (.str (st ps[i].x)))) "joined" (.val (.list (ps[i].j.map Tk.v)))) "post" (.val (.list (ps[i].p.map It.v))) = ρ1 at q1 r1'
      have : px GG (CC k) [] 97 (nmI 21) ρ1 (stI 21 2) = bd (pits GG 96 (CC k) (nmI 21) ρ1 (itOf (stI 21 2))) fun ds => ploop (onBody (pxs GG (CC k) [] 96 (nmI 21)) (inOf (stI 21 2))) "k" ds ρ1 := by kernel_rfl
      rw [this]
      conv => lhs; arg 1; arg 6; whnf
      have hsl : pslice (.tup (idx (i :: is))) (some (.int 1)) none = some (.tup (idx is)) := by
        show (if _ then _ else _) = _
        rw [if_pos ⟨rfl, by simp [idx], by simp [idx, lim]; (first | lia | omega)⟩]; rfl
      simp only [bd_ok, vd_val, ofOpt_some, c_int, e_from, i_sub, lkv_val, n21x1, r1', hsl, itemsOf]
      exact q1
    have hx3 : px GG (CC k) [] 96 (nmI 21) ρ' (stI 21 3) = ok (.ret (.val (rowP ((i :: is).filterMap (ps[·]?))).v), ρ') := by
      have er : rowP ((i :: is).filterMap (ps[·]?)) = (is.filterMap (ps[·]?)).foldl catP ps[i] := by rw [List.filterMap_cons, e]; rfl
      obtain ⟨a1, a2, a3⟩ := q2
      rw [er]
      conv => lhs; arg 7; whnf
      simp only [bd_ok, ofOpt_some, e_tup, evs_nil, evs_cons, vals_nil, vals_cons, x_ret, ↓reduceIte, List.length_cons, List.length_nil, Nat.reduceAdd, Nat.reduceLeDiff, lim, lkv_val, n21x2, n21x3, n21x4, a1, a2, a3]
      rfl
    refine go (ρ' := ρ') ?_
    rw [pxs_next hx0, pxs_next hx1, pxs_next hx2]
    exact pxs_ret hx3

theorem alt_turn (k : Nat) (ρ : Loc) (PS : PV) (RV' : PV) (a b : Pt) (hA : Ac ρ a) (h1 : ρ "parts" = some (.val PS)) (h2 : ρ "row" = some (.val RV')) (hs : CC k "_law_row" [PS, RV'] = ok b.v) (ha : a.le 2000) (hb : b.le 2000) :
    ∃ ρ', pxs GG (CC k) [] 97 (nmI 22) ρ (inOf (stI 22 1)) = ok (.next, ρ') ∧ Ac ρ' (altP a b) ∧ ρ' "parts" = some (.val PS) := by
  obtain ⟨a1, a2, a3⟩ := hA
  obtain ⟨y1, y2, y3⟩ := ha
  obtain ⟨w1, w2, w3⟩ := hb
  have s0 : psub (.val b.v) (.int 0) = some (.str (st b.x)) := rfl
  have s1 : psub (.val b.v) (.int 1) = some (.list (b.j.map Tk.v)) := rfl
  have s2 : psub (.val b.v) (.int 2) = some (.list (b.p.map It.v)) := rfl
  have eb : Str.ofString "|" = st [124] := by kernel_rfl
  have z0 : (st a.x).length + (Str.ofString "|").length ≤ 10000 := by rw [eb, st_len, st_len]; simp; (first | lia | omega)
  have z1 : (st a.x ++ Str.ofString "|").length + (st b.x).length ≤ 10000 := by rw [length_append, eb, st_len, st_len, st_len]; simp; (first | lia | omega)
  have z2 : (a.j.map Tk.v).length + 1 ≤ 10000 := by simp; (first | lia | omega)
  have z3 : (a.j.map Tk.v).length + 1 + (b.j.map Tk.v).length ≤ 10000 := by simp; (first | lia | omega)
  have z4 : (a.p.map It.v).length + (b.p.map It.v).length ≤ 10000 := by simp; (first | lia | omega)
  have z5 : (a.p.map It.v).length + (b.p.map It.v).length + 1 ≤ 10000 := by simp; (first | lia | omega)
  conv in pxs _ _ _ _ _ _ _ => arg 7; whnf
  simp only [bd_ok, vd_val, ofOpt_some, c_int, c_str, e_bin, e_call, e_tup, e_list, s_const, evs_nil, evs_cons, vals_nil, vals_cons, fo9, call_two, pxs_nil, y_cons, y_next, upd_same, upd_lit, con_nil, ic1, ic2, ic3, ic4, ic5, ic6, ic7, ic8, ic9, pb_cat, pb_app, String.reduceEq, ne_eq, not_false_eq_true, ↓reduceIte, List.length_cons, List.length_nil, eq_self, Nat.reduceAdd, Nat.reduceLeDiff, lim, lkv_val, asK_val, asF_f, n22x0, n22x2, s22x2, n22x3, s22x3, n22x4, s22x4, n22x5, n22x6, s22x6, lk22_law_row, a1, a2, a3, h1, h2, hs, s0, s1, s2, z0, z1, z2, z3, z4, z5, List.length_append]
  refine ⟨_, rfl, ⟨?_, ?_, ?_⟩, ?_⟩
  · simp only [upd_lit, upd_same, ne_eq, String.reduceEq, not_false_eq_true, altP]
    rw [eb, st_append, st_append]
  · simp [upd_lit, upd_same, ne_eq, String.reduceEq, not_false_eq_true, altP, Tk.v, Tk.k, Tk.g]
  · simp [upd_same, altP, It.v, It.k, It.g]
  · simp only [upd_lit, ne_eq, String.reduceEq, not_false_eq_true, h1]

theorem alt_loop (k : Nat) (PS : PV) (N : Nat) : ∀ (rows : List PV) (bs : List Pt) (ρ : Loc) (a : Pt) (n : Nat), rows.length = bs.length → (∀ (i : Nat) (r : PV) (b : Pt), rows[i]? = some r → bs[i]? = some b → CC k "_law_row" [PS, r] = ok b.v ∧ b.le N) → Ac ρ a → ρ "parts" = some (.val PS) → a.le n → n + rows.length * (N + 1) ≤ 2000 →
    ∃ ρ', ploop (onBody (pxs GG (CC k) [] 97 (nmI 22)) (inOf (stI 22 1))) "row" rows ρ = ok (.next, ρ') ∧ Ac ρ' (bs.foldl altP a)
  | [], [], ρ, a, n, hl, hr, hA, h1, ha, hz => ⟨ρ, rfl, hA⟩
  | [], b :: bs, ρ, a, n, hl, hr, hA, h1, ha, hz => by cases hl
  | r :: rows, [], ρ, a, n, hl, hr, hA, h1, ha, hz => by cases hl
  | r :: rows, b :: bs, ρ, a, n, hl, hr, hA, h1, ha, hz => by
    obtain ⟨hs, hb⟩ := hr 0 r b rfl rfl
    have hz' : n + (rows.length + 1) * (N + 1) ≤ 2000 := hz
    rw [Nat.add_mul, Nat.one_mul] at hz'
    obtain ⟨ρ1, q1, q2, q3⟩ := alt_turn k (upd ρ "row" (.val r)) PS r a b ⟨by simp only [upd_lit, ne_eq, String.reduceEq, not_false_eq_true, hA.text], by simp only [upd_lit, ne_eq, String.reduceEq, not_false_eq_true, hA.joined], by simp only [upd_lit, ne_eq, String.reduceEq, not_false_eq_true, hA.post]⟩ (by simp only [upd_lit, ne_eq, String.reduceEq, not_false_eq_true, h1]) (by simp only [upd_same]) hs (ha.mono (by (first | lia | omega))) (hb.mono (by (first | lia | omega)))
    obtain ⟨ρ', p1, p2⟩ := alt_loop k PS N rows bs ρ1 (altP a b) (n + N + 1) (by simpa using hl) (fun i r' b' e1 e2 => hr (i + 1) r' b' e1 e2) q2 q3 (le_alt ha hb) (by (first | lia | omega))
    exact ⟨ρ', (ploop_cons q1).trans p1, p2⟩

/-- alternatives of rows -/
noncomputable def altsP : List Pt → Pt
  | [] => epsP
  | a :: r => r.foldl altP a
theorem fn_22 : getFn "_law_alts" = fnI 22 := by kernel_rfl
theorem alts_eq (k : Nat) (PS : PV) (rows : List PV) (bs : List Pt) (N : Nat) (hne : rows ≠ []) (hl : rows.length = bs.length) (hr : ∀ (i : Nat) (r : PV) (b : Pt), rows[i]? = some r → bs[i]? = some b → CC k "_law_row" [PS, r] = ok b.v ∧ b.le N) (hz : N + rows.length * (N + 1) ≤ 2000) :
    CC (k + 1) "_law_alts" [PS, .tup rows] = ok (altsP bs).v := by
  have ho : owned "_law_alts" = [] := by kernel_rfl
  have hb : (fnI 22).body = [stI 22 0, stI 22 1, stI 22 2] := by kernel_rfl
  generalize hρ0 : bindsOf (getFn "_law_alts").params [PS, .tup rows] = ρ0
  have r0 : ρ0 "parts" = some (.val PS) := by rw [← hρ0]; kernel_rfl
  have r1 : ρ0 "shape" = some (.val (.tup rows)) := by rw [← hρ0]; kernel_rfl
  have go : ∀ {v : PV} {ρ' : Loc}, pxs GG (CC k) [] (99 + 1) (nmI 22) ρ0 [stI 22 0, stI 22 1, stI 22 2] = ok (.ret (.val v), ρ') → pcall theBody GG (k + 1) "_law_alts" [PS, .tup rows] = ok v := fun {v ρ'} h => by
    refine (pcall_eq (f := "_law_alts") (r := .ok (.ret (.val v), ρ')) (by kernel_rfl) (by kernel_rfl) ?_).trans rfl
    rw [hρ0, fn_22, ho, hb]
    exact h
  obtain ⟨r, rs, rfl⟩ := List.exists_cons_of_ne_nil hne
  obtain ⟨b, bs, rfl⟩ : ∃ b bs', bs = b :: bs' := by cases bs with | nil => cases hl | cons b bs' => exact ⟨b, bs', rfl⟩
  obtain ⟨hs, hbN⟩ := hr 0 r b rfl rfl
  have hz' : N + (rs.length + 1) * (N + 1) ≤ 2000 := hz
  rw [Nat.add_mul, Nat.one_mul] at hz'
  have hil : rs.length ≤ 2000 := by
    have : rs.length ≤ rs.length * (N + 1) := Nat.le_mul_of_pos_right _ (by (first | lia | omega))
    (first | lia | omega)
  have hs0 : psub (.val (.tup (r :: rs))) (.int 0) = some r := rfl
  have hx0 : px GG (CC k) [] 99 (nmI 22) ρ0 (stI 22 0) = ok (.next, upd (upd (upd ρ0 "text" (.val (.str (st b.x)))) "joined" (.val (.list (b.j.map Tk.v)))) "post" (.val (.list (b.p.map It.v)))) := by
    conv => lhs; arg 7; whnf
    simp only [bd_ok, vd_val, ofOpt_some, c_int, e_call, s_const, evs_nil, evs_cons, fo9, call_two, con_nil, true_or, Bool.and_true, ↓reduceIte, Bool.false_eq_true, eq_self, lkv_val, n22x0, n22x1, lk22_text, lk22_joined, lk22_post, lk22_law_row, r0, r1, hs0, hs, x_unp, it1, it2, bind_nil, bind_cons, Pt.v, List.all_cons, List.all_nil, nn1, Bool.not_false]
  obtain ⟨ρ', q1, q2⟩ := alt_loop k PS N rs bs (upd (upd (upd ρ0 "text" (.val (.str (st b.x)))) "joined" (.val (.list (b.j.map Tk.v)))) "post" (.val (.list (b.p.map It.v)))) b N (by simpa using hl) (fun i r' b' e1 e2 => hr (i + 1) r' b' e1 e2)
    ⟨by simp only [upd_lit, upd_same, ne_eq, String.reduceEq, not_false_eq_true], by simp only [upd_lit, upd_same, ne_eq, String.reduceEq, not_false_eq_true], by simp only [upd_same]⟩ (by simp only [upd_lit, ne_eq, String.reduceEq, not_false_eq_true, r0]) hbN (by (first | lia | omega))
  have hx1 : px GG (CC k) [] 98 (nmI 22) (upd (upd (upd ρ0 "text" (.val (.str (st b.x)))) "joined" (.val (.list (b.j.map Tk.v)))) "post" (.val (.list (b.p.map It.v)))) (stI 22 1) = ok (.next, ρ') := by
    have r1' : (upd (upd (upd ρ0 "text" (.val (.str (st b.x)))) "joined" (.val (.list (b.j.map Tk.v)))) "post" (.val (.list (b.p.map It.v)))) "shape" = some (.val (.tup (r :: rs))) := by simp only [upd_lit, ne_eq, String.reduceEq, not_false_eq_true, r1]
    generalize upd (upd (upd ρ0 "text" (.val (.str (st b.x)))) "joined" (.val (.list (b.j.map Tk.v)))) "post" (.val (.list (b.p.map It.v))) = ρ1 at q1 r1'
    have : px GG (CC k) [] 98 (nmI 22) ρ1 (stI 22 1) = bd (pits GG 97 (CC k) (nmI 22) ρ1 (itOf (stI 22 1))) fun ds => ploop (onBody (pxs GG (CC k) [] 97 (nmI 22)) (inOf (stI 22 1))) "row" ds ρ1 := by kernel_rfl
    rw [this]
    conv => lhs; arg 1; arg 6; whnf
    have hsl : pslice (.tup (r :: rs)) (some (.int 1)) none = some (.tup rs) := by
      show (if _ then _ else _) = _
      rw [if_pos ⟨rfl, by simp, by simp [lim]; (first | lia | omega)⟩]; rfl
    simp only [bd_ok, vd_val, ofOpt_some, c_int, e_from, i_sub, lkv_val, n22x1, r1', hsl, itemsOf]
    exact q1
  have hx2 : px GG (CC k) [] 97 (nmI 22) ρ' (stI 22 2) = ok (.ret (.val (altsP (b :: bs)).v), ρ') := by
    obtain ⟨a1, a2, a3⟩ := q2
    conv => lhs; arg 7; whnf
    simp only [bd_ok, ofOpt_some, e_tup, evs_nil, evs_cons, vals_nil, vals_cons, x_ret, ↓reduceIte, List.length_cons, List.length_nil, Nat.reduceAdd, Nat.reduceLeDiff, lim, lkv_val, n22x2, n22x3, n22x4, a1, a2, a3]
    rfl
  refine go (ρ' := ρ') ?_
  rw [pxs_next hx0, pxs_next hx1]
  exact pxs_ret hx2
end Mine

-- SxM1
namespace Mine
open PySem PyProof.Rows

/-- the tokens of a text -/
noncomputable def toks (cs : List Nat) : List Tk := cs.filterMap tokC
noncomputable def Allowed (cs : List Nat) : Prop := ∀ c ∈ cs, ∃ t, tokC c = some t

theorem tokL_ok : ∀ (cs : List Nat) (j : Nat), Allowed cs → tokL j cs = .ok (toks cs)
  | [], j, _ => rfl
  | c :: cs, j, h => by
    obtain ⟨t, ht⟩ := h c List.mem_cons_self
    have ih := tokL_ok cs (j + 1) fun x hx => h x (List.mem_cons_of_mem _ hx)
    unfold tokL
    rw [ht]
    dsimp only
    rw [ih]
    simp [toks, ht]
theorem toks_append (a b : List Nat) : toks (a ++ b) = toks a ++ toks b := by simp [toks]

noncomputable def lastT (b : Tk) : List Tk → Tk
  | [] => b
  | t :: ts => lastT t ts
theorem lastT_append (b : Tk) : ∀ (ts us : List Tk), lastT b (ts ++ us) = lastT (lastT b ts) us
  | [], us => rfl
  | t :: ts, us => lastT_append t ts us
noncomputable def lastO (b : Option Tk) : List Tk → Option Tk
  | [] => b
  | t :: ts => lastO (some t) ts
theorem lastO_some (b : Tk) : ∀ ts : List Tk, lastO (some b) ts = some (lastT b ts)
  | [] => rfl
  | t :: ts => lastO_some t ts

/-- the first pass without its end -/
noncomputable def fillM (b : Tk) : List Tk → List Tk
  | [] => []
  | t :: ts => (if b.opens && t.closes then [.eps] else []) ++ t :: fillM t ts
theorem fillM_cons {b t : Tk} {ts : List Tk} : fillM b (t :: ts) = (if b.opens && t.closes then [.eps] else []) ++ t :: fillM t ts := rfl
theorem fillL_cons {b t : Tk} {ts : List Tk} : fillL b (t :: ts) = (if b.opens && t.closes then [.eps] else []) ++ t :: fillL t ts := rfl
theorem joinL_cons {b : Option Tk} {t : Tk} {ts : List Tk} : joinL b (t :: ts) = (if (match b with | some p => p.ends | none => false) && t.begins then [.amp] else []) ++ t :: joinL (some t) ts := rfl
theorem fillL_eq : ∀ (ts : List Tk) (b : Tk), fillL b ts = fillM b ts ++ (if (lastT b ts).opens then [.eps] else [])
  | [], b => rfl
  | t :: ts, b => by
    rw [fillL_cons, fillM_cons, fillL_eq ts t, List.append_assoc, List.cons_append]
    rfl
theorem fillM_append : ∀ (ts us : List Tk) (b : Tk), fillM b (ts ++ us) = fillM b ts ++ fillM (lastT b ts) us
  | [], us, b => rfl
  | t :: ts, us, b => by
    rw [List.cons_append, fillM_cons, fillM_cons, fillM_append ts us t, List.append_assoc, List.cons_append]
    rfl
theorem joinL_append : ∀ (ts us : List Tk) (b : Option Tk), joinL b (ts ++ us) = joinL b ts ++ joinL (lastO b ts) us
  | [], us, b => rfl
  | t :: ts, us, b => by
    rw [List.cons_append, joinL_cons, joinL_cons, joinL_append ts us (some t), List.append_assoc, List.cons_append]
    rfl
theorem shRun_cons {s : List It × List O} {t : Tk} {ts : List Tk} : shRun s (t :: ts) = match shStep s t with
    | .ok s' => shRun s' ts
    | .error m => .error m := rfl
theorem shRun_append : ∀ (ts us : List Tk) (s : List It × List O), shRun s (ts ++ us) = match shRun s ts with
    | .ok s' => shRun s' us
    | .error m => .error m
  | [], us, s => rfl
  | t :: ts, us, s => by
    rw [List.cons_append, shRun_cons, shRun_cons]
    cases shStep s t with
    | error m => rfl
    | ok s' => exact shRun_append ts us s'
theorem okRun_cons {d : Int} {i : It} {is : List It} : okRun d (i :: is) = match okStep d i with
    | some d' => okRun d' is
    | none => none := rfl
theorem okRun_append : ∀ (is js : List It) (d : Int), okRun d (is ++ js) = match okRun d is with
    | some d' => okRun d' js
    | none => none
  | [], js, d => rfl
  | i :: is, js, d => by
    rw [List.cons_append, okRun_cons, okRun_cons]
    cases okStep d i with
    | none => rfl
    | some d' => exact okRun_append is js d'

/-- a postfix list that leaves one value more -/
noncomputable def Good (p : List It) : Prop := ∀ d : Int, 0 ≤ d → okRun d p = some (d + 1)
theorem Good.one {p : List It} (h : Good p) : okList p = true := by
  unfold okList
  rw [h 0 (by (first | lia | omega))]
  rfl
theorem Good.bin {p q : List It} {i : It} (hp : Good p) (hq : Good q) (hi : i = .cat ∨ i = .alt) : Good (p ++ q ++ [i]) := fun d hd => by
  rw [okRun_append, okRun_append, hp d hd]
  dsimp only
  rw [hq (d + 1) (by (first | lia | omega))]
  have h2 : ¬ (d + 1 + 1 < 2) := by (first | lia | omega)
  rcases hi with rfl | rfl <;> (simp only [okRun, okStep, if_neg h2]; congr 1; (first | lia | omega))
theorem Good.un {p : List It} (u : U) (hp : Good p) : Good (p ++ [.un u]) := fun d hd => by
  rw [okRun_append, hp d hd]
  have h2 : ¬ (d + 1 < 1) := by (first | lia | omega)
  simp only [okRun, okStep, if_neg h2]

/-- a piece: a sign, a group, either marked -/
structure Piece (a : Pt) : Prop where
  allowed : Allowed a.x
  ne : ∃ t ts, toks a.x = t :: ts ∧ t.begins = true ∧ t.closes = false
  last : ∀ b, (lastT b (toks a.x)).ends = true
  fill : ∃ F f fs, (∀ b, fillM b (toks a.x) = F) ∧ F = f :: fs ∧ f.begins = true ∧ joinL none F = a.j ∧ (∀ b, lastT b F = lastT b (toks a.x))
  sh : ∀ out ops, shRun (out, ops) a.j = .ok (out ++ a.p, ops)
  good : Good a.p

theorem joinL_start {f : Tk} {fs : List Tk} {p : Tk} (hf : f.begins = true) : joinL (some p) (f :: fs) = (if p.ends then [.amp] else []) ++ joinL none (f :: fs) := by
  rw [joinL_cons, joinL_cons, hf]
  cases h : p.ends <;> simp [h]
theorem ends_opens {t : Tk} (h : t.ends = true) : t.opens = false := by cases t <;> first | rfl | cases h

theorem piece_leaf (i : Nat) : Piece (leafP i) := by
  have mk : ∀ (c : Nat) (t : Tk) (it : It), tokC c = some t → t.begins = true → t.closes = false → t.ends = true → (∀ out ops, shRun (out, ops) [t] = .ok (out ++ [it], ops)) → Good [it] → Piece ⟨[c], [t], [it]⟩ := fun c t it h1 h2 h3 h4 h5 h6 => by
    have e : toks [c] = [t] := by simp [toks, h1]
    refine ⟨fun x hx => ?_, ⟨t, [], e, h2, h3⟩, fun b => ?_, ⟨[t], t, [], fun b => ?_, rfl, h2, ?_, fun b => by rw [e]⟩, h5, h6⟩
    · rw [List.mem_singleton.mp hx]; exact ⟨t, h1⟩
    · show (lastT b (toks [c])).ends = true
      rw [e]; exact h4
    · show fillM b (toks [c]) = [t]
      rw [e]; simp [fillM, h3]
    · simp [joinL]
  have gc : ∀ c, c ∈ plainL → Good [It.chr c] := fun c hc d _ => by simp only [okRun, okStep, if_pos hc]
  have ga : Good [It.any] := fun d _ => rfl
  unfold leafP
  split
  · exact mk 97 (.chr 97) (.chr 97) (by kernel_rfl) rfl rfl rfl (fun _ _ => rfl) (gc 97 (by rw [codes_plain]; decide))
  · exact mk 122 (.chr 122) (.chr 122) (by kernel_rfl) rfl rfl rfl (fun _ _ => rfl) (gc 122 (by rw [codes_plain]; decide))
  · exact mk 48 (.chr 48) (.chr 48) (by kernel_rfl) rfl rfl rfl (fun _ _ => rfl) (gc 48 (by rw [codes_plain]; decide))
  · exact mk 57 (.chr 57) (.chr 57) (by kernel_rfl) rfl rfl rfl (fun _ _ => rfl) (gc 57 (by rw [codes_plain]; decide))
  · exact mk 46 .any .any (by kernel_rfl) rfl rfl rfl (fun _ _ => rfl) ga

theorem tok_un (u : U) : tokC u.c = some (.un u) := by cases u <;> kernel_rfl

theorem piece_mark {a : Pt} (h : Piece a) (u : Option U) : Piece (markP a u) := by
  cases u with
  | none => exact h
  | some u =>
    obtain ⟨h1, ⟨t, ts, e, hb, hc⟩, hl, ⟨F, f, fs, hF, rfl, hf, hj, hla⟩, hs, hg⟩ := h
    have et : toks (a.x ++ [u.c]) = toks a.x ++ [.un u] := by rw [toks_append]; simp [toks, tok_un]
    refine ⟨fun x hx => ?_, ⟨t, ts ++ [.un u], ?_, hb, hc⟩, fun b => ?_, ⟨f :: (fs ++ [.un u]), f, fs ++ [.un u], fun b => ?_, rfl, hf, ?_, fun b => ?_⟩, fun out ops => ?_, hg.un u⟩
    · rcases List.mem_append.mp hx with hx | hx
      · exact h1 x hx
      · rw [List.mem_singleton.mp hx]; exact ⟨_, tok_un u⟩
    · show toks (a.x ++ [u.c]) = _
      rw [et, e]; rfl
    · show (lastT b (toks (a.x ++ [u.c]))).ends = true
      rw [et, lastT_append]; rfl
    · show fillM b (toks (a.x ++ [u.c])) = _
      rw [et, fillM_append, hF b]
      simp [fillM, Tk.closes]
    · show joinL none (f :: (fs ++ [.un u])) = a.j ++ [.un u]
      rw [← List.cons_append, joinL_append, hj]
      simp [joinL, Tk.begins]
    · show lastT b (f :: (fs ++ [.un u])) = lastT b (toks (a.x ++ [u.c]))
      rw [et, ← List.cons_append, lastT_append, lastT_append]; rfl
    · show shRun (out, ops) (a.j ++ [.un u]) = .ok (out ++ (a.p ++ [.un u]), ops)
      rw [shRun_append, hs]
      simp [shRun, shStep]
end Mine

-- SxM2
namespace Mine
open PySem PyProof.Rows

theorem tok_bar : tokC 124 = some .bar := by kernel_rfl
theorem tok_op : tokC 40 = some .op := by kernel_rfl
theorem tok_cl : tokC 41 = some .cl := by kernel_rfl

theorem popBin_cons {b : Bool} {o : O} {r : List O} : popBin b (o :: r) = if stops b o then ([], o :: r) else (o.i :: (popBin b r).1, (popBin b r).2) := rfl
theorem popCl_cons {o : O} {r : List O} : popCl (o :: r) = if o.isOp then ([], r) else (o.i :: (popCl r).1, (popCl r).2) := rfl
/-- the top of a stack -/
noncomputable def topIs (o : O → Bool) : List O → Bool
  | [] => false
  | a :: _ => o a
noncomputable def O.isAmp : O → Bool
  | .amp => true
  | _ => false
noncomputable def noOp (l : List O) : Prop := l.any O.isOp = false

/-- a row of pieces, or the empty row -/
structure Row (a : Pt) : Prop where
  allowed : Allowed a.x
  fill : ∃ F, (∀ b : Tk, b.opens = true → fillM b (toks a.x) ++ (if (lastT b (toks a.x)).opens then [.eps] else []) = F) ∧ (∀ b : Tk, b.opens = true → joinL (some b) F = a.j) ∧ joinL none F = a.j ∧ (∀ b, (lastT b F).ends = true)
  sh : ∀ out ops, topIs O.isAmp ops = false → ∃ out' pend, shRun (out, ops) a.j = .ok (out', pend ++ ops) ∧ (pend = [] ∨ pend = [.amp]) ∧ out' ++ pend.map O.i = out ++ a.p
  good : Good a.p

theorem opens_ends {b : Tk} (h : b.opens = true) : b.ends = false := by cases b <;> first | rfl | cases h

theorem row_eps : Row epsP := by
  refine ⟨(fun x hx => by cases hx), ⟨[.eps], fun b hb => ?_, fun b hb => ?_, rfl, fun b => rfl⟩, fun out ops _ => ⟨out ++ [.eps], [], rfl, .inl rfl, by simp [epsP]⟩, fun d _ => rfl⟩
  · show fillM b [] ++ (if (lastT b []).opens then [.eps] else []) = _
    simp [fillM, lastT, hb]
  · show joinL (some b) [.eps] = [.eps]
    simp [joinL, opens_ends hb]

/-- a row under way: pieces joined, the last join still on the stack -/
structure RowN (a : Pt) : Prop where
  allowed : Allowed a.x
  ne : ∃ t ts, toks a.x = t :: ts ∧ t.begins = true ∧ t.closes = false
  last : ∀ b, (lastT b (toks a.x)).ends = true
  fill : ∃ F f fs, (∀ b, fillM b (toks a.x) = F) ∧ F = f :: fs ∧ f.begins = true ∧ joinL none F = a.j ∧ (∀ b, lastT b F = lastT b (toks a.x))
  sh : ∀ out ops, topIs O.isAmp ops = false → ∃ out' pend, shRun (out, ops) a.j = .ok (out', pend ++ ops) ∧ (pend = [] ∨ pend = [.amp]) ∧ out' ++ pend.map O.i = out ++ a.p
  good : Good a.p

theorem rowN_piece {a : Pt} (h : Piece a) : RowN a := ⟨h.allowed, h.ne, h.last, h.fill, fun out ops _ => ⟨_, [], h.sh out ops, .inl rfl, by simp⟩, h.good⟩

theorem popBin_amp {pend ops : List O} (hp : pend = [] ∨ pend = [.amp]) (ht : topIs O.isAmp ops = false) : popBin true (pend ++ ops) = (pend.map O.i, ops) := by
  have h0 : popBin true ops = ([], ops) := by
    cases ops with
    | nil => rfl
    | cons o r => cases o <;> first | rfl | cases ht
  rcases hp with rfl | rfl
  · exact h0
  · show (if stops true .amp then _ else _) = _
    rw [if_neg (by decide)]
    show (O.i .amp :: (popBin true ops).1, (popBin true ops).2) = _
    rw [h0]; rfl

theorem rowN_cat {a b : Pt} (ha : RowN a) (hb : Piece b) : RowN (catP a b) := by
  obtain ⟨a1, ⟨t, ts, e, ht1, ht2⟩, a3, ⟨F, f, fs, hF, rfl, hf, hj, hla⟩, a5, a6⟩ := ha
  obtain ⟨b1, ⟨u, us, eb, hu1, hu2⟩, b3, ⟨H, g, gs, hH, rfl, hg, hjb, hlb⟩, b5, b6⟩ := hb
  have et : toks (a.x ++ b.x) = toks a.x ++ toks b.x := toks_append _ _
  refine ⟨fun x hx => ?_, ⟨t, ts ++ toks b.x, ?_, ht1, ht2⟩, fun c => ?_, ⟨f :: (fs ++ (g :: gs)), f, fs ++ (g :: gs), fun c => ?_, rfl, hf, ?_, fun c => ?_⟩, fun out ops ho => ?_, ?_⟩
  · rcases List.mem_append.mp hx with hx | hx
    · exact a1 x hx
    · exact b1 x hx
  · show toks (a.x ++ b.x) = _
    rw [et, e]; rfl
  · show (lastT c (toks (a.x ++ b.x))).ends = true
    rw [et, lastT_append]; exact b3 _
  · show fillM c (toks (a.x ++ b.x)) = _
    rw [et, fillM_append, hF c, hH, List.cons_append]
  · show joinL none (f :: (fs ++ (g :: gs))) = a.j ++ [.amp] ++ b.j
    rw [← List.cons_append, joinL_append, hj]
    have : lastO none (f :: fs) = some (lastT f fs) := lastO_some f fs
    rw [this, joinL_start hg, hjb]
    have hl : (lastT f fs).ends = true := by
      have := hla f
      have h2 : lastT f (f :: fs) = lastT f fs := rfl
      rw [← h2, this]; exact a3 f
    rw [hl]; simp
  · show lastT c (f :: (fs ++ (g :: gs))) = lastT c (toks (a.x ++ b.x))
    rw [et, ← List.cons_append, lastT_append, lastT_append, hlb]
    have := hla c
    rw [eb] at *
    rfl
  · obtain ⟨out', pend, q1, q2, q3⟩ := a5 out ops ho
    refine ⟨out' ++ pend.map O.i ++ b.p, [.amp], ?_, .inr rfl, ?_⟩
    · show shRun (out, ops) (a.j ++ [.amp] ++ b.j) = _
      rw [List.append_assoc, shRun_append, q1]
      show shRun (out', pend ++ ops) (.amp :: b.j) = _
      rw [shRun_cons]
      show shRun (out' ++ (popBin true (pend ++ ops)).1, .amp :: (popBin true (pend ++ ops)).2) b.j = _
      rw [popBin_amp q2 ho, b5]
      rfl
    · show out' ++ pend.map O.i ++ b.p ++ [.cat] = out ++ (a.p ++ b.p ++ [.cat])
      rw [q3]; simp
  · exact a6.bin b6 (.inl rfl)

theorem rowN_fold : ∀ (r : List Pt) {a : Pt}, RowN a → (∀ b ∈ r, Piece b) → RowN (r.foldl catP a)
  | [], a, ha, _ => ha
  | b :: r, a, ha, h => rowN_fold r (rowN_cat ha (h b List.mem_cons_self)) fun c hc => h c (List.mem_cons_of_mem _ hc)

theorem row_of {a : Pt} (h : RowN a) : Row a := by
  obtain ⟨a1, ⟨t, ts, e, ht1, ht2⟩, a3, ⟨F, f, fs, hF, rfl, hf, hj, hla⟩, a5, a6⟩ := h
  refine ⟨a1, ⟨f :: fs, fun b hb => ?_, fun b hb => ?_, hj, fun b => ?_⟩, a5, a6⟩
  · rw [hF b, ends_opens (a3 b)]; simp
  · rw [joinL_start hf, opens_ends hb, hj]; simp
  · rw [hla]; exact a3 b
theorem row_row (r : List Pt) (h : ∀ b ∈ r, Piece b) : Row (rowP r) := by
  cases r with
  | nil => exact row_eps
  | cons a r => exact row_of (rowN_fold r (rowN_piece (h a List.mem_cons_self)) fun c hc => h c (List.mem_cons_of_mem _ hc))

/-- alternatives -/
structure Alts (a : Pt) : Prop where
  allowed : Allowed a.x
  fill : ∃ F, (∀ b : Tk, b.opens = true → fillM b (toks a.x) ++ (if (lastT b (toks a.x)).opens then [.eps] else []) = F) ∧ (∀ b : Tk, b.opens = true → joinL (some b) F = a.j) ∧ joinL none F = a.j ∧ (∀ b, (lastT b F).ends = true)
  sh : ∀ out ops, (ops = [] ∨ topIs O.isOp ops = true) → ∃ out' pend, shRun (out, ops) a.j = .ok (out', pend ++ ops) ∧ noOp pend ∧ out' ++ pend.map O.i = out ++ a.p
  good : Good a.p

theorem top_amp {ops : List O} (h : ops = [] ∨ topIs O.isOp ops = true) : topIs O.isAmp ops = false := by
  rcases h with rfl | h
  · rfl
  · cases ops with
    | nil => rfl
    | cons o r => cases o <;> first | rfl | cases h

theorem alts_row {a : Pt} (h : Row a) : Alts a := ⟨h.allowed, h.fill, fun out ops ho => by
  obtain ⟨out', pend, q1, q2, q3⟩ := h.sh out ops (top_amp ho)
  exact ⟨out', pend, q1, by rcases q2 with rfl | rfl <;> rfl, q3⟩, h.good⟩

theorem popBin_bar : ∀ {pend ops : List O}, noOp pend → (ops = [] ∨ topIs O.isOp ops = true) → popBin false (pend ++ ops) = (pend.map O.i, ops)
  | [], ops, _, ho => by
    rcases ho with rfl | ho
    · rfl
    · cases ops with
      | nil => rfl
      | cons o r => cases o <;> first | rfl | cases ho
  | o :: pend, ops, hp, ho => by
    have h1 : o.isOp = false := by
      have := hp
      unfold noOp at this
      rw [List.any_cons, Bool.or_eq_false_iff] at this
      exact this.1
    have h2 : noOp pend := by
      have := hp
      unfold noOp at this
      rw [List.any_cons, Bool.or_eq_false_iff] at this
      exact this.2
    have h3 : stops false o = false := by cases o <;> first | rfl | cases h1
    rw [List.cons_append, popBin_cons, if_neg (by rw [h3]; decide), popBin_bar h2 ho]
    rfl

theorem alts_alt {a b : Pt} (ha : Alts a) (hb : Row b) : Alts (altP a b) := by
  obtain ⟨a1, ⟨F, hF, hj, hj0, hl⟩, a5, a6⟩ := ha
  obtain ⟨b1, ⟨H, hH, hjb, hj0b, hlb⟩, b5, b6⟩ := hb
  have et : toks (a.x ++ [124] ++ b.x) = toks a.x ++ .bar :: toks b.x := by rw [toks_append, toks_append]; simp [toks, tok_bar]
  have hfill : ∀ c : Tk, c.opens = true → fillM c (toks (a.x ++ [124] ++ b.x)) ++ (if (lastT c (toks (a.x ++ [124] ++ b.x))).opens then [.eps] else []) = F ++ .bar :: H := fun c hc => by
    rw [et, fillM_append, lastT_append, fillM_cons]
    have e1 := hF c hc
    have e2 := hH .bar rfl
    have e3 : lastT (lastT c (toks a.x)) (.bar :: toks b.x) = lastT .bar (toks b.x) := rfl
    rw [e3, ← e1, ← e2]
    have e4 : ((lastT c (toks a.x)).opens && Tk.bar.closes) = (lastT c (toks a.x)).opens := by cases (lastT c (toks a.x)).opens <;> rfl
    rw [e4]
    simp
  refine ⟨fun x hx => ?_, ⟨F ++ .bar :: H, hfill, fun c hc => ?_, ?_, fun c => ?_⟩, fun out ops ho => ?_, ?_⟩
  · rcases List.mem_append.mp hx with hx | hx
    · rcases List.mem_append.mp hx with hx | hx
      · exact a1 x hx
      · rw [List.mem_singleton.mp hx]; exact ⟨_, tok_bar⟩
    · exact b1 x hx
  · show joinL (some c) (F ++ .bar :: H) = a.j ++ [.bar] ++ b.j
    rw [joinL_append, hj c hc, joinL_cons, hjb .bar rfl]
    simp [Tk.begins]
  · show joinL none (F ++ .bar :: H) = a.j ++ [.bar] ++ b.j
    rw [joinL_append, hj0, joinL_cons, hjb .bar rfl]
    simp [Tk.begins]
  · rw [lastT_append]; exact hlb _
  · obtain ⟨out', pend, q1, q2, q3⟩ := a5 out ops ho
    obtain ⟨out2, pend2, p1, p2, p3⟩ := b5 (out' ++ pend.map O.i) (.bar :: ops) rfl
    refine ⟨out2, pend2 ++ [.bar], ?_, ?_, ?_⟩
    · show shRun (out, ops) (a.j ++ [.bar] ++ b.j) = _
      rw [List.append_assoc, shRun_append, q1]
      show shRun (out', pend ++ ops) (.bar :: b.j) = _
      rw [shRun_cons]
      show shRun (out' ++ (popBin false (pend ++ ops)).1, .bar :: (popBin false (pend ++ ops)).2) b.j = _
      rw [popBin_bar q2 ho, p1]
      simp
    · rcases p2 with rfl | rfl <;> rfl
    · show out2 ++ (pend2 ++ [O.bar]).map O.i = out ++ (a.p ++ b.p ++ [.alt])
      rw [List.map_append, ← List.append_assoc, p3, q3]
      simp [O.i]
  · exact a6.bin b6 (.inr rfl)

theorem alts_fold : ∀ (r : List Pt) {a : Pt}, Alts a → (∀ b ∈ r, Row b) → Alts (r.foldl altP a)
  | [], a, ha, _ => ha
  | b :: r, a, ha, h => alts_fold r (alts_alt ha (h b List.mem_cons_self)) fun c hc => h c (List.mem_cons_of_mem _ hc)
theorem alts_alts (r : List Pt) (h : ∀ b ∈ r, Row b) : Alts (altsP r) := by
  cases r with
  | nil => exact alts_row row_eps
  | cons a r => exact alts_fold r (alts_row (h a List.mem_cons_self)) fun c hc => h c (List.mem_cons_of_mem _ hc)

/-- a group -/
noncomputable def groupP (a : Pt) : Pt := ⟨[40] ++ a.x ++ [41], [.op] ++ a.j ++ [.cl], a.p⟩
theorem popCl_pend : ∀ {pend ops : List O}, noOp pend → popCl (pend ++ .op :: ops) = (pend.map O.i, ops)
  | [], ops, _ => rfl
  | o :: pend, ops, hp => by
    have h1 : o.isOp = false := by
      have := hp
      unfold noOp at this
      rw [List.any_cons, Bool.or_eq_false_iff] at this
      exact this.1
    have h2 : noOp pend := by
      have := hp
      unfold noOp at this
      rw [List.any_cons, Bool.or_eq_false_iff] at this
      exact this.2
    rw [List.cons_append, popCl_cons, if_neg (by rw [h1]; decide), popCl_pend h2]
    rfl
theorem piece_group {a : Pt} (h : Alts a) : Piece (groupP a) := by
  obtain ⟨a1, ⟨F, hF, hj, hj0, hl⟩, a5, a6⟩ := h
  have et : toks ([40] ++ a.x ++ [41]) = .op :: (toks a.x ++ [.cl]) := by rw [toks_append, toks_append]; simp [toks, tok_op, tok_cl]
  have hfill : ∀ c : Tk, fillM c (toks ([40] ++ a.x ++ [41])) = .op :: (F ++ [.cl]) := fun c => by
    rw [et, fillM_cons, fillM_append, fillM_cons]
    have e1 := hF .op rfl
    rw [← e1]
    have e4 : ((lastT .op (toks a.x)).opens && Tk.cl.closes) = (lastT .op (toks a.x)).opens := by cases (lastT .op (toks a.x)).opens <;> rfl
    rw [e4]
    simp [Tk.closes, fillM]
  refine ⟨fun x hx => ?_, ⟨Tk.op, toks a.x ++ [Tk.cl], et, rfl, rfl⟩, fun b => ?_, ⟨Tk.op :: (F ++ [Tk.cl]), Tk.op, F ++ [Tk.cl], hfill, rfl, rfl, ?_, fun b => ?_⟩, fun out ops => ?_, a6⟩
  · rcases List.mem_append.mp hx with hx | hx
    · rcases List.mem_append.mp hx with hx | hx
      · rw [List.mem_singleton.mp hx]; exact ⟨_, tok_op⟩
      · exact a1 x hx
    · rw [List.mem_singleton.mp hx]; exact ⟨_, tok_cl⟩
  · show (lastT b (toks ([40] ++ a.x ++ [41]))).ends = true
    rw [et]
    show (lastT .op (toks a.x ++ [.cl])).ends = true
    rw [lastT_append]; rfl
  · show joinL none (.op :: (F ++ [.cl])) = [.op] ++ a.j ++ [.cl]
    rw [joinL_cons, joinL_append, hj .op rfl]
    simp [joinL, Tk.begins]
  · show lastT b (.op :: (F ++ [.cl])) = lastT b (toks ([40] ++ a.x ++ [41]))
    rw [et]
    show lastT .op (F ++ [.cl]) = lastT .op (toks a.x ++ [.cl])
    rw [lastT_append, lastT_append]; rfl
  · obtain ⟨out', pend, q1, q2, q3⟩ := a5 out (.op :: ops) (.inr rfl)
    show shRun (out, ops) ([.op] ++ a.j ++ [.cl]) = .ok (out ++ a.p, ops)
    rw [List.append_assoc]
    show shRun (out, ops) (.op :: (a.j ++ [.cl])) = _
    rw [shRun_cons]
    show shRun (out, .op :: ops) (a.j ++ [.cl]) = _
    rw [shRun_append, q1]
    show shRun (out', pend ++ .op :: ops) [.cl] = _
    rw [shRun_cons]
    have hany : (pend ++ .op :: ops).any O.isOp = true := by simp [O.isOp]
    show (match (if (pend ++ .op :: ops).any O.isOp then Except.ok (out' ++ (popCl (pend ++ .op :: ops)).1, (popCl (pend ++ .op :: ops)).2) else .error "a ')' closes no '('" : Except Str (List It × List O)) with
      | .ok s' => shRun s' []
      | .error m => .error m) = _
    rw [if_pos hany, popCl_pend q2]
    show Except.ok (out' ++ pend.map O.i, ops) = _
    rw [q3]

/-- a sound text -/
theorem alts_joins {a : Pt} (h : Alts a) : joins (toks a.x) = a.j := by
  obtain ⟨_, ⟨F, hF, _, hj0, _⟩, _, _⟩ := h
  unfold joins
  rw [fillL_eq, hF .bar rfl, hj0]
theorem alts_post {a : Pt} (h : Alts a) : postL a.j = .ok a.p := by
  obtain ⟨out', pend, q1, q2, q3⟩ := h.sh [] [] (.inl rfl)
  unfold postL
  rw [q1]
  dsimp only
  rw [List.append_nil, if_neg (by rw [show pend.any O.isOp = false from q2]; decide)]
  have q3 : out' ++ pend.map O.i = a.p := q3
  rw [q3, if_pos h.good.one]
theorem alts_comp {a : Pt} (h : Alts a) : compL a.x = .ok a.p := by
  unfold compL
  rw [tokL_ok _ 0 h.allowed]
  dsimp only
  rw [alts_joins h]
  exact alts_post h
end Mine

-- SxM3
namespace Mine
open PySem PyProof.Rows

noncomputable def msgCl : Str := "a ')' closes no '('"
noncomputable def msgOp : Str := "a '(' is never closed"
noncomputable def msgUn : Str := "an operator has nothing to work on"

noncomputable def depT (d : Nat) : List Tk → Option Nat
  | [] => some d
  | .op :: ts => depT (d + 1) ts
  | .cl :: ts => match d with
    | 0 => none
    | d + 1 => depT d ts
  | _ :: ts => depT d ts
noncomputable def Tk.val : Tk → Int
  | .chr _ => 1
  | .any => 1
  | .eps => 1
  | .bar => -1
  | .amp => -1
  | _ => 0
noncomputable def It.val : It → Int
  | .cat => -1
  | .alt => -1
  | .un _ => 0
  | _ => 1
noncomputable def valT (ts : List Tk) : Int := (ts.map Tk.val).sum
noncomputable def valI (is : List It) : Int := (is.map It.val).sum
theorem valI_append (a b : List It) : valI (a ++ b) = valI a + valI b := by simp [valI]
theorem valT_cons (t : Tk) (b : List Tk) : valT (t :: b) = t.val + valT b := by simp [valT]
theorem valT_append (a b : List Tk) : valT (a ++ b) = valT a + valT b := by simp [valT]
noncomputable def nOp (st : List O) : Nat := st.countP O.isOp
noncomputable def nBin (st : List O) : Int := ((st.countP fun o => !o.isOp : Nat) : Int)
theorem nOp_cons (o : O) (r : List O) : nOp (o :: r) = nOp r + if o.isOp then 1 else 0 := by simp [nOp, List.countP_cons]
theorem nBin_cons (o : O) (r : List O) : nBin (o :: r) = nBin r + if o.isOp then 0 else 1 := by
  unfold nBin
  rw [List.countP_cons]
  cases o.isOp <;> simp
noncomputable def chrI : It → Option Nat
  | .chr c => some c
  | _ => none
noncomputable def chrT : Tk → Option Nat
  | .chr c => some c
  | _ => none
noncomputable def isUnI : It → Bool
  | .un _ => true
  | _ => false
noncomputable def isUnT : Tk → Bool
  | .un _ => true
  | _ => false

theorem i_val (o : O) : o.i.val = -1 := by cases o <;> rfl
theorem i_chr (o : O) : chrI o.i = none := by cases o <;> rfl
theorem i_un (o : O) : isUnI o.i = false := by cases o <;> rfl

theorem popCl_facts : ∀ (st : List O), st.any O.isOp = true → nOp (popCl st).2 + 1 = nOp st ∧ valI (popCl st).1 - nBin (popCl st).2 = -nBin st ∧ (popCl st).1.filterMap chrI = [] ∧ (popCl st).1.countP isUnI = 0
  | [], h => by cases h
  | o :: r, h => by
    rw [popCl_cons, nOp_cons, nBin_cons]
    cases ho : o.isOp with
    | true => simp [valI]
    | false =>
      rw [List.any_cons, ho, Bool.false_or] at h
      obtain ⟨h1, h2, h3, h4⟩ := popCl_facts r h
      simp only [Bool.false_eq_true, if_false]
      refine ⟨by (first | lia | omega), ?_, ?_, ?_⟩
      · have : valI (o.i :: (popCl r).1) = -1 + valI (popCl r).1 := by simp [valI, i_val]
        rw [this]; (first | lia | omega)
      · rw [List.filterMap_cons, i_chr]; exact h3
      · rw [List.countP_cons, i_un]; simpa using h4
theorem popBin_facts (b : Bool) : ∀ (st : List O), nOp (popBin b st).2 = nOp st ∧ valI (popBin b st).1 - nBin (popBin b st).2 = -nBin st ∧ (popBin b st).1.filterMap chrI = [] ∧ (popBin b st).1.countP isUnI = 0
  | [] => ⟨rfl, rfl, rfl, rfl⟩
  | o :: r => by
    rw [popBin_cons]
    split
    · refine ⟨rfl, ?_, rfl, rfl⟩
      simp [valI]
    · rename_i hs
      have ho : o.isOp = false := by cases o <;> first | rfl | exact absurd rfl hs
      obtain ⟨h1, h2, h3, h4⟩ := popBin_facts b r
      rw [nOp_cons, nBin_cons, ho]
      simp only [Bool.false_eq_true, if_false]
      refine ⟨by (first | lia | omega), ?_, ?_, ?_⟩
      · have : valI (o.i :: (popBin b r).1) = -1 + valI (popBin b r).1 := by simp [valI, i_val]
        rw [this]; (first | lia | omega)
      · rw [List.filterMap_cons, i_chr]; exact h3
      · rw [List.countP_cons, i_un]; simpa using h4

theorem any_nOp (st : List O) : st.any O.isOp = true ↔ 0 < nOp st := by
  unfold nOp
  rw [List.countP_pos_iff, List.any_eq_true]

/-- what the loop over the tokens keeps -/
structure Kept (s s' : List It × List O) (ts : List Tk) : Prop where
  val : valI s'.1 - nBin s'.2 = valI s.1 - nBin s.2 + valT ts
  chr : s'.1.filterMap chrI = s.1.filterMap chrI ++ ts.filterMap chrT
  un : s'.1.countP isUnI = s.1.countP isUnI + ts.countP isUnT

theorem step_dep (s : List It × List O) (t : Tk) : match depT (nOp s.2) [t] with
    | none => shStep s t = .error msgCl
    | some m => ∃ s', shStep s t = .ok s' ∧ nOp s'.2 = m ∧ Kept s s' [t] := by
  have plain : ∀ (i : It) (t : Tk), i.val = t.val → chrI i = chrT t → isUnI i = isUnT t → Kept s (s.1 ++ [i], s.2) [t] := fun i t h1 h2 h3 => by
    refine ⟨?_, ?_, ?_⟩
    · show valI (s.1 ++ [i]) - nBin s.2 = _
      rw [valI_append, valT_cons]; simp [valI, valT, h1]; (first | lia | omega)
    · show (s.1 ++ [i]).filterMap chrI = _
      rw [List.filterMap_append]; simp [List.filterMap_cons, h2]
    · show (s.1 ++ [i]).countP isUnI = _
      rw [List.countP_append]; simp [List.countP_cons, h3]
  cases t with
  | chr c => exact ⟨_, rfl, rfl, plain (.chr c) (.chr c) rfl rfl rfl⟩
  | any => exact ⟨_, rfl, rfl, plain .any .any rfl rfl rfl⟩
  | eps => exact ⟨_, rfl, rfl, plain .eps .eps rfl rfl rfl⟩
  | un u => exact ⟨_, rfl, rfl, plain (.un u) (.un u) rfl rfl rfl⟩
  | op =>
    refine ⟨_, rfl, ?_, ?_, ?_, ?_⟩
    · show nOp (.op :: s.2) = _
      rw [nOp_cons]; rfl
    · show valI s.1 - nBin (.op :: s.2) = _
      rw [nBin_cons]; simp [valT, Tk.val, O.isOp]
    · simp [chrT]
    · simp [isUnT]
  | cl =>
    show match (match nOp s.2 with | 0 => none | d + 1 => some d) with
      | none => shStep s .cl = .error msgCl
      | some m => ∃ s', shStep s .cl = .ok s' ∧ nOp s'.2 = m ∧ Kept s s' [.cl]
    cases hn : nOp s.2 with
    | zero =>
      show (if s.2.any O.isOp then _ else _) = _
      rw [if_neg (by rw [any_nOp, hn]; decide)]
      rfl
    | succ d =>
      have ha : s.2.any O.isOp = true := (any_nOp _).mpr (by (first | lia | omega))
      obtain ⟨h1, h2, h3, h4⟩ := popCl_facts s.2 ha
      refine ⟨(s.1 ++ (popCl s.2).1, (popCl s.2).2), ?_, by show nOp (popCl s.2).2 = d; (first | lia | omega), ?_, ?_, ?_⟩
      · show (if s.2.any O.isOp then _ else _) = _
        rw [if_pos ha]
      · show valI (s.1 ++ (popCl s.2).1) - nBin (popCl s.2).2 = _
        rw [valI_append]; simp [valT, Tk.val]; (first | lia | omega)
      · show (s.1 ++ (popCl s.2).1).filterMap chrI = _
        rw [List.filterMap_append, h3]; simp [chrT]
      · show (s.1 ++ (popCl s.2).1).countP isUnI = _
        rw [List.countP_append, h4]; simp [isUnT]
  | bar =>
    obtain ⟨h1, h2, h3, h4⟩ := popBin_facts false s.2
    refine ⟨_, rfl, ?_, ?_, ?_, ?_⟩
    · show nOp (.bar :: (popBin false s.2).2) = _
      rw [nOp_cons]; simp [O.isOp, h1, depT]
    · show valI (s.1 ++ (popBin false s.2).1) - nBin (.bar :: (popBin false s.2).2) = _
      rw [valI_append, nBin_cons]; simp [valT, Tk.val, O.isOp]; (first | lia | omega)
    · show (s.1 ++ (popBin false s.2).1).filterMap chrI = _
      rw [List.filterMap_append, h3]; simp [chrT]
    · show (s.1 ++ (popBin false s.2).1).countP isUnI = _
      rw [List.countP_append, h4]; simp [isUnT]
  | amp =>
    obtain ⟨h1, h2, h3, h4⟩ := popBin_facts true s.2
    refine ⟨_, rfl, ?_, ?_, ?_, ?_⟩
    · show nOp (.amp :: (popBin true s.2).2) = _
      rw [nOp_cons]; simp [O.isOp, h1, depT]
    · show valI (s.1 ++ (popBin true s.2).1) - nBin (.amp :: (popBin true s.2).2) = _
      rw [valI_append, nBin_cons]; simp [valT, Tk.val, O.isOp]; (first | lia | omega)
    · show (s.1 ++ (popBin true s.2).1).filterMap chrI = _
      rw [List.filterMap_append, h3]; simp [chrT]
    · show (s.1 ++ (popBin true s.2).1).countP isUnI = _
      rw [List.countP_append, h4]; simp [isUnT]

theorem depT_cons (d : Nat) (t : Tk) (ts : List Tk) : depT d (t :: ts) = match depT d [t] with
    | some d' => depT d' ts
    | none => none := by
  cases t <;> try rfl
  cases d <;> rfl
theorem depT_append : ∀ (ts us : List Tk) (d : Nat), depT d (ts ++ us) = match depT d ts with
    | some d' => depT d' us
    | none => none
  | [], us, d => rfl
  | t :: ts, us, d => by
    rw [List.cons_append, depT_cons, depT_cons d t ts]
    cases depT d [t] with
    | none => rfl
    | some d' => exact depT_append ts us d'

theorem run_dep : ∀ (ts : List Tk) (s : List It × List O), match depT (nOp s.2) ts with
    | none => shRun s ts = .error msgCl
    | some m => ∃ s', shRun s ts = .ok s' ∧ nOp s'.2 = m ∧ Kept s s' ts
  | [], s => ⟨s, rfl, rfl, by simp [valT], by simp, by simp⟩
  | t :: ts, s => by
    have h := step_dep s t
    rw [depT_cons, shRun_cons]
    cases hd : depT (nOp s.2) [t] with
    | none => rw [hd] at h; rw [h]
    | some d' =>
      rw [hd] at h
      obtain ⟨s1, e1, e2, k⟩ := h
      rw [e1]
      have ih := run_dep ts s1
      rw [e2] at ih
      dsimp only
      cases hr : depT d' ts with
      | none => rw [hr] at ih; exact ih
      | some m =>
        rw [hr] at ih
        obtain ⟨s2, f1, f2, k2⟩ := ih
        refine ⟨s2, f1, f2, ?_, ?_, ?_⟩
        · rw [k2.val, k.val, valT_cons t ts, valT_cons t []]; simp [valT]; (first | lia | omega)
        · rw [k2.chr, k.chr]; simp [List.filterMap_cons]
          cases chrT t <;> simp
        · rw [k2.un, k.un, List.countP_cons, List.countP_cons]; simp; (first | lia | omega)

theorem okRun_val : ∀ (is : List It) (d d' : Int), okRun d is = some d' → d' = d + valI is
  | [], d, d', h => by cases h; simp [valI]
  | i :: is, d, d', h => by
    rw [okRun_cons] at h
    cases hs : okStep d i with
    | none => rw [hs] at h; cases h
    | some d1 =>
      rw [hs] at h
      have := okRun_val is d1 d' h
      have h1 : d1 = d + i.val := by
        cases i <;> simp only [okStep] at hs <;> first
          | (cases hs; rfl)
          | (split at hs <;> cases hs; simp [It.val]; try (first | lia | omega))
      rw [this, h1]; simp [valI]; (first | lia | omega)
theorem okList_val {is : List It} (h : okList is = true) : valI is = 1 := by
  unfold okList at h
  split at h
  · rename_i d hd
    have := okRun_val is 0 d hd
    have h : d = 1 := by simpa using h
    (first | lia | omega)
  · cases h

theorem nBin_zero (st : List O) : valI (st.map O.i) = -nBin st - (nOp st : Int) := by
  induction st with
  | nil => rfl
  | cons o r ih =>
    have : valI ((o :: r).map O.i) = -1 + valI (r.map O.i) := by simp [valI, i_val]
    rw [this, ih, nBin_cons, nOp_cons]
    cases o.isOp <;> simp <;> (first | lia | omega)

theorem post_cases (ts : List Tk) : match depT 0 ts with
    | none => postL ts = .error msgCl
    | some 0 => ∃ is, valI is = valT ts ∧ is.filterMap chrI = ts.filterMap chrT ∧ is.countP isUnI = ts.countP isUnT ∧ postL ts = if okList is then .ok is else .error msgUn
    | some (_ + 1) => postL ts = .error msgOp := by
  have h := run_dep ts ([], [])
  have e0 : nOp (([], []) : List It × List O).2 = 0 := rfl
  rw [e0] at h
  cases hd : depT 0 ts with
  | none =>
    rw [hd] at h
    unfold postL
    rw [h]
  | some m =>
    rw [hd] at h
    obtain ⟨s', e1, e2, k⟩ := h
    cases m with
    | succ m =>
      unfold postL
      rw [e1]
      dsimp only
      rw [if_pos ((any_nOp _).mpr (by (first | lia | omega)))]
      rfl
    | zero =>
      have hno : ¬ s'.2.any O.isOp = true := by rw [any_nOp, e2]; decide
      have hv := k.val
      have hc := k.chr
      have hu := k.un
      have z : valI (([], []) : List It × List O).1 - nBin (([], []) : List It × List O).2 = 0 := rfl
      rw [z] at hv
      have hb := nBin_zero s'.2
      rw [e2] at hb
      refine ⟨s'.1 ++ s'.2.map O.i, ?_, ?_, ?_, ?_⟩
      · rw [valI_append, hb]; simp; (first | lia | omega)
      · rw [List.filterMap_append, hc]
        have : (s'.2.map O.i).filterMap chrI = [] := by
          generalize s'.2 = l
          induction l with
          | nil => rfl
          | cons o r ih => rw [List.map_cons, List.filterMap_cons, i_chr]; exact ih
        rw [this]; simp
      · rw [List.countP_append, hu]
        have : (s'.2.map O.i).countP isUnI = 0 := by
          generalize s'.2 = l
          induction l with
          | nil => rfl
          | cons o r ih => rw [List.map_cons, List.countP_cons, i_un, ih]; rfl
        rw [this]; simp
      · unfold postL
        rw [e1]
        dsimp only
        rw [if_neg hno]
        rfl
end Mine

-- SxM4
namespace Mine
open PySem PyProof.Rows

theorem dep_up : ∀ (ts : List Tk) (d m : Nat), depT d ts = some m → depT (d + 1) ts = some (m + 1)
  | [], d, m, h => by cases h; rfl
  | t :: ts, d, m, h => by
    rw [depT_cons] at h ⊢
    cases t with
    | op => exact dep_up ts (d + 1) m h
    | cl =>
      cases d with
      | zero => cases h
      | succ d => exact dep_up ts d m h
    | _ => exact dep_up ts d m h
theorem dep_low {ts : List Tk} {d : Nat} (h : depT (d + 1) ts = some 0) : depT d ts = none := by
  cases hq : depT d ts with
  | none => rfl
  | some m => rw [dep_up ts d m hq] at h; cases h

theorem step_pre {out : List It} {ops : List O} {s' : List It × List O} {t : Tk} (h : shStep (out, ops) t = .ok s') : ∃ R, s'.1 = out ++ R ∧ ∀ o2, shStep (o2, ops) t = .ok (o2 ++ R, s'.2) := by
  cases t with
  | cl =>
    simp only [shStep] at h
    split at h
    · rename_i ha
      cases h
      exact ⟨_, rfl, fun o2 => by simp only [shStep, if_pos ha]⟩
    · cases h
  | op => cases h; exact ⟨[], by simp, fun o2 => by simp [shStep]⟩
  | _ => cases h; exact ⟨_, rfl, fun o2 => rfl⟩
theorem run_pre : ∀ (ts : List Tk) {out : List It} {ops : List O} {s' : List It × List O}, shRun (out, ops) ts = .ok s' → ∃ R, s'.1 = out ++ R ∧ ∀ o2, shRun (o2, ops) ts = .ok (o2 ++ R, s'.2)
  | [], out, ops, s', h => by cases h; exact ⟨[], by simp, fun o2 => by simp [shRun]⟩
  | t :: ts, out, ops, s', h => by
    rw [shRun_cons] at h
    cases hs : shStep (out, ops) t with
    | error m => rw [hs] at h; cases h
    | ok s1 =>
      rw [hs] at h
      obtain ⟨R1, e1, f1⟩ := step_pre hs
      obtain ⟨R2, e2, f2⟩ := run_pre ts (out := s1.1) (ops := s1.2) h
      refine ⟨R1 ++ R2, by rw [e2, e1]; simp, fun o2 => ?_⟩
      rw [shRun_cons, f1 o2]
      dsimp only
      rw [f2]; simp

theorem post_ok {ts : List Tk} {P : List It} (h : postL ts = .ok P) : depT 0 ts = some 0 ∧ valT ts = 1 ∧ okList P = true ∧ ∃ s, shRun ([], []) ts = .ok s ∧ P = s.1 ++ s.2.map O.i ∧ s.2.any O.isOp = false := by
  have hc := post_cases ts
  unfold postL at h
  cases hr : shRun ([], []) ts with
  | error m => rw [hr] at h; cases h
  | ok s =>
    rw [hr] at h
    dsimp only at h
    split at h
    · cases h
    · rename_i hno
      split at h
      · rename_i hk
        cases h
        cases hd : depT 0 ts with
        | none =>
          rw [hd] at hc
          have : postL ts = .ok (s.1 ++ s.2.map O.i) := by unfold postL; rw [hr]; dsimp only; rw [if_neg hno, if_pos hk]
          rw [hc] at this; cases this
        | some m =>
          rw [hd] at hc
          have this : postL ts = .ok (s.1 ++ s.2.map O.i) := by unfold postL; rw [hr]; dsimp only; rw [if_neg hno, if_pos hk]
          cases m with
          | succ m => rw [hc] at this; cases this
          | zero =>
            obtain ⟨is, v1, _, _, v4⟩ := hc
            rw [v4] at this
            split at this
            · rename_i hk2
              exact ⟨rfl, by rw [← v1]; exact okList_val hk2, hk, s, rfl, rfl, by simpa using hno⟩
            · cases this
      · cases h

theorem split_at {α : Type} {l : List α} {p : Nat} (hp : p < l.length) : l = l.take p ++ l[p] :: l.drop (p + 1) := by
  rw [List.getElem_cons_drop_succ_eq_drop hp, List.take_append_drop]
theorem bent_split {α : Type} {A B : List α} {t : α} (side : Bool) : bentL (A ++ t :: B) A.length side = if side then A ++ t :: t :: B else A ++ B := by
  unfold bentL
  cases side with
  | true =>
    have e : A.take (A.length + 1) = A := List.take_of_length_le (by (first | lia | omega))
    simp only [if_true]
    rw [List.take_append, List.drop_append, e]
    simp
  | false =>
    simp only [Bool.false_eq_true, if_false]
    rw [List.take_append, List.drop_append]
    simp

theorem okRun_dropun {a r : List It} {u : U} (h : okList (a ++ .un u :: r) = true) : okList (a ++ r) = true ∧ okList (a ++ .un u :: .un u :: r) = true := by
  unfold okList at h ⊢
  rw [okRun_append] at h
  rw [okRun_append, okRun_append]
  cases ha : okRun 0 a with
  | none => rw [ha] at h; cases h
  | some d =>
    rw [ha] at h
    dsimp only at h ⊢
    rw [okRun_cons] at h
    by_cases hd : d < 1
    · simp only [okStep, if_pos hd] at h; cases h
    · simp only [okStep, if_neg hd] at h
      refine ⟨h, ?_⟩
      rw [okRun_cons]
      simp only [okStep, if_neg hd]
      rw [okRun_cons]
      simp only [okStep, if_neg hd]
      exact h

theorem bent_un {A B : List Tk} {u : U} {P : List It} (h : postL (A ++ .un u :: B) = .ok P) (side : Bool) :
    ∃ X Y, P = X ++ .un u :: Y ∧ X.countP isUnI = A.countP isUnT ∧ postL (if side then A ++ .un u :: .un u :: B else A ++ B) = .ok (if side then X ++ .un u :: .un u :: Y else X ++ Y) := by
  obtain ⟨_, _, hk, s, hr, rfl, hno⟩ := post_ok h
  rw [shRun_append] at hr
  cases ha : shRun ([], []) A with
  | error m => rw [ha] at hr; cases hr
  | ok sA =>
    rw [ha] at hr
    dsimp only at hr
    rw [shRun_cons] at hr
    have hr : shRun (sA.1 ++ [.un u], sA.2) B = .ok s := hr
    obtain ⟨R, e1, f1⟩ := run_pre B hr
    have hcount : sA.1.countP isUnI = A.countP isUnT := by
      have hd := run_dep A ([], [])
      cases hq : depT (nOp (([], []) : List It × List O).2) A with
      | none => rw [hq, ha] at hd; cases hd
      | some m =>
        rw [hq, ha] at hd
        obtain ⟨s', e, _, k⟩ := hd
        cases e
        have := k.un
        simpa using this
    have eP : s.1 ++ s.2.map O.i = sA.1 ++ .un u :: (R ++ s.2.map O.i) := by rw [e1]; simp
    rw [eP] at hk
    obtain ⟨k1, k2⟩ := okRun_dropun hk
    refine ⟨sA.1, R ++ s.2.map O.i, eP, hcount, ?_⟩
    have hno' : ¬ s.2.any O.isOp = true := by rw [hno]; decide
    cases side with
    | false =>
      simp only [Bool.false_eq_true, if_false]
      unfold postL
      rw [shRun_append, ha]
      have : shRun sA B = .ok (sA.1 ++ R, s.2) := f1 sA.1
      dsimp only
      rw [this]
      dsimp only
      rw [if_neg hno', List.append_assoc, if_pos k1]
    | true =>
      simp only [if_true]
      unfold postL
      rw [shRun_append, ha]
      dsimp only
      rw [shRun_cons]
      show (match (match shRun (sA.1 ++ [.un u], sA.2) (.un u :: B) with
        | .error m => .error m
        | .ok s => if s.2.any O.isOp then .error "a '(' is never closed" else if okList (s.1 ++ s.2.map O.i) then .ok (s.1 ++ s.2.map O.i) else .error "an operator has nothing to work on" : Except Str (List It)) with | x => x) = _
      rw [shRun_cons]
      have : shRun (sA.1 ++ [.un u] ++ [.un u], sA.2) B = .ok (sA.1 ++ [.un u] ++ [.un u] ++ R, s.2) := f1 _
      have e : shStep (sA.1 ++ [.un u], sA.2) (.un u) = .ok (sA.1 ++ [.un u] ++ [.un u], sA.2) := rfl
      rw [e]
      dsimp only
      rw [this]
      dsimp only
      rw [if_neg hno']
      have e2 : sA.1 ++ [.un u] ++ [.un u] ++ R ++ s.2.map O.i = sA.1 ++ .un u :: .un u :: (R ++ s.2.map O.i) := by simp
      rw [e2, if_pos k2]

theorem post_bad {ts : List Tk} (hd : depT 0 ts = some 0) (hv : valT ts ≠ 1) : postL ts = .error msgUn := by
  have := post_cases ts
  rw [hd] at this
  obtain ⟨is, v1, _, _, v4⟩ := this
  rw [v4]
  cases hk : okList is with
  | true => exact absurd ((v1.symm).trans (okList_val hk)) hv
  | false => rfl
theorem post_cl {ts : List Tk} (hd : depT 0 ts = none) : postL ts = .error msgCl := by
  have := post_cases ts
  rw [hd] at this
  exact this
theorem post_op {ts : List Tk} {m : Nat} (hd : depT 0 ts = some (m + 1)) : postL ts = .error msgOp := by
  have := post_cases ts
  rw [hd] at this
  exact this

/-- the reason that a bent list is refused for -/
noncomputable def lostM (t : Tk) (side : Bool) : Str := match t with
  | .op => if side then msgOp else msgCl
  | .cl => if side then msgCl else msgOp
  | _ => msgUn

theorem bent_bad {A B : List Tk} {t : Tk} {P : List It} (h : postL (A ++ t :: B) = .ok P) (hu : isUnT t = false) (side : Bool) : postL (if side then A ++ t :: t :: B else A ++ B) = .error (lostM t side) := by
  obtain ⟨hd, hv, _, _⟩ := post_ok h
  rw [depT_append] at hd
  cases ha : depT 0 A with
  | none => rw [ha] at hd; cases hd
  | some a =>
    rw [ha] at hd
    dsimp only at hd
    have app : ∀ us, depT 0 (A ++ us) = depT a us := fun us => by rw [depT_append, ha]
    have hval : valT (if side then A ++ t :: t :: B else A ++ B) = 1 + (if side then t.val else -t.val) := by
      rw [valT_append, valT_cons] at hv
      cases side with
      | true => simp only [if_true]; rw [valT_append, valT_cons, valT_cons]; (first | lia | omega)
      | false => simp only [Bool.false_eq_true, if_false]; rw [valT_append]; (first | lia | omega)
    have other : (∀ us d, depT d (t :: us) = depT d us) → t.val ≠ 0 → lostM t side = msgUn → postL (if side then A ++ t :: t :: B else A ++ B) = .error (lostM t side) := fun h1 h2 h3 => by
      rw [h3]
      refine post_bad ?_ ?_
      · cases side with
        | true => simp only [if_true]; rw [app, h1, ← hd]
        | false => simp only [Bool.false_eq_true, if_false]; rw [app, ← hd, h1]
      · rw [hval]; cases side <;> simp <;> (first | lia | omega)
    cases t with
    | un u => cases hu
    | op =>
      have hd : depT (a + 1) B = some 0 := hd
      cases side with
      | true =>
        refine post_op (m := 0) ?_
        simp only [if_true]
        rw [app]
        exact dep_up B (a + 1) 0 hd
      | false =>
        refine post_cl ?_
        simp only [Bool.false_eq_true, if_false]
        rw [app]
        exact dep_low hd
    | cl =>
      cases a with
      | zero => cases hd
      | succ a =>
        have hd : depT a B = some 0 := hd
        cases side with
        | true =>
          refine post_cl ?_
          simp only [if_true]
          rw [app]
          cases a with
          | zero => rfl
          | succ a => exact dep_low hd
        | false =>
          refine post_op (m := 0) ?_
          simp only [Bool.false_eq_true, if_false]
          rw [app]
          exact dep_up B a 0 hd
    | chr c => exact other (fun _ _ => rfl) (by simp [Tk.val]) rfl
    | any => exact other (fun _ _ => rfl) (by simp [Tk.val]) rfl
    | eps => exact other (fun _ _ => rfl) (by simp [Tk.val]) rfl
    | bar => exact other (fun _ _ => rfl) (by simp [Tk.val]) rfl
    | amp => exact other (fun _ _ => rfl) (by simp [Tk.val]) rfl
end Mine

-- SxM5
namespace Mine
open PySem PyProof.Rows

theorem contains_prefix (y z : Str) : Txt.contains (y ++ z) y = true := by
  refine (PySem.StrLaws.found_iff _ _).mpr ⟨0, ?_, ?_⟩
  · rw [length_append]; (first | lia | omega)
  · unfold Builtin.Str.subAt
    show ((y.cps ++ z.cps).extract 0 (0 + y.cps.size) == y.cps) = true
    simp [Array.extract_append]

theorem allL_iff (c : Nat) : c ∈ allL ↔ ∃ t, tokC c = some t := by
  rw [codes_all]
  have hv := tokC_v (c := c)
  cases h : tokC c with
  | none =>
    rw [h] at hv
    obtain ⟨h1, h2, h3⟩ := hv
    constructor
    · intro hm
      rcases List.mem_append.mp hm with hm | hm
      · exact absurd hm h1
      · rcases List.mem_cons.mp hm with hm | hm
        · exact absurd hm h2
        · exact absurd hm h3
    · rintro ⟨t, ht⟩; cases ht
  | some t =>
    refine ⟨fun _ => ⟨t, rfl⟩, fun _ => ?_⟩
    by_cases h1 : c ∈ plainL
    · exact List.mem_append_left _ h1
    · refine List.mem_append_right _ ?_
      by_cases h2 : c = 46
      · rw [h2]; exact List.mem_cons_self
      · exact List.mem_cons_of_mem _ (tokC_mem h h1 h2)

theorem bad_none : ∀ (cs : List Nat) (j : Nat), firstBad j cs = none → Allowed cs
  | [], j, _ => fun c hc => by cases hc
  | c :: cs, j, h => by
    unfold firstBad at h
    split at h
    · rename_i hc
      intro x hx
      rcases List.mem_cons.mp hx with rfl | hx
      · exact (allL_iff x).mp hc
      · exact bad_none cs (j + 1) h x hx
    · cases h
theorem bad_some : ∀ (cs : List Nat) (j i : Nat), firstBad j cs = some i → ∃ c, tokL j cs = .error (badMsg i c)
  | [], j, i, h => by cases h
  | c :: cs, j, i, h => by
    unfold firstBad at h
    unfold tokL
    split at h
    · rename_i hc
      obtain ⟨t, ht⟩ := (allL_iff c).mp hc
      obtain ⟨c', e⟩ := bad_some cs (j + 1) i h
      exact ⟨c', by rw [ht]; dsimp only; rw [e]⟩
    · rename_i hc
      cases h
      cases ht : tokC c with
      | none => exact ⟨c, rfl⟩
      | some t => exact absurd ((allL_iff c).mpr ⟨t, ht⟩) hc

theorem sign_in (j c : Nat) : Txt.contains (badMsg j c) (signMsg j) = true := by
  have e0 : Str.ofString " of the pattern may not stand in a pattern: '" = Str.ofString " " ++ Str.ofString "of the pattern may not stand in a pattern: '" := by kernel_rfl
  have assoc : ∀ a b d : Str, (a ++ b) ++ d = a ++ (b ++ d) := fun a b d => congrArg Str.mk Array.append_assoc
  have e : badMsg j c = signMsg j ++ (Str.ofString "of the pattern may not stand in a pattern: '" ++ (sg c ++ (Str.ofString "'" ++ Str.empty))) := by
    show Str.ofString "sign " ++ (Str.ofString (toString (j : Int)) ++ (Str.ofString " of the pattern may not stand in a pattern: '" ++ (sg c ++ (Str.ofString "'" ++ Str.empty)))) = _
    unfold signMsg
    rw [e0, assoc, assoc, assoc]
  rw [e]
  exact contains_prefix _ _

theorem ff {p q : Prop} (hp : ¬ p) (hq : ¬ q) : p ↔ q := ⟨fun h => absurd h hp, fun h => absurd h hq⟩
theorem tt {p q : Prop} (hp : p) (hq : q) : p ↔ q := ⟨fun _ => hq, fun _ => hp⟩
theorem tok_op_iff {c : Nat} {t : Tk} (h : tokC c = some t) : (c = 40 ↔ t = .op) ∧ (c = 41 ↔ t = .cl) ∧ (c ∈ [40, 124] ↔ t.opens = true) ∧ (c ∈ [42, 43, 63] ↔ isUnT t = true) ∧ t ≠ .amp ∧ t ≠ .eps ∧ (chrT t = if c ∈ [46, 40, 41, 124, 42, 43, 63] then none else some c) := by
  have hp : ∀ c ∈ plainL, c ≠ 40 ∧ c ≠ 41 ∧ c ≠ 124 ∧ c ≠ 42 ∧ c ≠ 43 ∧ c ≠ 63 ∧ c ≠ 46 := by rw [codes_plain]; decide
  unfold tokC at h
  by_cases h0 : c ∈ plainL
  · rw [if_pos h0] at h
    cases h
    obtain ⟨a1, a2, a3, a4, a5, a6, a7⟩ := hp c h0
    simp [a1, a2, a3, a4, a5, a6, a7, Tk.opens, isUnT, chrT]
  · rw [if_neg h0] at h
    by_cases h1 : c = 46
    · rw [if_pos h1] at h; obtain rfl := Option.some.inj h; subst h1; exact ⟨ff (by decide) nofun, ff (by decide) nofun, by decide, by decide, nofun, nofun, by decide⟩
    · rw [if_neg h1] at h
      by_cases h2 : c = 40
      · rw [if_pos h2] at h; obtain rfl := Option.some.inj h; subst h2; exact ⟨tt rfl rfl, ff (by decide) nofun, by decide, by decide, nofun, nofun, by decide⟩
      · rw [if_neg h2] at h
        by_cases h3 : c = 41
        · rw [if_pos h3] at h; obtain rfl := Option.some.inj h; subst h3; exact ⟨ff (by decide) nofun, tt rfl rfl, by decide, by decide, nofun, nofun, by decide⟩
        · rw [if_neg h3] at h
          by_cases h4 : c = 124
          · rw [if_pos h4] at h; obtain rfl := Option.some.inj h; subst h4; exact ⟨ff (by decide) nofun, ff (by decide) nofun, by decide, by decide, nofun, nofun, by decide⟩
          · rw [if_neg h4] at h
            by_cases h5 : c = 42
            · rw [if_pos h5] at h; obtain rfl := Option.some.inj h; subst h5; exact ⟨ff (by decide) nofun, ff (by decide) nofun, by decide, by decide, nofun, nofun, by decide⟩
            · rw [if_neg h5] at h
              by_cases h6 : c = 43
              · rw [if_pos h6] at h; obtain rfl := Option.some.inj h; subst h6; exact ⟨ff (by decide) nofun, ff (by decide) nofun, by decide, by decide, nofun, nofun, by decide⟩
              · rw [if_neg h6] at h
                by_cases h7 : c = 63
                · rw [if_pos h7] at h; obtain rfl := Option.some.inj h; subst h7; exact ⟨ff (by decide) nofun, ff (by decide) nofun, by decide, by decide, nofun, nofun, by decide⟩
                · rw [if_neg h7] at h; cases h

theorem toks_cons {c : Nat} {t : Tk} {cs : List Nat} (h : tokC c = some t) : toks (c :: cs) = t :: toks cs := by simp [toks, h]

theorem dep_run : ∀ (cs : List Nat) (n : Nat), Allowed cs → depRun n cs = (depT n (toks cs)).map fun (m : Nat) => (m : Int)
  | [], n, _ => rfl
  | c :: cs, n, h => by
    obtain ⟨t, ht⟩ := h c List.mem_cons_self
    have hA : Allowed cs := fun x hx => h x (List.mem_cons_of_mem _ hx)
    obtain ⟨i1, i2, _⟩ := tok_op_iff ht
    rw [toks_cons ht]
    unfold depRun
    by_cases h1 : c = 40
    · have : t = .op := i1.mp h1
      subst this
      have h2 : c ≠ 41 := by (first | lia | omega)
      rw [if_pos h1, if_neg h2, if_neg (by (first | lia | omega))]
      have : ((n : Int) + 1 - 0) = ((n + 1 : Nat) : Int) := by (first | lia | omega)
      rw [this]
      exact dep_run cs (n + 1) hA
    · by_cases h2 : c = 41
      · have : t = .cl := i2.mp h2
        subst this
        rw [if_neg h1, if_pos h2]
        cases n with
        | zero => rw [if_pos (by (first | lia | omega))]; rfl
        | succ n =>
          rw [if_neg (by (first | lia | omega))]
          have : (((n + 1 : Nat) : Int) + 0 - 1) = (n : Int) := by (first | lia | omega)
          rw [this]
          exact dep_run cs n hA
      · have t1 : t ≠ .op := fun q => h1 (i1.mpr q)
        have t2 : t ≠ .cl := fun q => h2 (i2.mpr q)
        rw [if_neg h1, if_neg h2, if_neg (by (first | lia | omega))]
        have e : ((n : Int) + 0 - 0) = (n : Int) := by (first | lia | omega)
        rw [e, dep_run cs n hA]
        cases t <;> first | rfl | exact absurd rfl t1 | exact absurd rfl t2

noncomputable def hole (b : Tk) : List Tk → Nat
  | [] => 0
  | t :: ts => (if isUnT t && b.opens then 1 else 0) + hole t ts
theorem un_bad : ∀ (cs : List Nat) (b : Nat) (tb : Tk), tokC b = some tb → Allowed cs → (unBad b cs = true ↔ 0 < hole tb (toks cs))
  | [], b, tb, hb, _ => by simp [unBad, hole, toks]
  | c :: cs, b, tb, hb, h => by
    obtain ⟨t, ht⟩ := h c List.mem_cons_self
    have hA : Allowed cs := fun x hx => h x (List.mem_cons_of_mem _ hx)
    have ih := un_bad cs c t ht hA
    obtain ⟨_, _, i3, _, _⟩ := tok_op_iff hb
    obtain ⟨_, _, _, i4, _⟩ := tok_op_iff ht
    rw [toks_cons ht]
    unfold unBad hole
    by_cases hc : c ∈ [42, 43, 63] ∧ b ∈ [40, 124]
    · rw [if_pos hc, if_pos (by rw [i4.mp hc.1, i3.mp hc.2]; rfl)]
      constructor
      · intro _; (first | lia | omega)
      · intro _; rfl
    · rw [if_neg hc]
      have : ¬ (isUnT t && tb.opens) = true := fun q => by
        rw [Bool.and_eq_true] at q
        exact hc ⟨i4.mpr q.1, i3.mpr q.2⟩
      rw [if_neg this, ih]
      (first | lia | omega)
end Mine

-- SxM6
namespace Mine
open PySem PyProof.Rows

/-- joins of a list that stands behind the token b -/
noncomputable def V (b : Tk) (ts : List Tk) : List Tk := joinL (some b) (fillL b ts)
theorem joins_V (ts : List Tk) : joins ts = V .bar ts := by
  unfold joins V
  obtain ⟨f, fs, e⟩ := List.exists_cons_of_ne_nil (fillL_ne ts)
  rw [e]
  rfl
theorem V_nil (b : Tk) : V b [] = if b.opens then [.eps] else [] := by
  cases b <;> rfl
theorem V_cons (b t : Tk) (ts : List Tk) : V b (t :: ts) = (if b.opens && t.closes then [.eps] else []) ++ (if b.ends && t.begins then [.amp] else []) ++ t :: V t ts := by
  unfold V
  rw [fillL_cons]
  cases hb : b.opens <;> cases hc : t.closes
  · simp only [Bool.and_false, Bool.false_eq_true, if_false, List.nil_append]
    rw [joinL_cons]
  · simp only [Bool.false_and, Bool.false_eq_true, if_false, List.nil_append]
    rw [joinL_cons]
  · simp only [Bool.and_false, Bool.false_eq_true, if_false, List.nil_append]
    rw [joinL_cons]
  · have h1 : b.ends = false := opens_ends hb
    have h2 : t.begins = false := by cases t <;> first | rfl | cases hc
    simp only [Bool.and_self, if_true]
    show joinL (some b) (.eps :: t :: fillL t ts) = _
    rw [joinL_cons, joinL_cons]
    simp [h1, h2]

theorem V_dep : ∀ (ts : List Tk) (b : Tk) (d : Nat), depT d (V b ts) = depT d ts
  | [], b, d => by rw [V_nil]; cases b.opens <;> rfl
  | t :: ts, b, d => by
    have e : depT d (V b (t :: ts)) = depT d (t :: V t ts) := by
      rw [V_cons]
      cases b.opens && t.closes <;> cases b.ends && t.begins <;> rfl
    rw [e, depT_cons, depT_cons d t ts]
    cases depT d [t] with
    | none => rfl
    | some d' => exact V_dep ts t d'
theorem V_chr : ∀ (ts : List Tk) (b : Tk), (V b ts).filterMap chrT = ts.filterMap chrT
  | [], b => by rw [V_nil]; cases b.opens <;> rfl
  | t :: ts, b => by
    have e : (V b (t :: ts)).filterMap chrT = (t :: V t ts).filterMap chrT := by
      rw [V_cons]
      cases b.opens && t.closes <;> cases b.ends && t.begins <;> rfl
    rw [e, List.filterMap_cons, List.filterMap_cons, V_chr ts t]
theorem hole_cons {b t : Tk} {ts : List Tk} : hole b (t :: ts) = (if isUnT t && b.opens then 1 else 0) + hole t ts := rfl
noncomputable def ph (b : Tk) : Int := if b.ends then 1 else 0
noncomputable def balL (b t : Tk) : Int := (if b.opens && t.closes then 1 else 0) - (if b.ends && t.begins then 1 else 0) + t.val - ph t + ph b + (if isUnT t && b.opens then 1 else 0)
theorem bal (b t : Tk) (hb : b ≠ .amp) (ht : t ≠ .amp) : balL b t = 0 := by
  cases b <;> first
    | exact absurd rfl hb
    | (cases t <;> first | rfl | exact absurd rfl ht)
theorem V_val : ∀ (ts : List Tk) (b : Tk), b ≠ .amp → (∀ t ∈ ts, t ≠ .amp) → valT (V b ts) = 1 - ph b - (hole b ts : Int)
  | [], b, hb, _ => by
    rw [V_nil]
    cases b <;> first | rfl | exact absurd rfl hb
  | t :: ts, b, hb, h => by
    have ht : t ≠ .amp := h t List.mem_cons_self
    have ih := V_val ts t ht fun x hx => h x (List.mem_cons_of_mem _ hx)
    have e : valT (V b (t :: ts)) = (if b.opens && t.closes then 1 else 0) - (if b.ends && t.begins then 1 else 0) + t.val + valT (V t ts) := by
      rw [V_cons]
      cases b.opens && t.closes <;> cases b.ends && t.begins <;> simp [valT, Tk.val] <;> (first | lia | omega)
    rw [e, ih]
    rw [hole_cons]
    have hx : (((if isUnT t && b.opens then 1 else 0) + hole t ts : Nat) : Int) = (if isUnT t && b.opens then 1 else 0) + (hole t ts : Int) := by
      cases isUnT t && b.opens <;> simp
    rw [hx]
    have q := bal b t hb ht
    unfold balL at q
    generalize (if (b.opens && t.closes) = true then (1 : Int) else 0) = x1 at q ⊢
    generalize (if (b.ends && t.begins) = true then (1 : Int) else 0) = x2 at q ⊢
    generalize (if (isUnT t && b.opens) = true then (1 : Int) else 0) = x3 at q ⊢
    clear hx e ih
    first | lia | omega

/-- the values under way -/
noncomputable def Sound (s : List It × List O) (b : Tk) : Prop := okRun 0 s.1 = some (nBin s.2 + ph b)
theorem pops (b : Bool) : ∀ (st : List O), okRun (nBin st + 1) (popBin b st).1 = some (nBin (popBin b st).2 + 1)
  | [] => rfl
  | o :: r => by
    rw [popBin_cons]
    split
    · rfl
    · rename_i hs
      have ho : o.isOp = false := by cases o <;> first | rfl | exact absurd rfl hs
      have hn : nBin (o :: r) = nBin r + 1 := by rw [nBin_cons, ho]; rfl
      have h0 : 0 ≤ nBin r := by unfold nBin; (first | lia | omega)
      show okRun (nBin (o :: r) + 1) (o.i :: (popBin b r).1) = _
      rw [okRun_cons, hn]
      have hst : okStep (nBin r + 1 + 1) o.i = some (nBin r + 1) := by
        have h2 : ¬ (nBin r + 1 + 1 < 2) := by (first | lia | omega)
        have h3 : nBin r + 1 + 1 - 1 = nBin r + 1 := by (first | lia | omega)
        cases o <;> simp only [O.i, okStep, if_neg h2, h3]
      rw [hst]
      exact pops b r
theorem popsCl : ∀ (st : List O), okRun (nBin st + 1) (popCl st).1 = some (nBin (popCl st).2 + 1)
  | [] => rfl
  | o :: r => by
    rw [popCl_cons]
    cases ho : o.isOp with
    | true =>
      have hn : nBin (o :: r) = nBin r := by rw [nBin_cons, ho]; simp
      rw [hn]; rfl
    | false =>
      have hn : nBin (o :: r) = nBin r + 1 := by rw [nBin_cons, ho]; rfl
      have h0 : 0 ≤ nBin r := by unfold nBin; (first | lia | omega)
      show okRun (nBin (o :: r) + 1) (o.i :: (popCl r).1) = _
      rw [okRun_cons, hn]
      have hst : okStep (nBin r + 1 + 1) o.i = some (nBin r + 1) := by
        have h2 : ¬ (nBin r + 1 + 1 < 2) := by (first | lia | omega)
        have h3 : nBin r + 1 + 1 - 1 = nBin r + 1 := by (first | lia | omega)
        cases o <;> simp only [O.i, okStep, if_neg h2, h3]
      rw [hst]
      exact popsCl r
theorem popsAll : ∀ (st : List O), noOp st → okRun (nBin st + 1) (st.map O.i) = some 1
  | [], _ => rfl
  | o :: r, h => by
    unfold noOp at h
    rw [List.any_cons, Bool.or_eq_false_iff] at h
    have hn : nBin (o :: r) = nBin r + 1 := by rw [nBin_cons, h.1]; rfl
    have h0 : 0 ≤ nBin r := by unfold nBin; (first | lia | omega)
    rw [List.map_cons, okRun_cons, hn]
    have hst : okStep (nBin r + 1 + 1) o.i = some (nBin r + 1) := by
      have h2 : ¬ (nBin r + 1 + 1 < 2) := by (first | lia | omega)
      have h3 : nBin r + 1 + 1 - 1 = nBin r + 1 := by (first | lia | omega)
      cases o <;> simp only [O.i, okStep, if_neg h2, h3]
    rw [hst]
    exact popsAll r h.2

/-- may t stand behind b? -/
noncomputable def fits (b t : Tk) : Bool := if t.begins then !b.ends else b.ends
noncomputable def plainT : Tk → Prop
  | .chr c => c ∈ plainL
  | _ => True
theorem nBin_nn (st : List O) : 0 ≤ nBin st := by unfold nBin; (first | lia | omega)

theorem step_sound {s s' : List It × List O} {b t : Tk} (hS : Sound s b) (hf : fits b t = true) (hp : plainT t) (h : shStep s t = .ok s') : Sound s' t := by
  unfold Sound at hS ⊢
  have h0 := nBin_nn s.2
  have hb0 : t.begins = true → ph b = 0 := fun q => by
    unfold fits at hf
    rw [q, if_pos rfl] at hf
    unfold ph
    cases he : b.ends with
    | false => rfl
    | true => rw [he] at hf; cases hf
  have hb1 : t.begins = false → ph b = 1 := fun q => by
    unfold fits at hf
    rw [q, if_neg (by decide)] at hf
    unfold ph; rw [hf]; rfl
  cases t with
  | chr c =>
    cases h
    rw [hb0 rfl] at hS
    show okRun 0 (s.1 ++ [.chr c]) = some (nBin s.2 + 1)
    rw [okRun_append, hS]
    have hp : c ∈ plainL := hp
    simp only [okRun, okStep, if_pos hp]; congr 1
  | any =>
    cases h
    rw [hb0 rfl] at hS
    show okRun 0 (s.1 ++ [.any]) = some (nBin s.2 + 1)
    rw [okRun_append, hS]
    simp only [okRun, okStep]; congr 1
  | eps =>
    cases h
    rw [hb0 rfl] at hS
    show okRun 0 (s.1 ++ [.eps]) = some (nBin s.2 + 1)
    rw [okRun_append, hS]
    simp only [okRun, okStep]; congr 1
  | un u =>
    cases h
    rw [hb1 rfl] at hS
    show okRun 0 (s.1 ++ [.un u]) = some (nBin s.2 + 1)
    rw [okRun_append, hS]
    have h2 : ¬ (nBin s.2 + 1 < 1) := by (first | lia | omega)
    simp only [okRun, okStep, if_neg h2]
  | op =>
    cases h
    rw [hb0 rfl] at hS
    show okRun 0 s.1 = some (nBin (.op :: s.2) + 0)
    rw [hS, nBin_cons]; rfl
  | cl =>
    simp only [shStep] at h
    split at h
    · cases h
      rw [hb1 rfl] at hS
      show okRun 0 (s.1 ++ (popCl s.2).1) = some (nBin (popCl s.2).2 + 1)
      rw [okRun_append, hS]
      exact popsCl s.2
    · cases h
  | bar =>
    cases h
    rw [hb1 rfl] at hS
    show okRun 0 (s.1 ++ (popBin false s.2).1) = some (nBin (.bar :: (popBin false s.2).2) + 0)
    rw [okRun_append, hS, nBin_cons]
    dsimp only
    rw [pops]
    simp [O.isOp]
  | amp =>
    cases h
    rw [hb1 rfl] at hS
    show okRun 0 (s.1 ++ (popBin true s.2).1) = some (nBin (.amp :: (popBin true s.2).2) + 0)
    rw [okRun_append, hS, nBin_cons]
    dsimp only
    rw [pops]
    simp [O.isOp]

theorem ends_not {b : Tk} (hb : b ≠ .amp) : b.ends = !b.opens := by
  cases b <;> first | rfl | exact absurd rfl hb
theorem some_kind {t : Tk} (ht : t ≠ .amp) : (t.begins || t.closes || isUnT t) = true := by
  cases t <;> first | rfl | exact absurd rfl ht
theorem fits_of {b t : Tk} (hb : b ≠ .amp) (ht : t ≠ .amp) (c1 : ¬ (b.opens && t.closes) = true) (c2 : ¬ (b.ends && t.begins) = true) (hu : (isUnT t && b.opens) = false) : fits b t = true := by
  have key : ∀ o g k u : Bool, (g || k || u) = true → ¬ (o && k) = true → ¬ (!o && g) = true → (u && o) = false → (if g then !(!o) else !o) = true := by decide
  have h := ends_not hb
  unfold fits
  rw [h] at c2 ⊢
  exact key _ _ _ _ (some_kind ht) c1 c2 hu
theorem V_sound : ∀ (ts : List Tk) (b : Tk) (s s' : List It × List O), b ≠ .amp → (∀ t ∈ ts, t ≠ .amp) → (∀ t ∈ ts, plainT t) → hole b ts = 0 → Sound s b → shRun s (V b ts) = .ok s' → okRun 0 s'.1 = some (nBin s'.2 + 1)
  | [], b, s, s', hb, _, _, _, hS, h => by
    rw [V_nil] at h
    cases ho : b.opens with
    | true =>
      rw [ho] at h
      simp only [if_true] at h
      rw [shRun_cons] at h
      have h : shRun (s.1 ++ [.eps], s.2) [] = .ok s' := h
      cases h
      have he := opens_ends ho
      exact step_sound (s := s) (b := b) (t := .eps) hS (by unfold fits; rw [he]; rfl) trivial rfl
    | false =>
      rw [ho] at h
      cases h
      have he : b.ends = true := by cases b <;> first | rfl | exact absurd rfl hb | (exfalso; exact Bool.noConfusion ho)
      unfold Sound ph at hS
      rw [he] at hS
      exact hS
  | t :: ts, b, s, s', hb, hn, hp, hh, hS, h => by
    have ht : t ≠ .amp := hn t List.mem_cons_self
    rw [hole_cons] at hh
    have hu : (isUnT t && b.opens) = false := by
      cases hq : isUnT t && b.opens with
      | false => rfl
      | true => rw [hq] at hh; simp at hh
    rw [hu] at hh
    have hh' : hole t ts = 0 := by simpa using hh
    have ih := V_sound ts t
    rw [V_cons] at h
    have fin : ∀ (s1 : List It × List O) (b1 : Tk), Sound s1 b1 → fits b1 t = true → shRun s1 (t :: V t ts) = .ok s' → okRun 0 s'.1 = some (nBin s'.2 + 1) := fun s1 b1 hS1 hf h1 => by
      rw [shRun_cons] at h1
      cases hs : shStep s1 t with
      | error m => rw [hs] at h1; cases h1
      | ok s2 =>
        rw [hs] at h1
        exact ih s2 s' ht (fun x hx => hn x (List.mem_cons_of_mem _ hx)) (fun x hx => hp x (List.mem_cons_of_mem _ hx)) hh' (step_sound hS1 hf (hp t List.mem_cons_self) hs) h1
    by_cases c1 : (b.opens && t.closes) = true
    · have ho : b.opens = true := by rw [Bool.and_eq_true] at c1; exact c1.1
      have hc : t.closes = true := by rw [Bool.and_eq_true] at c1; exact c1.2
      have he := opens_ends ho
      rw [if_pos c1, if_neg (by rw [he, Bool.false_and]; decide)] at h
      have h : shRun s (.eps :: t :: V t ts) = .ok s' := h
      rw [shRun_cons] at h
      have h : shRun (s.1 ++ [.eps], s.2) (t :: V t ts) = .ok s' := h
      exact fin _ .eps (step_sound (s := s) (b := b) (t := .eps) hS (by unfold fits; rw [he]; rfl) trivial rfl) (by cases t <;> first | rfl | cases hc) h
    · rw [if_neg c1] at h
      by_cases c2 : (b.ends && t.begins) = true
      · have he : b.ends = true := by rw [Bool.and_eq_true] at c2; exact c2.1
        have hbg : t.begins = true := by rw [Bool.and_eq_true] at c2; exact c2.2
        rw [if_pos c2] at h
        have h : shRun s (.amp :: t :: V t ts) = .ok s' := h
        rw [shRun_cons] at h
        have h : shRun (s.1 ++ (popBin true s.2).1, .amp :: (popBin true s.2).2) (t :: V t ts) = .ok s' := h
        exact fin _ .amp (step_sound (s := s) (b := b) (t := .amp) hS (by unfold fits; rw [he]; rfl) trivial rfl) (by unfold fits; rw [hbg]; rfl) h
      · rw [if_neg c2] at h
        have h : shRun s (t :: V t ts) = .ok s' := h
        exact fin s b hS (fits_of hb ht c1 c2 hu) h

theorem post_joins {T : List Tk} (hn : ∀ t ∈ T, t ≠ .amp) (hp : ∀ t ∈ T, plainT t) (hd : depT 0 T = some 0) : if hole .bar T = 0 then ∃ is, postL (joins T) = .ok is ∧ is.filterMap chrI = T.filterMap chrT else postL (joins T) = .error msgUn := by
  have hd' : depT 0 (joins T) = some 0 := by rw [joins_V, V_dep]; exact hd
  split
  · rename_i hh
    have hc := post_cases (joins T)
    rw [hd'] at hc
    obtain ⟨is, v1, v2, v3, v4⟩ := hc
    have hr := run_dep (joins T) ([], [])
    have e0 : nOp (([], []) : List It × List O).2 = 0 := rfl
    rw [e0, hd'] at hr
    obtain ⟨s', e1, e2, k⟩ := hr
    rw [joins_V] at e1
    have hs := V_sound T .bar ([], []) s' (by simp) hn hp hh rfl e1
    have hno : noOp s'.2 := by
      unfold noOp
      cases hq : s'.2.any O.isOp with
      | false => rfl
      | true => have := (any_nOp _).mp hq; (first | lia | omega)
    have hk : okList (s'.1 ++ s'.2.map O.i) = true := by
      unfold okList
      rw [okRun_append, hs]
      dsimp only
      rw [popsAll s'.2 hno]
      rfl
    have : postL (joins T) = .ok (s'.1 ++ s'.2.map O.i) := by
      unfold postL
      rw [joins_V, e1]
      dsimp only
      rw [if_neg (by rw [show s'.2.any O.isOp = false from hno]; decide), if_pos hk]
    rw [v4] at this
    cases hk2 : okList is with
    | false => rw [hk2] at this; cases this
    | true =>
      rw [hk2] at v4
      refine ⟨is, v4, ?_⟩
      rw [v2, joins_V, V_chr]
  · rename_i hh
    refine post_bad hd' ?_
    rw [joins_V, V_val T .bar (by simp) hn]
    have : ph .bar = 0 := rfl
    rw [this]
    (first | lia | omega)

theorem toks_mem {cs : List Nat} : ∀ t ∈ toks cs, t ≠ .amp ∧ plainT t := fun t ht => by
  unfold toks at ht
  obtain ⟨c, hc, e⟩ := List.mem_filterMap.mp ht
  refine ⟨(tok_op_iff e).2.2.2.2.1, ?_⟩
  cases t with
  | chr d =>
    show d ∈ plainL
    unfold tokC at e
    by_cases h0 : c ∈ plainL
    · rw [if_pos h0] at e; cases e; exact h0
    · rw [if_neg h0] at e
      repeat' (first | (split at e) | cases e)
  | _ => trivial
theorem toks_chr {cs : List Nat} (h : Allowed cs) : (toks cs).filterMap chrT = cs.filter fun c => c ∉ [46, 40, 41, 124, 42, 43, 63] := by
  induction cs with
  | nil => rfl
  | cons c cs ih =>
    obtain ⟨t, ht⟩ := h c List.mem_cons_self
    rw [toks_cons ht, List.filterMap_cons, (tok_op_iff ht).2.2.2.2.2.2, ih fun x hx => h x (List.mem_cons_of_mem _ hx), List.filter_cons]
    by_cases hc : c ∈ [46, 40, 41, 124, 42, 43, 63]
    · rw [if_pos hc, if_neg (by rw [decide_eq_true_eq]; exact fun q => q hc)]
    · rw [if_neg hc, if_pos (by rw [decide_eq_true_eq]; exact hc)]

/-- what is due is what comes -/
theorem due_thm (cs : List Nat) : (dueL cs ≠ "" → ∃ m, compL cs = .error m ∧ Txt.contains m (dueL cs) = true) ∧
    (dueL cs = "" → ∃ is, compL cs = .ok is ∧ is.filterMap chrI = cs.filter fun c => c ∉ [46, 40, 41, 124, 42, 43, 63]) := by
  unfold dueL compL
  cases hb : firstBad 0 cs with
  | some j =>
    obtain ⟨c, e⟩ := bad_some cs 0 j hb
    rw [e]
    refine ⟨fun _ => ⟨_, rfl, sign_in j c⟩, fun q => ?_⟩
    exfalso
    have q : signMsg j = Str.ofString "" := q
    have := congrArg Str.length q
    unfold signMsg at this
    rw [length_append, length_append] at this
    have z1 : (Str.ofString "sign ").length = 5 := by kernel_rfl
    have z2 : (Str.ofString "").length = 0 := by kernel_rfl
    (first | lia | omega)
  | none =>
    have hA := bad_none cs 0 hb
    rw [tokL_ok cs 0 hA]
    dsimp only
    have hdr := dep_run cs 0 hA
    have hz : ((0 : Nat) : Int) = 0 := rfl
    rw [hz] at hdr
    rw [hdr]
    have hJ : depT 0 (joins (toks cs)) = depT 0 (toks cs) := by rw [joins_V, V_dep]
    cases hd : depT 0 (toks cs) with
    | none =>
      refine ⟨fun _ => ⟨msgCl, post_cl (hJ.trans hd), by kernel_rfl⟩, fun q => ?_⟩
      exfalso
      exact absurd (ofString_inj.mp q) (by decide)
    | some m =>
      cases m with
      | succ m =>
        show (_ ≠ _ → _) ∧ _
        have hpos : (0 : Int) < ((m + 1 : Nat) : Int) := by (first | lia | omega)
        simp only [Option.map_some, if_pos hpos]
        refine ⟨fun _ => ⟨msgOp, post_op (m := m) (hJ.trans hd), by kernel_rfl⟩, fun q => ?_⟩
        exfalso
        exact absurd (ofString_inj.mp q) (by decide)
      | zero =>
        have hpos : ¬ (0 : Int) < ((0 : Nat) : Int) := by (first | lia | omega)
        simp only [Option.map_some, if_neg hpos]
        have hpj := post_joins (fun t ht => (toks_mem t ht).1) (fun t ht => (toks_mem t ht).2) hd
        have hub := un_bad cs 124 .bar tok_bar hA
        by_cases hu : unBad 124 cs = true
        · rw [if_pos hu]
          rw [if_neg (by have := hub.mp hu; (first | lia | omega))] at hpj
          refine ⟨fun _ => ⟨msgUn, hpj, by kernel_rfl⟩, fun q => ?_⟩
          exfalso
          exact absurd (ofString_inj.mp q) (by decide)
        · rw [if_neg hu]
          have h0 : hole .bar (toks cs) = 0 := by
            cases hq : hole .bar (toks cs) with
            | zero => rfl
            | succ n => exact absurd (hub.mpr (by (first | lia | omega))) hu
          rw [if_pos h0] at hpj
          obtain ⟨is, e1, e2⟩ := hpj
          exact ⟨fun q => absurd rfl q, fun _ => ⟨is, e1, by rw [e2, toks_chr hA]⟩⟩
end Mine

-- SxL1
namespace Mine
open PySem PyProof.Rows

theorem sub_tup {T : List PV} {j : Nat} {d : PV} (h : T[j]? = some d) (hj : j < 10000) : psub (.val (.tup T)) (.int j) = some d := by
  show (if _ then _ else _) = _
  rw [if_pos (by constructor <;> simp [lim] <;> (first | lia | omega))]
  simpa using h
theorem fmod_nat (n : Int) {m : Nat} (h : 0 < m) : ∃ j : Nat, j < m ∧ n.fmod (m : Int) = (j : Int) := by
  have h1 : 0 ≤ n.fmod (m : Int) := Int.fmod_nonneg_of_pos n (by (first | lia | omega))
  have h2 : n.fmod (m : Int) < (m : Int) := Int.fmod_lt_of_pos n (by (first | lia | omega))
  exact ⟨(n.fmod (m : Int)).toNat, by (first | lia | omega), by (first | lia | omega)⟩

noncomputable def shapesL : List (List (List Nat)) := [[[]], [[0]], [[0, 1, 2]], [[0, 1], [2]], [[0], [1, 2]], [[0], [], [1]], [[], [0, 1]], [[0], [1], [2]], [[1, 0], []]]
noncomputable def shapeV (s : List (List Nat)) : PV := .tup (s.map fun r => .tup (idx r))
theorem g_shapes : GG "_law_shapes" = some (.tup (shapesL.map shapeV)) := by kernel_rfl

theorem le_fold {f : Pt → Pt → Pt} (hf : ∀ {a b : Pt} {n m : Nat}, a.le n → b.le m → (f a b).le (n + m + 1)) (n : Nat) : ∀ (r : List Pt) {a : Pt} {m : Nat}, a.le m → (∀ b ∈ r, b.le n) → (r.foldl f a).le (m + r.length * (n + 1))
  | [], a, m, ha, _ => by simpa using ha
  | b :: r, a, m, ha, h => by
    have := le_fold hf n r (hf ha (h b List.mem_cons_self)) fun c hc => h c (List.mem_cons_of_mem _ hc)
    refine this.mono ?_
    rw [List.length_cons, Nat.add_mul, Nat.one_mul]
    (first | lia | omega)
theorem le_row {r : List Pt} {n : Nat} (h : ∀ b ∈ r, b.le n) (hl : r.length ≤ 3) (hn : 1 ≤ n) : (rowP r).le (3 * n + 2) := by
  cases r with
  | nil => exact ⟨by simp [rowP, epsP], by simp [rowP, epsP], by simp [rowP, epsP]⟩
  | cons a r =>
    have := le_fold (f := catP) (fun ha hb => le_cat ha hb) n r (h a List.mem_cons_self) fun c hc => h c (List.mem_cons_of_mem _ hc)
    refine this.mono ?_
    have hl : r.length ≤ 2 := by simpa using hl
    have : r.length * (n + 1) ≤ 2 * (n + 1) := Nat.mul_le_mul_right _ hl
    (first | lia | omega)
theorem le_alts {r : List Pt} {n : Nat} (h : ∀ b ∈ r, b.le n) (hl : r.length ≤ 3) (hn : 1 ≤ n) : (altsP r).le (3 * n + 2) := by
  cases r with
  | nil => exact ⟨by simp [altsP, epsP], by simp [altsP, epsP], by simp [altsP, epsP]⟩
  | cons a r =>
    have := le_fold (f := altP) (fun ha hb => le_alt ha hb) n r (h a List.mem_cons_self) fun c hc => h c (List.mem_cons_of_mem _ hc)
    refine this.mono ?_
    have hl : r.length ≤ 2 := by simpa using hl
    have : r.length * (n + 1) ≤ 2 * (n + 1) := Nat.mul_le_mul_right _ hl
    (first | lia | omega)

theorem shapes_ok : ∀ s ∈ shapesL, s ≠ [] ∧ s.length ≤ 3 ∧ ∀ r ∈ s, r.length ≤ 3 ∧ ∀ i ∈ r, i < 3 := by decide

theorem shape_eq (k : Nat) (ps : List Pt) (n : Nat) (hn : 1 ≤ n) (hn2 : n ≤ 40) (h3 : ps.length = 3) (hP : ∀ b ∈ ps, Piece b ∧ b.le n) (s : List (List Nat)) (hs : s ∈ shapesL) :
    ∃ q : Pt, CC (k + 2) "_law_alts" [.list (ps.map Pt.v), shapeV s] = ok q.v ∧ Alts q ∧ q.le (9 * n + 8) := by
  obtain ⟨hne, hl, hr⟩ := shapes_ok s hs
  have hmem : ∀ (r : List Nat) b, b ∈ r.filterMap (ps[·]?) → b ∈ ps := fun r b hb => by
    obtain ⟨i, _, e⟩ := List.mem_filterMap.mp hb
    exact List.mem_of_getElem? e
  have hrow : ∀ r ∈ s, CC (k + 1) "_law_row" [.list (ps.map Pt.v), .tup (idx r)] = ok (rowP (r.filterMap (ps[·]?))).v ∧ (rowP (r.filterMap (ps[·]?))).le (3 * n + 2) ∧ Row (rowP (r.filterMap (ps[·]?))) := fun r hrs => by
    obtain ⟨h1, h2⟩ := hr r hrs
    refine ⟨row_eq k ps r n (fun b hb => (hP b hb).2) (fun i hi => by rw [h3]; exact h2 i hi) (fun i hi => by have := h2 i hi; (first | lia | omega)) ?_, ?_, ?_⟩
    · have : r.length * (n + 1) ≤ 3 * (n + 1) := Nat.mul_le_mul_right _ h1
      (first | lia | omega)
    · refine le_row (fun b hb => (hP b (hmem r b hb)).2) ?_ hn
      exact Nat.le_trans (List.length_filterMap_le _ _) h1
    · exact row_row _ fun b hb => (hP b (hmem r b hb)).1
  refine ⟨altsP (s.map fun r => rowP (r.filterMap (ps[·]?))), ?_, ?_, ?_⟩
  · refine alts_eq (k + 1) (.list (ps.map Pt.v)) (s.map fun r => .tup (idx r)) (s.map fun r => rowP (r.filterMap (ps[·]?))) (3 * n + 2) (by simpa using hne) (by simp) (fun i r b e1 e2 => ?_) ?_
    · rw [List.getElem?_map] at e1 e2
      obtain ⟨r', hr', rfl⟩ := Option.map_eq_some_iff.mp e1
      rw [hr'] at e2
      cases e2
      obtain ⟨a1, a2, _⟩ := hrow r' (List.mem_of_getElem? hr')
      exact ⟨a1, a2⟩
    · rw [List.length_map]
      have : s.length * (3 * n + 2 + 1) ≤ 3 * (3 * n + 2 + 1) := Nat.mul_le_mul_right _ hl
      (first | lia | omega)
  · refine alts_alts _ fun b hb => ?_
    obtain ⟨r, hrs, rfl⟩ := List.mem_map.mp hb
    exact (hrow r hrs).2.2
  · refine (le_alts (n := 3 * n + 2) (fun b hb => ?_) (by simpa using hl) (by (first | lia | omega))).mono (by (first | lia | omega))
    obtain ⟨r, hrs, rfl⟩ := List.mem_map.mp hb
    exact (hrow r hrs).2.1

theorem leaf_full (k : Nat) (n : Int) : ∃ a : Pt, CC (k + 1) "_law_leaf" [.int n] = ok a.v ∧ Piece a ∧ a.le 1 := by
  obtain ⟨i, _, e⟩ := leaf_eq k n
  refine ⟨_, e, piece_leaf i, ?_⟩
  unfold leafP
  split <;> exact ⟨by simp, by simp, by simp⟩
theorem mark_full (k : Nat) (a : Pt) (n : Int) (m : Nat) (ha : Piece a) (hm : a.le m) (hz : m ≤ 2000) : ∃ b : Pt, CC (k + 1) "_law_marked" [a.v, .int n] = ok b.v ∧ Piece b ∧ b.le (m + 1) := by
  obtain ⟨u, e⟩ := mark_eq k a n (hm.mono hz)
  refine ⟨_, e, piece_mark ha u, ?_⟩
  obtain ⟨h1, h2, h3⟩ := hm
  cases u with
  | none => exact ⟨by simp [markP]; (first | lia | omega), by simp [markP]; (first | lia | omega), by simp [markP]; (first | lia | omega)⟩
  | some u => exact ⟨by simp [markP]; (first | lia | omega), by simp [markP]; (first | lia | omega), by simp [markP]; (first | lia | omega)⟩

theorem fn_28 : getFn "law" = fnI 28 := by kernel_rfl

/-- the script's numbers -/
noncomputable def scr (ns : List Int) : PV := .list (ns.map PV.int)
theorem scr_at (ns : List Int) (j : Nat) (h : j < ns.length) (hj : j < 10000) : psub (.val (scr ns)) (.int j) = some (.int ns[j]) := sub_list (by simp [h]) hj

theorem law_a (ns : List Int) (h17 : 17 ≤ ns.length) (h63 : ns.length ≤ 63) (ρ : Loc) (hρ : ρ "script" = some (.val (scr ns))) : ∃ (a : Pt) (ρ' : Loc), Alts a ∧ a.le 269 ∧
    pxs GG (CC 6) [] (99 + 1) (nmI 28) ρ ((fnI 28).body) = pxs GG (CC 6) [] 92 (nmI 28) ρ' ((fnI 28).body.drop 8) ∧ Ac ρ' a ∧ ρ' "script" = some (.val (scr ns)) := by
  have hb : (fnI 28).body = [stI 28 0, stI 28 1, stI 28 2, stI 28 3, stI 28 4, stI 28 5, stI 28 6, stI 28 7] ++ (fnI 28).body.drop 8 := by kernel_rfl
  have hlen : (ns.map PV.int).length = ns.length := by simp
  have q0 : psub (.val (scr ns)) (.int 0) = some (.int ns[0]) := scr_at ns 0 (by (first | lia | omega)) (by (first | lia | omega))
  have q1 : psub (.val (scr ns)) (.int 1) = some (.int ns[1]) := scr_at ns 1 (by (first | lia | omega)) (by (first | lia | omega))
  have q2 : psub (.val (scr ns)) (.int 2) = some (.int ns[2]) := scr_at ns 2 (by (first | lia | omega)) (by (first | lia | omega))
  have q3 : psub (.val (scr ns)) (.int 3) = some (.int ns[3]) := scr_at ns 3 (by (first | lia | omega)) (by (first | lia | omega))
  have q4 : psub (.val (scr ns)) (.int 4) = some (.int ns[4]) := scr_at ns 4 (by (first | lia | omega)) (by (first | lia | omega))
  have q5 : psub (.val (scr ns)) (.int 5) = some (.int ns[5]) := scr_at ns 5 (by (first | lia | omega)) (by (first | lia | omega))
  have q6 : psub (.val (scr ns)) (.int 6) = some (.int ns[6]) := scr_at ns 6 (by (first | lia | omega)) (by (first | lia | omega))
  have q7 : psub (.val (scr ns)) (.int 7) = some (.int ns[7]) := scr_at ns 7 (by (first | lia | omega)) (by (first | lia | omega))
  have q8 : psub (.val (scr ns)) (.int 8) = some (.int ns[8]) := scr_at ns 8 (by (first | lia | omega)) (by (first | lia | omega))
  have q9 : psub (.val (scr ns)) (.int 9) = some (.int ns[9]) := scr_at ns 9 (by (first | lia | omega)) (by (first | lia | omega))
  have q10 : psub (.val (scr ns)) (.int 10) = some (.int ns[10]) := scr_at ns 10 (by (first | lia | omega)) (by (first | lia | omega))
  have n9 : ((9 : Int) = 0) = False := by simp
  have gs := g_shapes
  -- len(script)
  have h0 : px GG (CC 6) [] 99 (nmI 28) ρ (stI 28 0) = ok (.next, ρ) := by
    conv => lhs; arg 7; whnf
    have pl : plen (.val (scr ns)) = some (.int ns.length) := by
      show (if _ then _ else _) = _
      rw [if_pos (by rw [hlen]; simp [lim]; (first | lia | omega)), hlen]
    have d : decide ((ns.length : Int) < 17) = false := decide_eq_false (by (first | lia | omega))
    simp only [bd_ok, bs_ok, vd_val, ofOpt_some, c_int, e_call, fn_len, q_cmp, t_cmp, y_if, y_no, pxs_nil, p_lt, ne_eq, not_false_eq_true, reduceCtorEq, eq_self, lkv_val, n28x0, lk28_len, hρ, pl, d]
  obtain ⟨l0, el0, pl0, zl0⟩ := leaf_full 5 ns[0]
  obtain ⟨one, eo, po, zo⟩ := mark_full 5 l0 ns[1] 1 pl0 zl0 (by (first | lia | omega))
  have h1 : px GG (CC 6) [] 98 (nmI 28) ρ (stI 28 1) = ok (.next, upd ρ "one" (.val one.v)) := by
    conv => lhs; arg 7; whnf
    simp only [bd_ok, vd_val, ofOpt_some, c_int, e_call, s_const, evs_nil, evs_cons, fo7, fo8, call_one, call_two, con_nil, ic1, ic2, ic3, ic4, ic5, ic6, ic7, ic8, ic9, eq_self, lkv_val, asK_val, asF_f, n28x0, s28x1, lk28_law_marked, lk28_law_leaf, hρ, q0, q1, el0, eo]
  obtain ⟨l2, el2, pl2, zl2⟩ := leaf_full 5 ns[2]
  obtain ⟨two, et, pt, zt⟩ := mark_full 5 l2 ns[3] 1 pl2 zl2 (by (first | lia | omega))
  have h2 : px GG (CC 6) [] 97 (nmI 28) (upd ρ "one" (.val one.v)) (stI 28 2) = ok (.next, upd (upd ρ "one" (.val one.v)) "two" (.val two.v)) := by
    conv => lhs; arg 7; whnf
    simp only [bd_ok, vd_val, ofOpt_some, c_int, e_call, s_const, evs_nil, evs_cons, fo7, fo8, call_one, call_two, upd_lit, con_nil, ic1, ic2, ic3, ic4, ic5, ic6, ic7, ic8, ic9, String.reduceEq, ne_eq, not_false_eq_true, eq_self, lkv_val, asK_val, asF_f, n28x0, s28x2, lk28_law_marked, lk28_law_leaf, hρ, q2, q3, el2, et]
  obtain ⟨l4, el4, pl4, zl4⟩ := leaf_full 5 ns[4]
  obtain ⟨i5, hi5, e5⟩ := fmod_nat ns[5] (m := 9) (by (first | lia | omega))
  have hs5 : shapesL[i5]? = some shapesL[i5] := List.getElem?_eq_getElem (show i5 < shapesL.length from hi5)
  obtain ⟨inner, ei, ai, zi⟩ := shape_eq 4 [one, two, l4] 2 (by (first | lia | omega)) (by (first | lia | omega)) rfl (by
    intro b hb
    simp only [List.mem_cons, List.not_mem_nil, or_false] at hb
    rcases hb with rfl | rfl | rfl
    · exact ⟨po, zo⟩
    · exact ⟨pt, zt⟩
    · exact ⟨pl4, zl4.mono (by (first | lia | omega))⟩) shapesL[i5] (List.mem_of_getElem? hs5)
  have hsub5 : psub (.val (.tup (shapesL.map shapeV))) (.int (ns[5].fmod 9)) = some (shapeV shapesL[i5]) := by
    have e5' : ns[5].fmod 9 = (i5 : Int) := e5
    rw [e5']
    exact sub_tup (by rw [List.getElem?_map, hs5]; rfl) (by (first | lia | omega))
  have ei : CC 6 "_law_alts" [.list [one.v, two.v, l4.v], shapeV shapesL[i5]] = ok inner.v := ei
  have h3 : px GG (CC 6) [] 96 (nmI 28) (upd (upd ρ "one" (.val one.v)) "two" (.val two.v)) (stI 28 3) = ok (.next, upd (upd (upd ρ "one" (.val one.v)) "two" (.val two.v)) "inner" (.val inner.v)) := by
    conv => lhs; arg 7; whnf
    simp only [bd_ok, vd_val, ofOpt_some, c_int, e_bin, e_call, e_list, s_const, s_bin, evs_nil, evs_cons, vals_nil, vals_cons, fo7, fo10, call_one, call_two, upd_same, upd_lit, con_nil, ic1, ic2, ic3, ic4, ic5, ic6, ic7, ic8, ic9, pb_mod, String.reduceEq, ne_eq, not_false_eq_true, ↓reduceIte, List.length_cons, List.length_nil, eq_self, Nat.reduceAdd, Nat.reduceLeDiff, lim, lkv_val, lkg_some, asK_val, asF_f, n28x0, n28x1, n28x2, s28x3, lk28_law_leaf, lk28_law_alts, n28x30, hρ, q4, q5, el4, gs, n9, hsub5, ei]
  have hw := ai
  obtain ⟨y1, y2, y3⟩ := zi
  have hg : ∃ ρ4, px GG (CC 6) [] 95 (nmI 28) (upd (upd (upd ρ "one" (.val one.v)) "two" (.val two.v)) "inner" (.val inner.v)) (stI 28 4) = ok (.next, ρ4) ∧ ρ4 "group" = some (.val (groupP inner).v) ∧ ρ4 "script" = some (.val (scr ns)) := by
    conv in px _ _ _ _ _ _ _ => arg 7; whnf
    have s0 : psub (.val inner.v) (.int 0) = some (.str (st inner.x)) := rfl
    have s1 : psub (.val inner.v) (.int 1) = some (.list (inner.j.map Tk.v)) := rfl
    have s2 : psub (.val inner.v) (.int 2) = some (.list (inner.p.map It.v)) := rfl
    have b1 : Str.ofString "(" = st [40] := by kernel_rfl
    have b2 : Str.ofString ")" = st [41] := by kernel_rfl
    have z1 : (Str.ofString "(").length + (st inner.x).length ≤ 10000 := by rw [b1, st_len, st_len]; simp; (first | lia | omega)
    have z2 : (Str.ofString "(" ++ st inner.x).length + (Str.ofString ")").length ≤ 10000 := by rw [length_append, b1, b2, st_len, st_len, st_len]; simp; (first | lia | omega)
    have z3 : 0 + 1 + (inner.j.map Tk.v).length ≤ 10000 := by simp; (first | lia | omega)
    have z4 : 0 + 1 + (inner.j.map Tk.v).length + (0 + 1) ≤ 10000 := by simp; (first | lia | omega)
    simp only [bd_ok, vd_val, ofOpt_some, c_int, c_str, e_bin, e_tup, e_list, s_const, evs_nil, evs_cons, vals_nil, vals_cons, upd_same, con_nil, ic1, ic2, ic3, ic4, ic5, ic6, ic7, ic8, ic9, pb_cat, pb_app, ↓reduceIte, List.length_cons, List.length_nil, eq_self, Nat.reduceAdd, Nat.reduceLeDiff, lim, lkv_val, asK_val, asF_f, n28x3, s28x4, s0, s1, s2, z1, z2, z3, z4, List.length_append]
    have hx : Str.ofString "(" ++ st inner.x ++ Str.ofString ")" = st ([40] ++ inner.x ++ [41]) := by rw [b1, b2, st_append, st_append]
    refine ⟨_, rfl, ?_, by simp only [upd_lit, ne_eq, String.reduceEq, not_false_eq_true, hρ]⟩
    simp only [upd_same]
    rw [hx]
    simp [groupP, Pt.v, Tk.v, Tk.k, Tk.g]
  obtain ⟨ρ4, h4, g4, sc4⟩ := hg
  have zg : (groupP inner).le 28 := ⟨by simp [groupP]; (first | lia | omega), by simp [groupP]; (first | lia | omega), by simp [groupP]; (first | lia | omega)⟩
  obtain ⟨l7, el7, pl7, zl7⟩ := leaf_full 5 ns[7]
  obtain ⟨four, ef, pf, zf⟩ := mark_full 5 l7 ns[8] 1 pl7 zl7 (by (first | lia | omega))
  have h5 : px GG (CC 6) [] 94 (nmI 28) ρ4 (stI 28 5) = ok (.next, upd ρ4 "four" (.val four.v)) := by
    conv => lhs; arg 7; whnf
    simp only [bd_ok, vd_val, ofOpt_some, c_int, e_call, s_const, evs_nil, evs_cons, fo7, fo8, call_one, call_two, con_nil, ic1, ic2, ic3, ic4, ic5, ic6, ic7, ic8, ic9, eq_self, lkv_val, asK_val, asF_f, n28x0, s28x5, lk28_law_marked, lk28_law_leaf, sc4, q7, q8, el7, ef]
  obtain ⟨gm, egm, pgm, zgm⟩ := mark_full 5 (groupP inner) ns[6] 28 (piece_group hw) zg (by (first | lia | omega))
  obtain ⟨l9, el9, pl9, zl9⟩ := leaf_full 5 ns[9]
  have h6 : px GG (CC 6) [] 93 (nmI 28) (upd ρ4 "four" (.val four.v)) (stI 28 6) = ok (.next, upd (upd ρ4 "four" (.val four.v)) "parts" (.val (.list [gm.v, four.v, l9.v]))) := by
    conv => lhs; arg 7; whnf
    simp only [bd_ok, vd_val, ofOpt_some, c_int, e_call, e_list, s_const, evs_nil, evs_cons, vals_nil, vals_cons, fo7, fo8, call_one, call_two, upd_same, upd_lit, con_nil, ic1, ic2, ic3, ic4, ic5, ic6, ic7, ic8, ic9, String.reduceEq, ne_eq, not_false_eq_true, ↓reduceIte, List.length_cons, List.length_nil, eq_self, Nat.reduceAdd, Nat.reduceLeDiff, lim, lkv_val, asK_val, asF_f, n28x0, n28x4, n28x5, s28x6, lk28_law_marked, lk28_law_leaf, sc4, g4, q6, q9, el9, egm]
  obtain ⟨i10, hi10, e10⟩ := fmod_nat ns[10] (m := 9) (by (first | lia | omega))
  have hs10 : shapesL[i10]? = some shapesL[i10] := List.getElem?_eq_getElem (show i10 < shapesL.length from hi10)
  obtain ⟨a, ea, aa, za⟩ := shape_eq 4 [gm, four, l9] 29 (by (first | lia | omega)) (by (first | lia | omega)) rfl (by
    intro b hb
    simp only [List.mem_cons, List.not_mem_nil, or_false] at hb
    rcases hb with rfl | rfl | rfl
    · exact ⟨pgm, zgm⟩
    · exact ⟨pf, zf.mono (by (first | lia | omega))⟩
    · exact ⟨pl9, zl9.mono (by (first | lia | omega))⟩) shapesL[i10] (List.mem_of_getElem? hs10)
  have hsub10 : psub (.val (.tup (shapesL.map shapeV))) (.int (ns[10].fmod 9)) = some (shapeV shapesL[i10]) := by
    have e10' : ns[10].fmod 9 = (i10 : Int) := e10
    rw [e10']
    exact sub_tup (by rw [List.getElem?_map, hs10]; rfl) (by (first | lia | omega))
  have ea : CC 6 "_law_alts" [.list [gm.v, four.v, l9.v], shapeV shapesL[i10]] = ok (.tup [.str (st a.x), .list (a.j.map Tk.v), .list (a.p.map It.v)]) := ea
  have h7 : px GG (CC 6) [] 92 (nmI 28) (upd (upd ρ4 "four" (.val four.v)) "parts" (.val (.list [gm.v, four.v, l9.v]))) (stI 28 7) =
      ok (.next, upd (upd (upd (upd (upd ρ4 "four" (.val four.v)) "parts" (.val (.list [gm.v, four.v, l9.v]))) "text" (.val (.str (st a.x)))) "joined" (.val (.list (a.j.map Tk.v)))) "post" (.val (.list (a.p.map It.v)))) := by
    conv => lhs; arg 7; whnf
    simp only [bd_ok, vd_val, ofOpt_some, c_int, e_bin, e_call, s_const, s_bin, evs_nil, evs_cons, fo10, call_two, upd_same, upd_lit, con_nil, pb_mod, String.reduceEq, ne_eq, not_false_eq_true, or_true, true_or, Bool.and_true, ↓reduceIte, Bool.false_eq_true, eq_self, lkv_val, lkg_some, n28x0, n28x6, lk28_text, lk28_joined, lk28_post, lk28_law_alts, n28x30, sc4, q10, gs, n9, hsub10, ea, x_unp, it1, it2, bind_nil, bind_cons, List.all_cons, List.all_nil, nn1, Bool.not_false]
  refine ⟨a, (upd (upd (upd (upd (upd ρ4 "four" (.val four.v)) "parts" (.val (.list [gm.v, four.v, l9.v]))) "text" (.val (.str (st a.x)))) "joined" (.val (.list (a.j.map Tk.v)))) "post" (.val (.list (a.p.map It.v)))), aa, za, ?_, ⟨?_, ?_, ?_⟩, ?_⟩
  · generalize (fnI 28).body.drop 8 = rest at hb ⊢
    rw [hb]
    simp only [List.cons_append, List.nil_append]
    rw [pxs_next h0, pxs_next h1, pxs_next h2, pxs_next h3, pxs_next h4, pxs_next h5, pxs_next h6, pxs_next h7]
  · simp only [upd_lit, upd_same, ne_eq, String.reduceEq, not_false_eq_true]
  · simp only [upd_lit, upd_same, ne_eq, String.reduceEq, not_false_eq_true]
  · simp only [upd_same]
  · simp only [upd_lit, ne_eq, String.reduceEq, not_false_eq_true, sc4]
end Mine

-- SxL2
namespace Mine
open PySem PyProof.Rows

/-- equal to itself -/
noncomputable def okd : Nat → PV → Bool
  | 0, _ => false
  | n + 1, d => match d with
    | .tup ds => ds.all (okd n)
    | .list ds => ds.all (okd n)
    | .sdict _ => false
    | _ => true
theorem beqs_self {f : PV → PV → Bool} : ∀ (ds : List PV), (∀ d ∈ ds, f d d = true) → PV.beqs f ds ds = true
  | [], _ => rfl
  | d :: ds, h => by
    show (f d d && PV.beqs f ds ds) = true
    rw [h d List.mem_cons_self, beqs_self ds fun x hx => h x (List.mem_cons_of_mem _ hx)]; rfl
theorem beq_self : ∀ (n : Nat) (d : PV), okd n d = true → PV.beq n d d = true
  | 0, _, h => by cases h
  | n + 1, d, h => by
    cases d with
    | none => rfl
    | bool b => show (b == b) = true; simp
    | int i => show (i == i) = true; simp
    | str x => show (x == x) = true; simp
    | tup ds => exact beqs_self ds fun d hd => beq_self n d (List.all_eq_true.mp h d hd)
    | list ds => exact beqs_self ds fun d hd => beq_self n d (List.all_eq_true.mp h d hd)
    | sdict _ => cases h
theorem okd_mono : ∀ (n m : Nat) (d : PV), n ≤ m → okd n d = true → okd m d = true
  | 0, _, _, _, h => by cases h
  | n + 1, 0, _, hm, _ => by (first | lia | omega)
  | n + 1, m + 1, d, hm, h => by
    cases d with
    | tup ds => exact List.all_eq_true.mpr fun d hd => okd_mono n m d (by (first | lia | omega)) (List.all_eq_true.mp h d hd)
    | list ds => exact List.all_eq_true.mpr fun d hd => okd_mono n m d (by (first | lia | omega)) (List.all_eq_true.mp h d hd)
    | sdict _ => cases h
    | _ => rfl
theorem okd_tk (t : Tk) : okd 2 t.v = true := rfl
theorem okd_it (t : It) : okd 2 t.v = true := rfl
theorem ne_same {ds : List PV} (h : ∀ d ∈ ds, okd 20 d = true) : (if PV.beqs (PV.beq deep) ds ds = true then some false else (none : Option Bool)) = some false := by
  rw [if_pos (beqs_self ds fun d hd => beq_self deep d (h d hd))]

section
variable {G : Str → Option PV} {call : Calls} {n : Nat} {sc : Names} {ρ : Loc} {t : Str} {p p1 : Pos} {elt it : Expr} {ifs : List Expr} {csc : Scope}
theorem e_comp : pe G (n + 1) call sc ρ (.ListComp elt [⟨.Name t p, it, ifs, 0⟩] csc p1) = if csc.kind = .function ∧ compScopeOk csc.names sc t = true then
          bd (pits G n call sc ρ it) fun ds => if ds.all simple ∧ ds.length ≤ lim then
            bs (filt (compT G n (relab csc.names sc) ρ t ifs) (compF G n (relab csc.names sc) ρ t elt) ds) fun out => ok (.val (.list out))
            else none
        else none := rfl
end
theorem filt_map {T : PV → M Bool} {F : PV → M PV} (b : PV → Bool) (f : PV → PV) : ∀ (ds : List PV), (∀ d ∈ ds, T d = ok (b d)) → (∀ d ∈ ds, b d = true → F d = ok (f d)) → filt T F ds = ok ((ds.filter b).map f)
  | [], _, _ => rfl
  | d :: ds, h1, h2 => by
    have ih := filt_map b f ds (fun x hx => h1 x (List.mem_cons_of_mem _ hx)) (fun x hx => h2 x (List.mem_cons_of_mem _ hx))
    show bs (T d) _ = _
    rw [h1 d List.mem_cons_self, bs_ok, List.filter_cons]
    cases hb : b d with
    | true =>
      simp only [if_true]
      rw [h2 d List.mem_cons_self hb, bs_ok, ih, bs_ok]
      rfl
    | false =>
      simp only [Bool.false_eq_true, if_false]
      exact ih

noncomputable def spoilsL : List (List Nat) := [[], [42], [43, 63], [124], [40, 42], [41], [41, 40], [40, 41], [96], [123, 90], [38], [41, 47]]
theorem g_spoils : GG "_law_spoils" = some (.tup (spoilsL.map fun x => .str (st x))) := by kernel_rfl
theorem spoils_len : ∀ x ∈ spoilsL, x.length ≤ 2 := by decide
theorem slice_sto {x : List Nat} {j : Nat} (hj : j ≤ x.length) (h : x.length ≤ 1000) : pslice (.str (st x)) none (some (.int j)) = some (.str (st (x.take j))) := by
  show (if _ then _ else _) = _
  rw [if_pos ⟨by (first | lia | omega), by rw [st_len]; (first | lia | omega), by rw [st_len]; simp [lim]; (first | lia | omega)⟩]; simp
theorem slice_sfrom {x : List Nat} {j : Nat} (hj : j ≤ x.length) (h : x.length ≤ 1000) : pslice (.str (st x)) (some (.int j)) none = some (.str (st (x.drop j))) := by
  show (if _ then _ else _) = _
  rw [if_pos ⟨by (first | lia | omega), by rw [st_len]; (first | lia | omega), by rw [st_len]; simp [lim]; (first | lia | omega)⟩]; simp

/-- the names that stay -/
structure Base (ρ : Loc) (ns : List Int) (a : Pt) : Prop where
  ac : Ac ρ a
  script : ρ "script" = some (.val (scr ns))

theorem law_b1 (ns : List Int) (h17 : 17 ≤ ns.length) (h63 : ns.length ≤ 63) (a : Pt) (za : a.le 269) (ρ : Loc) (hB : Base ρ ns a) : ∃ (cs : List Nat) (ρ' : Loc), cs.length ≤ 300 ∧
    pxs GG (CC 6) [] 92 (nmI 28) ρ ((fnI 28).body.drop 8) = pxs GG (CC 6) [] 88 (nmI 28) ρ' ((fnI 28).body.drop 12) ∧ Base ρ' ns a ∧ ρ' "spoiled" = some (.val (.str (st cs))) ∧
    ρ' "due" = some (.val (.str (dueL cs))) ∧ (match compL cs with
      | .ok is => ρ' "got" = some (.val (.list (is.map It.v))) ∧ ρ' "why" = some (.val (.str ""))
      | .error m => ρ' "got" = some (.val .none) ∧ ρ' "why" = some (.val (.str m))) := by
  obtain ⟨⟨a1, a2, a3⟩, hs⟩ := hB
  obtain ⟨y1, y2, y3⟩ := za
  have hb : (fnI 28).body.drop 8 = [stI 28 8, stI 28 9, stI 28 10, stI 28 11] ++ (fnI 28).body.drop 12 := by kernel_rfl
  have q11 : psub (.val (scr ns)) (.int 11) = some (.int ns[11]) := scr_at ns 11 (by (first | lia | omega)) (by (first | lia | omega))
  have q12 : psub (.val (scr ns)) (.int 12) = some (.int ns[12]) := scr_at ns 12 (by (first | lia | omega)) (by (first | lia | omega))
  have n12 : ((12 : Int) = 0) = False := by simp
  obtain ⟨j, hj, ej⟩ := fmod_nat ns[12] (m := a.x.length + 1) (by (first | lia | omega))
  have ej : ns[12].fmod ((a.x.length : Int) + 1) = (j : Int) := ej
  have nz : ((a.x.length : Int) + 1 = 0) = False := by simp; (first | lia | omega)
  have zl : a.x.length ≤ 10000 := by (first | lia | omega)
  have h8 : px GG (CC 6) [] 91 (nmI 28) ρ (stI 28 8) = ok (.next, upd ρ "at" (.val (.int j))) := by
    conv => lhs; arg 7; whnf
    simp only [bd_ok, vd_val, ofOpt_some, c_int, e_bin, e_call, s_const, fn_len, con_nil, ic1, ic2, ic3, ic4, ic5, ic6, ic7, ic8, ic9, pb_add, pb_mod, pl_str, ne_eq, not_false_eq_true, ↓reduceIte, eq_self, lim, lkv_val, asK_val, asF_f, n28x0, n28x7, s28x10, lk28_len, hs, a1, q12, st_len, zl, nz, ej]
  obtain ⟨i, hi, ei⟩ := fmod_nat ns[11] (m := 12) (by (first | lia | omega))
  have ei : ns[11].fmod 12 = (i : Int) := ei
  have hsp : spoilsL[i]? = some spoilsL[i] := List.getElem?_eq_getElem (show i < spoilsL.length from hi)
  have hsub : psub (.val (.tup (spoilsL.map fun x => .str (st x)))) (.int i) = some (.str (st spoilsL[i])) := sub_tup (by rw [List.getElem?_map, hsp]; rfl) (by (first | lia | omega))
  have hl2 := spoils_len spoilsL[i] (List.mem_of_getElem? hsp)
  have gs := g_spoils
  have e1 := slice_sto (x := a.x) (j := j) (by (first | lia | omega)) (by (first | lia | omega))
  have e2 := slice_sfrom (x := a.x) (j := j) (by (first | lia | omega)) (by (first | lia | omega))
  have z1 : (a.x.take j).length + spoilsL[i].length ≤ 10000 := by simp; (first | lia | omega)
  have z2 : (a.x.take j ++ spoilsL[i]).length + (a.x.drop j).length ≤ 10000 := by simp; (first | lia | omega)
  have hcs : (a.x.take j ++ spoilsL[i] ++ a.x.drop j).length ≤ 300 := by simp; (first | lia | omega)
  have h9 : px GG (CC 6) [] 90 (nmI 28) (upd ρ "at" (.val (.int j))) (stI 28 9) = ok (.next, upd (upd ρ "at" (.val (.int j))) "spoiled" (.val (.str (st (a.x.take j ++ spoilsL[i] ++ a.x.drop j))))) := by
    conv => lhs; arg 7; whnf
    simp only [bd_ok, vd_val, ofOpt_some, c_int, e_bin, e_from, e_to, s_const, s_bin, upd_same, upd_lit, con_nil, ic1, ic2, ic3, ic4, ic5, ic6, ic7, ic8, ic9, pb_mod, pb_cat, String.reduceEq, ne_eq, not_false_eq_true, ↓reduceIte, eq_self, lim, lkv_val, lkg_some, asK_val, asF_f, n28x0, n28x7, n28x10, s28x11, n28x31, hs, a1, q11, gs, n12, ei, hsub, e1, e2, st_len, st_append, z1, z2]
  generalize a.x.take j ++ spoilsL[i] ++ a.x.drop j = cs at hcs h9
  have ecs : (st cs).cps.toList = cs := by simp
  have hsz : (st cs).cps.size ≤ 400 := by simp; (first | lia | omega)
  have hd := due_eq 5 (st cs) (by (first | lia | omega))
  rw [ecs] at hd
  have h10 : px GG (CC 6) [] 89 (nmI 28) (upd (upd ρ "at" (.val (.int j))) "spoiled" (.val (.str (st cs)))) (stI 28 10) = ok (.next, upd (upd (upd ρ "at" (.val (.int j))) "spoiled" (.val (.str (st cs)))) "due" (.val (.str (dueL cs)))) := by
    conv => lhs; arg 7; whnf
    simp only [bd_ok, e_call, evs_nil, evs_cons, fo11, call_one, upd_same, con_nil, ic1, ic2, ic3, ic4, ic5, ic6, ic7, ic8, ic9, eq_self, lkv_val, asK_val, asF_f, n28x11, s28x12, lk28_law_due, hd]
  have hr := read_eq 1 (st cs) hsz
  rw [ecs] at hr
  have h11 : ∀ g w, pairL (compL cs) = .tup [g, w] → px GG (CC 6) [] 88 (nmI 28) (upd (upd (upd ρ "at" (.val (.int j))) "spoiled" (.val (.str (st cs)))) "due" (.val (.str (dueL cs)))) (stI 28 11) =
      ok (.next, upd (upd (upd (upd (upd ρ "at" (.val (.int j))) "spoiled" (.val (.str (st cs)))) "due" (.val (.str (dueL cs)))) "got" (.val g)) "why" (.val w)) := fun g w e => by
    rw [e] at hr
    conv => lhs; arg 7; whnf
    simp only [bd_ok, e_call, evs_nil, evs_cons, fo14, call_one, upd_same, upd_lit, con_nil, String.reduceEq, ne_eq, not_false_eq_true, true_or, Bool.and_true, ↓reduceIte, Bool.false_eq_true, eq_self, lkv_val, n28x11, lk28_got, lk28_why, lk28_law_read, hr, x_unp, it1, it2, bind_nil, bind_cons, List.all_cons, List.all_nil, nn1, Bool.not_false]
  have fin : ∀ g w, pairL (compL cs) = .tup [g, w] → pxs GG (CC 6) [] 92 (nmI 28) ρ ((fnI 28).body.drop 8) = pxs GG (CC 6) [] 88 (nmI 28) (upd (upd (upd (upd (upd ρ "at" (.val (.int j))) "spoiled" (.val (.str (st cs)))) "due" (.val (.str (dueL cs)))) "got" (.val g)) "why" (.val w)) ((fnI 28).body.drop 12) := fun g w e => by
    rw [hb]
    generalize (fnI 28).body.drop 12 = rest
    simp only [List.cons_append, List.nil_append]
    rw [pxs_next h8, pxs_next h9, pxs_next h10, pxs_next (h11 g w e)]
  cases hc : compL cs with
  | error m =>
    refine ⟨cs, _, hcs, fin .none (.str m) (by rw [hc]; rfl), ⟨⟨?_, ?_, ?_⟩, ?_⟩, ?_, ?_, ?_⟩
    · simp only [upd_lit, ne_eq, String.reduceEq, not_false_eq_true, a1]
    · simp only [upd_lit, ne_eq, String.reduceEq, not_false_eq_true, a2]
    · simp only [upd_lit, ne_eq, String.reduceEq, not_false_eq_true, a3]
    · simp only [upd_lit, ne_eq, String.reduceEq, not_false_eq_true, hs]
    · simp only [upd_lit, upd_same, ne_eq, String.reduceEq, not_false_eq_true]
    · simp only [upd_lit, upd_same, ne_eq, String.reduceEq, not_false_eq_true]
    · rw [hc]; exact ⟨by simp only [upd_lit, upd_same, ne_eq, String.reduceEq, not_false_eq_true], by simp only [upd_same]⟩
  | ok is =>
    refine ⟨cs, _, hcs, fin (.list (is.map It.v)) (.str "") (by rw [hc]; rfl), ⟨⟨?_, ?_, ?_⟩, ?_⟩, ?_, ?_, ?_⟩
    · simp only [upd_lit, ne_eq, String.reduceEq, not_false_eq_true, a1]
    · simp only [upd_lit, ne_eq, String.reduceEq, not_false_eq_true, a2]
    · simp only [upd_lit, ne_eq, String.reduceEq, not_false_eq_true, a3]
    · simp only [upd_lit, ne_eq, String.reduceEq, not_false_eq_true, hs]
    · simp only [upd_lit, upd_same, ne_eq, String.reduceEq, not_false_eq_true]
    · simp only [upd_lit, upd_same, ne_eq, String.reduceEq, not_false_eq_true]
    · rw [hc]; exact ⟨by simp only [upd_lit, upd_same, ne_eq, String.reduceEq, not_false_eq_true], by simp only [upd_same]⟩
theorem simple_it (i : It) : simple i.v = true := rfl
theorem simple_tk (i : Tk) : simple i.v = true := rfl
theorem all_simple_it (is : List It) : (is.map It.v).all simple = true := by
  rw [List.all_map]; exact List.all_eq_true.mpr fun i _ => simple_it i
theorem all_simple_tk (is : List Tk) : (is.map Tk.v).all simple = true := by
  rw [List.all_map]; exact List.all_eq_true.mpr fun i _ => simple_tk i

theorem catS_chr : ∀ is : List It, catS (is.map It.g) = st (is.filterMap chrI)
  | [] => rfl
  | i :: is => by
    show i.g ++ catS (is.map It.g) = _
    rw [catS_chr is, List.filterMap_cons]
    have e0 : Str.ofString "" = st [] := by kernel_rfl
    cases i with
    | chr c =>
      show sg c ++ st (is.filterMap chrI) = st (c :: is.filterMap chrI)
      exact st_append [c] _
    | _ => show Str.ofString "" ++ st (is.filterMap chrI) = _; rw [e0, st_append]; rfl
theorem catS_sg : ∀ cs : List Nat, catS (cs.map sg) = st cs
  | [] => rfl
  | c :: cs => by
    show sg c ++ catS (cs.map sg) = _
    rw [catS_sg cs]
    exact st_append [c] cs
theorem strs_map {α : Type} (f : α → Str) : ∀ l : List α, strsOf (l.map fun x => PV.str (f x)) = some (l.map f)
  | [] => rfl
  | x :: l => by
    show (match strsOf (l.map fun x => PV.str (f x)) with
      | some ys => some (f x :: ys)
      | none => none) = _
    rw [strs_map f l]; rfl

end Mine

-- SxL3
namespace Mine
open PySem PyProof.Rows

section
variable {G : Str → Option PV} {call : Calls} {n : Nat} {sc : Names} {ρ : Loc} {y m : Str} {p p1 apos : Pos} {k : Nat} {e : Expr}
theorem e_join : pe G (n + 1) call sc ρ (.Call (.Attribute (.Constant (.str y) k p) m apos) [e] [] p1) = if m = ("join" : Str) ∧ y = Str.empty ∧ (apos.endLine == p1.line) = true then bs (pe G n call sc ρ e) fun r => match r with
              | .val (.list ds) => match strsOf ds with
                | some ys => if (catS ys).length ≤ lim then ok (.val (.str (catS ys))) else none
                | none => none
              | _ => none
          else none := rfl
end
theorem empty_lit : (Str.ofString "" = Str.empty) = True := by simp; kernel_rfl
theorem type_list (ds : List PV) : ptype (.list ds) (Str.ofString "list") = some true := by kernel_rfl
theorem type_bool (b : Bool) : ptype (.bool b) (Str.ofString "bool") = some true := by kernel_rfl

theorem law_12a (ρ : Loc) (due m : Str) (h1 : ρ "due" = some (.val (.str due))) (h2 : ρ "got" = some (.val .none)) (h3 : ρ "why" = some (.val (.str m))) (hd : due ≠ "") (hc : Txt.contains m due = true) :
    px GG (CC 6) [] 87 (nmI 28) ρ (stI 28 12) = ok (.next, ρ) := by
  conv => lhs; arg 7; whnf
  have hb : (due != Str.ofString "") = true := by simpa using hd
  simp only [bd_ok, bs_ok, vd_val, ofOpt_some, c_str, q_isnot, q_cmp, t_bool, t_cmp, a_nil', y_or, yo_no, y_if, y_yes, y_no, pxs_nil, y_cons, y_next, p_ne_s, p_nin_s, ne_eq, not_false_eq_true, reduceCtorEq, eq_self, lkv_val, n28x12, n28x13, n28x14, h1, h2, h3, hb, hc, Bool.not_true]

noncomputable def testOf (s : Stmt) : Expr := itOf s
noncomputable def kidsOf : Expr → List Expr
  | .Compare l _ rs _ => l :: rs
  | .Call _ as _ _ => as
  | .ListComp e gens _ _ => e :: gens.flatMap fun g => g.iter :: g.ifs
  | _ => []
noncomputable def kid (e : Expr) (j : Nat) : Expr := (kidsOf e)[j]?.getD e
noncomputable def lhsOf (e : Expr) : Expr := kid e 0
noncomputable def rhsOf (e : Expr) : Expr := kid e 1
noncomputable def argOf (e : Expr) : Expr := kid e 0
noncomputable def comp1 : Expr := argOf (lhsOf (testOf (nth (elseOf (stI 28 12)) 1)))
noncomputable def comp2 : Expr := argOf (rhsOf (testOf (nth (elseOf (stI 28 12)) 1)))

noncomputable def nm2 (t : String) : Names := [(Str.ofString ".0", .local), (Str.ofString t, .local)]
theorem relab2 (t : String) (sc : Names) : relab (nm2 t) sc = nm2 t := rfl
theorem scope2 {t : String} (sc : Names) (h : t ≠ ".0") : compScopeOk (nm2 t) sc (Str.ofString t) = true := by
  unfold compScopeOk nm2
  simp only [beq_self_eq_true, Bool.true_and, Bool.and_true, bne_iff_ne]
  exact ne_lit h
theorem look2 {t : String} (h : t ≠ ".0") : (nm2 t).lookup (Str.ofString t) = some .local := by
  unfold nm2
  rw [List.lookup_cons, beq_lit, decide_eq_false h, List.lookup_cons, beq_self_eq_true]
theorem loc2 {t : String} {ρ : Loc} {d : PV} : compLoc (nm2 t) ρ (Str.ofString t) d (Str.ofString t) = some (.val d) := if_pos rfl

noncomputable def eltOf (e : Expr) : Expr := kid e 0
noncomputable def ifOf (e : Expr) : Expr := kid e 2
/-- the test and the item of a comprehension over t -/
noncomputable abbrev cT (ρ : Loc) (n : Nat) (t : String) (ifs : List Expr) : PV → M Bool := compT GG n (nm2 t) ρ (Str.ofString t) ifs
noncomputable abbrev cF (ρ : Loc) (n : Nat) (t : String) (e : Expr) : PV → M PV := compF GG n (nm2 t) ρ (Str.ofString t) e

theorem comp1_eq (ρ : Loc) (is : List It) (h2 : ρ "got" = some (.val (.list (is.map It.v)))) (hl : is.length ≤ 5000) : pe GG 80 (CC 6) (nmI 28) ρ comp1 = ok (.val (.list (is.map fun i => .str i.g))) := by
  have hf : filt (compT GG 79 (relab [(Str.ofString ".0", .local), (Str.ofString "t", .local)] (nmI 28)) ρ (Str.ofString "t") []) (compF GG 79 (relab [(Str.ofString ".0", .local), (Str.ofString "t", .local)] (nmI 28)) ρ (Str.ofString "t") (eltOf comp1)) (is.map It.v) = ok (is.map fun i => .str i.g) := by
    rw [show relab [(Str.ofString ".0", NameKind.local), (Str.ofString "t", .local)] (nmI 28) = nm2 "t" from rfl]
    have := filt_map (T := compT GG 79 (nm2 "t") ρ (Str.ofString "t") []) (F := compF GG 79 (nm2 "t") ρ (Str.ofString "t") (eltOf comp1)) (fun _ => true) (fun d => match d with | .tup [_, g] => g | d => d) (is.map It.v) (fun d _ => rfl) (fun d hd _ => by
      obtain ⟨i, _, rfl⟩ := List.mem_map.mp hd
      have hi := i_sign i
      have hk2 := look2 (t := "t") (by decide)
      have hl2 := loc2 (t := "t") (ρ := ρ) (d := i.v)
      unfold compF
      conv in pe _ _ _ _ _ _ => arg 6; whnf
      simp only [bd_ok, bs_ok, vd_val, ofOpt_some, c_int, e_name, s_const, odd_lit, bound_local, String.reduceEq, ne_eq, not_false_eq_true, ↓reduceIte, Bool.false_eq_true, eq_self, hk2, hl2, hi, simpleElt]
      rfl)
    rw [this, List.filter_eq_self.mpr (fun _ _ => rfl), List.map_map]
    rfl
  conv at hf => lhs; arg 2; arg 6; whnf
  conv => lhs; arg 6; whnf
  have z : (is.map It.v).length ≤ 10000 := by simp; (first | lia | omega)
  have hs := all_simple_it is
  have hsc := scope2 (t := "t") (nmI 28) (by decide)
  unfold nm2 at hsc
  simp only [bd_ok, bs_ok, ofOpt_some, i_name, ↓reduceIte, eq_self, and_self, lim, lkv_val, n28x13, e_comp, h2, itemsOf, hs, z, hsc, hf]
theorem ops7 : (Str.ofString ".()|*+?").cps.toList = [46, 40, 41, 124, 42, 43, 63] := by kernel_rfl
noncomputable def isSg7 : PV → Bool
  | .str x => !Txt.contains (Str.ofString ".()|*+?") x
  | _ => false
theorem comp2_eq (ρ : Loc) (cs : List Nat) (h0 : ρ "spoiled" = some (.val (.str (st cs)))) (hl : cs.length ≤ 5000) : pe GG 80 (CC 6) (nmI 28) ρ comp2 = ok (.val (.list ((cs.filter fun c => c ∉ [46, 40, 41, 124, 42, 43, 63]).map fun c => .str (sg c)))) := by
  have hf : filt (compT GG 79 (relab [(Str.ofString ".0", .local), (Str.ofString "c", .local)] (nmI 28)) ρ (Str.ofString "c") [ifOf comp2]) (compF GG 79 (relab [(Str.ofString ".0", .local), (Str.ofString "c", .local)] (nmI 28)) ρ (Str.ofString "c") (eltOf comp2)) (cs.map fun c => .str (sg c)) = ok ((cs.filter fun c => c ∉ [46, 40, 41, 124, 42, 43, 63]).map fun c => .str (sg c)) := by
    rw [show relab [(Str.ofString ".0", NameKind.local), (Str.ofString "c", .local)] (nmI 28) = nm2 "c" from rfl]
    have := filt_map (T := compT GG 79 (nm2 "c") ρ (Str.ofString "c") [ifOf comp2]) (F := compF GG 79 (nm2 "c") ρ (Str.ofString "c") (eltOf comp2)) isSg7 (fun d => d) (cs.map fun c => PV.str (sg c)) (fun d hd => by
      obtain ⟨c, _, rfl⟩ := List.mem_map.mp hd
      have hk2 := look2 (t := "c") (by decide)
      have hl2 := loc2 (t := "c") (ρ := ρ) (d := .str (sg c))
      unfold compT evTests
      dsimp only
      conv in pt _ _ _ _ _ _ => arg 6; whnf
      simp only [bd_ok, bs_ok, vd_val, ofOpt_some, c_str, e_name, q_cmp, t_cmp, odd_lit, bound_local, p_nin_s, String.reduceEq, ne_eq, not_false_eq_true, reduceCtorEq, ↓reduceIte, Bool.false_eq_true, eq_self, hk2, hl2]
      rfl) (fun d hd _ => by
      obtain ⟨c, _, rfl⟩ := List.mem_map.mp hd
      have hk2 := look2 (t := "c") (by decide)
      have hl2 := loc2 (t := "c") (ρ := ρ) (d := .str (sg c))
      unfold compF
      conv in pe _ _ _ _ _ _ => arg 6; whnf
      simp only [bs_ok, vd_val, e_name, odd_lit, bound_local, String.reduceEq, ne_eq, not_false_eq_true, ↓reduceIte, Bool.false_eq_true, eq_self, hk2, hl2, simpleElt])
    rw [this, List.map_id', List.filter_map]
    congr 2
    refine List.filter_congr fun c _ => ?_
    show (!Txt.contains (Str.ofString ".()|*+?") (sg c)) = _
    rw [has_one, ops7]
    simp
  conv at hf => lhs; arg 2; arg 6; whnf
  conv at hf => lhs; arg 1; arg 6; arg 1; whnf
  conv => lhs; arg 6; whnf
  have z : (cs.map fun c => PV.str (sg c)).length ≤ 10000 := by simp; (first | lia | omega)
  have hs : (cs.map fun c => PV.str (sg c)).all simple = true := by rw [List.all_map]; exact List.all_eq_true.mpr fun _ _ => rfl
  have hsc := scope2 (t := "c") (nmI 28) (by decide)
  unfold nm2 at hsc
  have hit : itemsOf (.val (.str (st cs))) = some (cs.map fun c => PV.str (sg c)) := rfl
  simp only [bd_ok, bs_ok, ofOpt_some, i_name, ↓reduceIte, eq_self, and_self, lim, lkv_val, n28x11, e_comp, h0, hit, hs, z, hsc, hf]
end Mine

-- SxL4
namespace Mine
open PySem PyProof.Rows

theorem law_12b (ρ : Loc) (is : List It) (cs : List Nat) (h0 : ρ "spoiled" = some (.val (.str (st cs)))) (h1 : ρ "due" = some (.val (.str (Str.ofString "")))) (h2 : ρ "got" = some (.val (.list (is.map It.v)))) (h3 : ρ "why" = some (.val (.str (Str.ofString "")))) (hl : is.length ≤ 5000) (hl2 : cs.length ≤ 300) (hc : is.filterMap chrI = cs.filter fun c => c ∉ [46, 40, 41, 124, 42, 43, 63]) :
    px GG (CC 6) [] 87 (nmI 28) ρ (stI 28 12) = ok (.next, ρ) := by
  have c1 := comp1_eq ρ is h2 hl
  have c2 := comp2_eq ρ cs h0 (by (first | lia | omega))
  conv at c1 => lhs; arg 6; whnf
  conv at c2 => lhs; arg 6; whnf
  have hb : (Str.ofString "" != Str.ofString "") = false := bne_self_eq_false _
  have tl := type_list (is.map It.v)
  have s1 := strs_map It.g is
  have s2 := strs_map sg (cs.filter fun c => c ∉ [46, 40, 41, 124, 42, 43, 63])
  have k1 : catS (is.map It.g) = st (cs.filter fun c => c ∉ [46, 40, 41, 124, 42, 43, 63]) := by rw [catS_chr, hc]
  have k2 := catS_sg (cs.filter fun c => c ∉ [46, 40, 41, 124, 42, 43, 63])
  have z : (st (cs.filter fun c => c ∉ [46, 40, 41, 124, 42, 43, 63])).length ≤ 10000 := by
    rw [st_len]; have := List.length_filter_le (fun c => decide (c ∉ [46, 40, 41, 124, 42, 43, 63])) cs; (first | lia | omega)
  conv => lhs; arg 7; whnf
  simp only [bd_ok, bs_ok, vd_val, ofOpt_some, c_str, q_is, q_cmp, t_not, t_bool, t_cmp, a_nil', y_or, yo_no, y_if, y_no, pxs_nil, y_cons, y_next, p_ne_s, ne_eq, not_false_eq_true, reduceCtorEq, ↓reduceIte, eq_self, and_self, lim, BEq.rfl, lkv_val, n28x12, n28x13, n28x14, lk28_type, lk28_list, h1, h2, h3, hb, tl, e_join, empty_lit, c1, c2, s1, s2, k1, k2, z, bne_self_eq_false, Bool.not_true]
end Mine

-- SxL5
namespace Mine
open PySem PyProof.Rows

noncomputable def keepT : Tk → Bool
  | .eps => false
  | .amp => false
  | _ => true
theorem keep_eq (t : Tk) : (!(Str.ofString "eps" == t.k || Str.ofString "&" == t.k)) = keepT t := by
  cases t with
  | un u => cases u <;> decide +kernel
  | _ => first | decide +kernel | rfl
theorem V_keep : ∀ (ts : List Tk) (b : Tk), (∀ t ∈ ts, keepT t = true) → (V b ts).filter keepT = ts
  | [], b, _ => by rw [V_nil]; split <;> rfl
  | t :: ts, b, h => by
    rw [V_cons, List.filter_append, List.filter_append, List.filter_cons, h t List.mem_cons_self, if_pos rfl, V_keep ts t fun x hx => h x (List.mem_cons_of_mem _ hx)]
    split <;> split <;> rfl
theorem toks_keep (cs : List Nat) : ∀ t ∈ toks cs, keepT t = true := fun t ht => by
  obtain ⟨c, _, hc⟩ := List.mem_filterMap.mp ht
  have := tok_op_iff hc
  cases t with
  | eps => exact absurd rfl this.2.2.2.2.2.1
  | amp => exact absurd rfl this.2.2.2.2.1
  | _ => rfl
theorem strip {a : Pt} (h : Alts a) : a.j.filter keepT = toks a.x := by
  rw [← alts_joins h, joins_V, V_keep _ _ (toks_keep _)]

noncomputable def comp14 : Expr := testOf (stI 28 14)
noncomputable def keepV : PV → Bool
  | .tup [.str x, _] => !(Str.ofString "eps" == x || Str.ofString "&" == x)
  | _ => false
theorem comp14_eq (ρ : Loc) (ts : List Tk) (h2 : ρ "joined" = some (.val (.list (ts.map Tk.v)))) (hl : ts.length ≤ 5000) : pe GG 84 (CC 6) (nmI 28) ρ comp14 = ok (.val (.list ((ts.filter keepT).map Tk.v))) := by
  have hf : filt (compT GG 83 (relab [(Str.ofString ".0", .local), (Str.ofString "t", .local)] (nmI 28)) ρ (Str.ofString "t") [ifOf comp14]) (compF GG 83 (relab [(Str.ofString ".0", .local), (Str.ofString "t", .local)] (nmI 28)) ρ (Str.ofString "t") (eltOf comp14)) (ts.map Tk.v) = ok ((ts.filter keepT).map Tk.v) := by
    rw [show relab [(Str.ofString ".0", NameKind.local), (Str.ofString "t", .local)] (nmI 28) = nm2 "t" from rfl]
    have := filt_map (T := compT GG 83 (nm2 "t") ρ (Str.ofString "t") [ifOf comp14]) (F := compF GG 83 (nm2 "t") ρ (Str.ofString "t") (eltOf comp14)) keepV (fun d => d) (ts.map Tk.v) (fun d hd => by
      obtain ⟨t, _, rfl⟩ := List.mem_map.mp hd
      have hk2 := look2 (t := "t") (by decide)
      have hl2 := loc2 (t := "t") (ρ := ρ) (d := t.v)
      have hv := v_kind t
      unfold compT evTests
      dsimp only
      conv in pt _ _ _ _ _ _ => arg 6; whnf
      simp only [bd_ok, bs_ok, vd_val, ofOpt_some, c_int, c_str, e_name, e_tup, s_const, evs_nil, evs_cons, vals_nil, vals_cons, q_cmp, t_cmp, odd_lit, bound_local, p_nin_t, ss_nil, ss_cons, List.any_cons, List.any_nil, String.reduceEq, ne_eq, not_false_eq_true, Bool.or_false, reduceCtorEq, ↓reduceIte, Bool.false_eq_true, List.length_cons, List.length_nil, eq_self, Nat.reduceAdd, Nat.reduceLeDiff, lim, hk2, hl2, hv]
      rfl) (fun d hd _ => by
      obtain ⟨t, _, rfl⟩ := List.mem_map.mp hd
      have hk2 := look2 (t := "t") (by decide)
      have hl2 := loc2 (t := "t") (ρ := ρ) (d := t.v)
      unfold compF
      conv in pe _ _ _ _ _ _ => arg 6; whnf
      simp only [bs_ok, vd_val, e_name, odd_lit, bound_local, String.reduceEq, ne_eq, not_false_eq_true, ↓reduceIte, Bool.false_eq_true, eq_self, hk2, hl2]
      rfl)
    rw [this, List.map_id', List.filter_map]
    congr 2
    refine List.filter_congr fun t _ => ?_
    exact keep_eq t
  conv at hf => lhs; arg 2; arg 6; whnf
  conv at hf => lhs; arg 1; arg 6; arg 1; whnf
  conv => lhs; arg 6; whnf
  have z : (ts.map Tk.v).length ≤ 10000 := by simp; (first | lia | omega)
  have hs := all_simple_tk ts
  have hsc := scope2 (t := "t") (nmI 28) (by decide)
  unfold nm2 at hsc
  simp only [bd_ok, bs_ok, ofOpt_some, i_name, ↓reduceIte, eq_self, and_self, lim, lkv_val, n28x8, e_comp, h2, itemsOf, hs, z, hsc, hf]
end Mine

-- SxL6
namespace Mine
open PySem PyProof.Rows

theorem okd_its (is : List It) : ∀ d ∈ is.map It.v, okd 20 d = true := fun d hd => by
  obtain ⟨i, _, rfl⟩ := List.mem_map.mp hd
  exact okd_mono 2 20 _ (by (first | lia | omega)) (okd_it i)
theorem okd_tks (is : List Tk) : ∀ d ∈ is.map Tk.v, okd 20 d = true := fun d hd => by
  obtain ⟨i, _, rfl⟩ := List.mem_map.mp hd
  exact okd_mono 2 20 _ (by (first | lia | omega)) (okd_tk i)
theorem okd_pair (is : List It) (m : Str) : ∀ d ∈ [PV.list (is.map It.v), .str m], okd 20 d = true := fun d hd => by
  simp only [List.mem_cons, List.not_mem_nil, or_false] at hd
  rcases hd with rfl | rfl
  · exact List.all_eq_true.mpr fun d hd => by
      obtain ⟨i, _, rfl⟩ := List.mem_map.mp hd
      exact okd_mono 2 19 _ (by (first | lia | omega)) (okd_it i)
  · rfl

theorem law_13 (a : Pt) (ha : Alts a) (za : a.le 269) (ρ : Loc) (h1 : ρ "text" = some (.val (.str (st a.x)))) (h2 : ρ "post" = some (.val (.list (a.p.map It.v)))) :
    px GG (CC 6) [] 86 (nmI 28) ρ (stI 28 13) = ok (.next, ρ) := by
  obtain ⟨y1, y2, y3⟩ := za
  have ecs : (st a.x).cps.toList = a.x := by simp
  have hr := read_eq 1 (st a.x) (by simp; (first | lia | omega))
  rw [ecs, alts_comp ha] at hr
  have hr : CC 6 (Str.ofString "_law_read") [PV.str (st a.x)] = ok (.tup [.list (a.p.map It.v), .str (Str.ofString "")]) := hr
  have hn := ne_same (okd_pair a.p (Str.ofString ""))
  conv => lhs; arg 7; whnf
  simp only [bd_ok, bs_ok, vd_val, ofOpt_some, c_str, e_call, e_tup, evs_nil, evs_cons, vals_nil, vals_cons, fo14, call_one, q_cmp, t_cmp, y_if, y_no, pxs_nil, p_ne_t, ne_eq, not_false_eq_true, reduceCtorEq, ↓reduceIte, List.length_cons, List.length_nil, eq_self, Nat.reduceAdd, Nat.reduceLeDiff, lim, lkv_val, n28x7, n28x9, lk28_law_read, h1, h2, hr, hn]

theorem law_c (ns : List Int) (a : Pt) (ha : Alts a) (za : a.le 269) (ρ : Loc) (hB : Base ρ ns a) :
    ∃ ρ', pxs GG (CC 6) [] 87 (nmI 28) ρ ((fnI 28).body.drop 13) = pxs GG (CC 6) [] 82 (nmI 28) ρ' ((fnI 28).body.drop 18) ∧ Base ρ' ns a := by
  obtain ⟨⟨a1, a2, a3⟩, hs⟩ := hB
  have h13 := law_13 a ha za ρ a1 a3
  obtain ⟨y1, y2, y3⟩ := za
  have c := comp14_eq ρ a.j a2 (by (first | lia | omega))
  rw [strip ha] at c
  conv at c => lhs; arg 6; whnf
  have hb : (fnI 28).body.drop 13 = [stI 28 13, stI 28 14, stI 28 15, stI 28 16, stI 28 17] ++ (fnI 28).body.drop 18 := by kernel_rfl
  have tl : (toks a.x).length ≤ a.x.length := List.length_filterMap_le _ _
  have z : ((toks a.x).map Tk.v).length ≤ 10000 := by simp; (first | lia | omega)
  have h14 : px GG (CC 6) [] 85 (nmI 28) ρ (stI 28 14) = ok (.next, upd ρ "tokens" (.val (.list ((toks a.x).map Tk.v)))) := by
    conv => lhs; arg 7; whnf
    simp only [bd_ok, con_nil, beq_lit, ic1, ic2, ic3, ic4, ic5, ic6, ic7, ic8, ic9, sw_comp, List.any_cons, List.any_nil, String.reduceEq, Bool.or_false, Bool.true_or, Bool.and_true, decide_false, eq_self, BEq.rfl, asK_val, asF_t, s28x15, c, Bool.not_false]
  have h15 : px GG (CC 6) [] 84 (nmI 28) (upd ρ "tokens" (.val (.list ((toks a.x).map Tk.v)))) (stI 28 15) = ok (.next, upd (upd ρ "tokens" (.val (.list ((toks a.x).map Tk.v)))) "kept" (.val (.list ((toks a.x).map Tk.v)))) := by
    conv => lhs; arg 7; whnf
    simp only [bd_ok, e_call, fn_list, upd_same, con_nil, ic1, ic2, ic3, ic4, ic5, ic6, ic7, ic8, ic9, ↓reduceIte, eq_self, lim, lkv_val, asK_val, asF_f, n28x15, s28x16, lk28_list, z]
  have ecs : (st a.x).cps.toList = a.x := by simp
  have ht := tokens_eq 4 (st a.x) (by simp; (first | lia | omega))
  rw [ecs, tokL_ok a.x 0 ha.allowed] at ht
  have ht : CC 6 (Str.ofString "tokens_of") [PV.str (st a.x)] = ok (.list ((toks a.x).map Tk.v)) := ht
  have hn := ne_same (okd_tks (toks a.x))
  have hnj := ne_same (okd_tks a.j)
  have hj := joins_eq 5 (toks a.x) (by (first | lia | omega))
  rw [alts_joins ha] at hj
  have h16 : px GG (CC 6) [] 83 (nmI 28) (upd (upd ρ "tokens" (.val (.list ((toks a.x).map Tk.v)))) "kept" (.val (.list ((toks a.x).map Tk.v)))) (stI 28 16) = ok (.next, upd (upd ρ "tokens" (.val (.list ((toks a.x).map Tk.v)))) "kept" (.val (.list ((toks a.x).map Tk.v)))) := by
    conv => lhs; arg 7; whnf
    simp only [bd_ok, bs_ok, vd_val, ofOpt_some, e_call, evs_nil, evs_cons, fo1, call_one, q_cmp, t_cmp, y_if, y_no, pxs_nil, upd_same, upd_lit, p_ne_l, String.reduceEq, ne_eq, not_false_eq_true, reduceCtorEq, eq_self, lkv_val, n28x7, n28x15, lk28_tokens_of, a1, ht, hn]
  have h17 : px GG (CC 6) [] 82 (nmI 28) (upd (upd ρ "tokens" (.val (.list ((toks a.x).map Tk.v)))) "kept" (.val (.list ((toks a.x).map Tk.v)))) (stI 28 17) = ok (.next, upd (upd ρ "tokens" (.val (.list ((toks a.x).map Tk.v)))) "kept" (.val (.list ((toks a.x).map Tk.v)))) := by
    conv => lhs; arg 7; whnf
    simp only [bd_ok, bs_ok, vd_val, ofOpt_some, e_call, evs_nil, evs_cons, fo2, call_one, q_cmp, t_bool, t_cmp, a_nil', y_or, yo_no, y_if, y_no, pxs_nil, upd_same, upd_lit, p_ne_l, String.reduceEq, ne_eq, not_false_eq_true, reduceCtorEq, eq_self, lkv_val, n28x8, n28x15, n28x16, lk28_with_joins, a2, hj, hn, hnj]
  have run : pxs GG (CC 6) [] 87 (nmI 28) ρ ((fnI 28).body.drop 13) = pxs GG (CC 6) [] 82 (nmI 28) (upd (upd ρ "tokens" (.val (.list ((toks a.x).map Tk.v)))) "kept" (.val (.list ((toks a.x).map Tk.v)))) ((fnI 28).body.drop 18) := by
    rw [hb]
    generalize (fnI 28).body.drop 18 = rest
    simp only [List.cons_append, List.nil_append]
    rw [pxs_next h13, pxs_next h14, pxs_next h15, pxs_next h16, pxs_next h17]
  refine ⟨_, run, ⟨?_, ?_, ?_⟩, ?_⟩
  · simp only [upd_lit, ne_eq, String.reduceEq, not_false_eq_true, a1]
  · simp only [upd_lit, ne_eq, String.reduceEq, not_false_eq_true, a2]
  · simp only [upd_lit, ne_eq, String.reduceEq, not_false_eq_true, a3]
  · simp only [upd_lit, ne_eq, String.reduceEq, not_false_eq_true, hs]
end Mine

-- SxL7
namespace Mine
open PySem PyProof.Rows

theorem lost_in (t : Tk) (side : Bool) (h : isUnT t = false) : lostL t side ≠ "" ∧ Txt.contains (lostM t side) (lostL t side) = true := by
  cases t with
  | un u => cases h
  | _ => cases side <;> exact ⟨by first | decide +kernel | (show Str.ofString "nothing to work on" ≠ Str.ofString ""; decide +kernel), by first | kernel_rfl | decide +kernel⟩
theorem lost_un (u : U) (side : Bool) : lostL (.un u) side = "" := by cases side <;> rfl

theorem side_of (n : Int) : ∃ side : Bool, n.fmod 2 = if side then 1 else 0 := by
  obtain ⟨j, hj, e⟩ := fmod_nat n (m := 2) (by (first | lia | omega))
  have e : n.fmod 2 = (j : Int) := e
  rcases (by (first | lia | omega) : j = 0 ∨ j = 1) with rfl | rfl
  · exact ⟨false, e⟩
  · exact ⟨true, e⟩
theorem bent_map {α β : Type} (f : α → β) (l : List α) (p : Nat) (side : Bool) : bentL (l.map f) p side = (bentL l p side).map f := by
  unfold bentL; cases side <;> simp

theorem law_d (ns : List Int) (h17 : 17 ≤ ns.length) (a : Pt) (ha : Alts a) (za : a.le 269) (ρ : Loc) (hB : Base ρ ns a) :
    ∃ (p : Nat) (hp : p < a.j.length) (side : Bool) (ρ' : Loc), pxs GG (CC 6) [] 82 (nmI 28) ρ ((fnI 28).body.drop 18) = pxs GG (CC 6) [] 75 (nmI 28) ρ' ((fnI 28).body.drop 25) ∧ Base ρ' ns a ∧
      ρ' "spot" = some (.val (.int p)) ∧ ρ' "side" = some (.val (.int (if side then 1 else 0))) ∧ ρ' "due" = some (.val (.str (lostL a.j[p] side))) ∧
      (match postL (bentL a.j p side) with
      | .ok is => ρ' "got" = some (.val (.list (is.map It.v))) ∧ ρ' "why" = some (.val (.str ""))
      | .error m => ρ' "got" = some (.val .none) ∧ ρ' "why" = some (.val (.str m))) := by
  obtain ⟨⟨a1, a2, a3⟩, hs⟩ := hB
  obtain ⟨y1, y2, y3⟩ := za
  have hb : (fnI 28).body.drop 18 = [stI 28 18, stI 28 19, stI 28 20, stI 28 21, stI 28 22, stI 28 23, stI 28 24] ++ (fnI 28).body.drop 25 := by kernel_rfl
  have q13 : psub (.val (scr ns)) (.int 13) = some (.int ns[13]) := scr_at ns 13 (by (first | lia | omega)) (by (first | lia | omega))
  have q14 : psub (.val (scr ns)) (.int 14) = some (.int ns[14]) := scr_at ns 14 (by (first | lia | omega)) (by (first | lia | omega))
  have hne : 0 < a.j.length := by
    have hv := (post_ok (alts_post ha)).2.1
    cases h : a.j with
    | nil => rw [h] at hv; cases hv
    | cons _ _ => simp
  obtain ⟨p, hp, ep⟩ := fmod_nat ns[13] (m := a.j.length) hne
  obtain ⟨side, es⟩ := side_of ns[14]
  have nz : ((a.j.length : Int) = 0) = False := eq_false (by (first | lia | omega))
  have n2 : ((2 : Int) = 0) = False := by simp
  have zl : (a.j.map Tk.v).length ≤ 10000 := by simp; (first | lia | omega)
  have el : (a.j.map Tk.v).length = a.j.length := by simp
  have zl' : a.j.length ≤ 10000 := by (first | lia | omega)
  have h18 : px GG (CC 6) [] 81 (nmI 28) ρ (stI 28 18) = ok (.next, upd ρ "spot" (.val (.int p))) := by
    conv => lhs; arg 7; whnf
    simp only [bd_ok, vd_val, ofOpt_some, c_int, e_bin, e_call, s_const, fn_len, con_nil, ic1, ic2, ic3, ic4, ic5, ic6, ic7, ic8, ic9, pb_mod, pl_list, ne_eq, not_false_eq_true, ↓reduceIte, eq_self, lim, lkv_val, asK_val, asF_f, n28x0, n28x8, s28x17, lk28_len, hs, a2, q13, el, zl', nz, ep]
  have h19 : px GG (CC 6) [] 80 (nmI 28) (upd ρ "spot" (.val (.int p))) (stI 28 19) = ok (.next, upd (upd ρ "spot" (.val (.int p))) "side" (.val (.int (if side then 1 else 0)))) := by
    conv => lhs; arg 7; whnf
    simp only [bd_ok, vd_val, ofOpt_some, c_int, e_bin, s_const, upd_lit, con_nil, ic1, ic2, ic3, ic4, ic5, ic6, ic7, ic8, ic9, pb_mod, String.reduceEq, ne_eq, not_false_eq_true, eq_self, lkv_val, asK_val, asF_f, n28x0, s28x18, hs, q14, n2, es]
  have hbe := bent_eq 5 (a.j.map Tk.v) p side (by (first | lia | omega))
  rw [bent_map] at hbe
  have h20 : px GG (CC 6) [] 79 (nmI 28) (upd (upd ρ "spot" (.val (.int p))) "side" (.val (.int (if side then 1 else 0)))) (stI 28 20) = ok (.next, (upd (upd (upd ρ "spot" (.val (.int p))) "side" (.val (.int (if side then 1 else 0)))) "bent" (.val (.list ((bentL a.j p side).map Tk.v))))) := by
    conv => lhs; arg 7; whnf
    simp only [bd_ok, e_call, evs_nil, evs_cons, fo13, call_three, upd_same, upd_lit, con_nil, ic1, ic2, ic3, ic4, ic5, ic6, ic7, ic8, ic9, String.reduceEq, ne_eq, not_false_eq_true, eq_self, lkv_val, asK_val, asF_f, n28x8, n28x17, n28x18, s28x19, lk28_law_bent, a2, hbe]
  have h21 : px GG (CC 6) [] 78 (nmI 28) (upd (upd (upd ρ "spot" (.val (.int p))) "side" (.val (.int (if side then 1 else 0)))) "bent" (.val (.list ((bentL a.j p side).map Tk.v)))) (stI 28 21) = ok (.next, (upd (upd (upd (upd ρ "spot" (.val (.int p))) "side" (.val (.int (if side then 1 else 0)))) "bent" (.val (.list ((bentL a.j p side).map Tk.v)))) "kept" (.val (.list ((bentL a.j p side).map Tk.v))))) := by
    conv => lhs; arg 7; whnf
    simp only [bd_ok, e_call, evs_nil, evs_cons, fo13, call_three, upd_same, upd_lit, con_nil, ic1, ic2, ic3, ic4, ic5, ic6, ic7, ic8, ic9, String.reduceEq, ne_eq, not_false_eq_true, eq_self, lkv_val, asK_val, asF_f, n28x8, s28x16, n28x17, n28x18, lk28_law_bent, a2, hbe]
  have hbl : (bentL a.j p side).length ≤ 2000 := by
    unfold bentL; split <;> simp <;> (first | lia | omega)
  have ho := order_eq 2 (bentL a.j p side) hbl
  have hn := ne_same (okd_tks (bentL a.j p side))
  have hsub : psub (.val (.list (a.j.map Tk.v))) (.int p) = some a.j[p].v := sub_list (by simp [hp]) (by (first | lia | omega))
  have hv := v_kind a.j[p]
  have hlo := lost_eq 5 a.j[p] side
  have h22 : ∀ g w, pairL (postL (bentL a.j p side)) = .tup [g, w] → px GG (CC 6) [] 77 (nmI 28) (upd (upd (upd (upd ρ "spot" (.val (.int p))) "side" (.val (.int (if side then 1 else 0)))) "bent" (.val (.list ((bentL a.j p side).map Tk.v)))) "kept" (.val (.list ((bentL a.j p side).map Tk.v)))) (stI 28 22) = ok (.next, (upd (upd (upd (upd (upd (upd ρ "spot" (.val (.int p))) "side" (.val (.int (if side then 1 else 0)))) "bent" (.val (.list ((bentL a.j p side).map Tk.v)))) "kept" (.val (.list ((bentL a.j p side).map Tk.v)))) "got" (.val g)) "why" (.val w))) := fun g w e => by
    rw [e] at ho
    conv => lhs; arg 7; whnf
    simp only [bd_ok, e_call, evs_nil, evs_cons, fo15, call_one, upd_same, upd_lit, con_nil, String.reduceEq, ne_eq, not_false_eq_true, true_or, Bool.and_true, ↓reduceIte, Bool.false_eq_true, eq_self, lkv_val, lk28_got, lk28_why, n28x19, lk28_law_order, ho, x_unp, it1, it2, bind_nil, bind_cons, List.all_cons, List.all_nil, nn1, Bool.not_false]
  have h23 : ∀ g w, px GG (CC 6) [] 76 (nmI 28) (upd (upd (upd (upd (upd (upd ρ "spot" (.val (.int p))) "side" (.val (.int (if side then 1 else 0)))) "bent" (.val (.list ((bentL a.j p side).map Tk.v)))) "kept" (.val (.list ((bentL a.j p side).map Tk.v)))) "got" (.val g)) "why" (.val w)) (stI 28 23) = ok (.next, (upd (upd (upd (upd (upd (upd ρ "spot" (.val (.int p))) "side" (.val (.int (if side then 1 else 0)))) "bent" (.val (.list ((bentL a.j p side).map Tk.v)))) "kept" (.val (.list ((bentL a.j p side).map Tk.v)))) "got" (.val g)) "why" (.val w))) := fun g w => by
    conv => lhs; arg 7; whnf
    simp only [bd_ok, bs_ok, vd_val, ofOpt_some, q_cmp, t_cmp, y_if, y_no, pxs_nil, upd_same, upd_lit, p_ne_l, String.reduceEq, ne_eq, not_false_eq_true, reduceCtorEq, eq_self, lkv_val, n28x16, n28x19, hn]
  have h24 : ∀ g w, px GG (CC 6) [] 75 (nmI 28) (upd (upd (upd (upd (upd (upd ρ "spot" (.val (.int p))) "side" (.val (.int (if side then 1 else 0)))) "bent" (.val (.list ((bentL a.j p side).map Tk.v)))) "kept" (.val (.list ((bentL a.j p side).map Tk.v)))) "got" (.val g)) "why" (.val w)) (stI 28 24) = ok (.next, (upd (upd (upd (upd (upd (upd (upd ρ "spot" (.val (.int p))) "side" (.val (.int (if side then 1 else 0)))) "bent" (.val (.list ((bentL a.j p side).map Tk.v)))) "kept" (.val (.list ((bentL a.j p side).map Tk.v)))) "got" (.val g)) "why" (.val w)) "due" (.val (.str (lostL a.j[p] side))))) := fun g w => by
    conv => lhs; arg 7; whnf
    simp only [bd_ok, vd_val, ofOpt_some, c_int, e_call, s_name, s_const, evs_nil, evs_cons, fo12, call_two, upd_same, upd_lit, con_nil, ic1, ic2, ic3, ic4, ic5, ic6, ic7, ic8, ic9, String.reduceEq, ne_eq, not_false_eq_true, eq_self, lkv_val, asK_val, asF_f, n28x8, s28x12, n28x17, n28x18, lk28_law_lost, a2, hsub, hv, hlo]
  have run : ∀ g w, pairL (postL (bentL a.j p side)) = .tup [g, w] → pxs GG (CC 6) [] 82 (nmI 28) ρ ((fnI 28).body.drop 18) = pxs GG (CC 6) [] 75 (nmI 28) (upd (upd (upd (upd (upd (upd (upd ρ "spot" (.val (.int p))) "side" (.val (.int (if side then 1 else 0)))) "bent" (.val (.list ((bentL a.j p side).map Tk.v)))) "kept" (.val (.list ((bentL a.j p side).map Tk.v)))) "got" (.val g)) "why" (.val w)) "due" (.val (.str (lostL a.j[p] side)))) ((fnI 28).body.drop 25) := fun g w e => by
    rw [hb]
    generalize (fnI 28).body.drop 25 = rest
    simp only [List.cons_append, List.nil_append]
    rw [pxs_next h18, pxs_next h19, pxs_next h20, pxs_next h21, pxs_next (h22 g w e), pxs_next (h23 g w), pxs_next (h24 g w)]
  cases hc : postL (bentL a.j p side) with
  | error m =>
    refine ⟨p, hp, side, _, run .none (.str m) (by rw [hc]; rfl), ⟨⟨?_, ?_, ?_⟩, ?_⟩, ?_, ?_, ?_, ?_⟩
    · simp only [upd_lit, ne_eq, String.reduceEq, not_false_eq_true, a1]
    · simp only [upd_lit, ne_eq, String.reduceEq, not_false_eq_true, a2]
    · simp only [upd_lit, ne_eq, String.reduceEq, not_false_eq_true, a3]
    · simp only [upd_lit, ne_eq, String.reduceEq, not_false_eq_true, hs]
    · simp only [upd_lit, upd_same, ne_eq, String.reduceEq, not_false_eq_true]
    · simp only [upd_lit, upd_same, ne_eq, String.reduceEq, not_false_eq_true]
    · simp only [upd_same]
    · rw [hc]; exact ⟨by simp only [upd_lit, upd_same, ne_eq, String.reduceEq, not_false_eq_true], by simp only [upd_lit, upd_same, ne_eq, String.reduceEq, not_false_eq_true]⟩
  | ok is =>
    refine ⟨p, hp, side, _, run (.list (is.map It.v)) (.str "") (by rw [hc]; rfl), ⟨⟨?_, ?_, ?_⟩, ?_⟩, ?_, ?_, ?_, ?_⟩
    · simp only [upd_lit, ne_eq, String.reduceEq, not_false_eq_true, a1]
    · simp only [upd_lit, ne_eq, String.reduceEq, not_false_eq_true, a2]
    · simp only [upd_lit, ne_eq, String.reduceEq, not_false_eq_true, a3]
    · simp only [upd_lit, ne_eq, String.reduceEq, not_false_eq_true, hs]
    · simp only [upd_lit, upd_same, ne_eq, String.reduceEq, not_false_eq_true]
    · simp only [upd_lit, upd_same, ne_eq, String.reduceEq, not_false_eq_true]
    · simp only [upd_same]
    · rw [hc]; exact ⟨by simp only [upd_lit, upd_same, ne_eq, String.reduceEq, not_false_eq_true], by simp only [upd_lit, upd_same, ne_eq, String.reduceEq, not_false_eq_true]⟩
end Mine

-- SxL8
namespace Mine
open PySem PyProof.Rows

/-- the places of the signs * + ? in a postfix list -/
noncomputable def unIdx (j : Nat) : List It → List Nat
  | [] => []
  | i :: r => if isUnI i then j :: unIdx (j + 1) r else unIdx (j + 1) r
theorem unIdx_at (u : U) (Y : List It) : ∀ (X : List It) (j : Nat), (unIdx j (X ++ .un u :: Y))[X.countP isUnI]? = some (j + X.length)
  | [], j => rfl
  | i :: X, j => by
    have ih := unIdx_at u Y X (j + 1)
    rw [List.cons_append, unIdx, List.countP_cons]
    cases hi : isUnI i with
    | true => simp only [if_true, List.getElem?_cons_succ, ih, List.length_cons]; congr 1; (first | lia | omega)
    | false => simp only [Bool.false_eq_true, if_false, Nat.add_zero, ih, List.length_cons]; congr 1; (first | lia | omega)
noncomputable def unAt (is : List It) : PV → Bool
  | .int i => match is[i.toNat]? with
    | some t => isUnI t
    | none => false
  | _ => false
theorem nums_un (is : List It) : ∀ (r : List It) (j : Nat), (∀ k, is[j + k]? = r[k]?) → (nums j r.length).filter (unAt is) = (unIdx j r).map fun (k : Nat) => PV.int (k : Int)
  | [], j, _ => rfl
  | i :: r, j, h => by
    have ih := nums_un is r (j + 1) (fun k => by rw [show j + 1 + k = j + (k + 1) by (first | lia | omega), h (k + 1)]; rfl)
    have h0 : is[j]? = some i := h 0
    rw [List.length_cons, nums_succ, List.filter_cons, ih, unIdx]
    have e : unAt is (.int (j : Int)) = isUnI i := by
      show (match is[(j : Int).toNat]? with | some t => isUnI t | none => false) = _
      rw [Int.toNat_natCast, h0]
    rw [e]
    split <;> rfl

theorem star_eq (t : Tk) : (Str.ofString "*" == t.k || (Str.ofString "+" == t.k || Str.ofString "?" == t.k)) = isUnT t := by
  cases t with
  | un u => cases u <;> decide +kernel
  | _ => first | decide +kernel | rfl
theorem starI_eq (t : It) : (Str.ofString "star" == t.k || (Str.ofString "plus" == t.k || Str.ofString "opt" == t.k)) = isUnI t := by
  cases t with
  | un u => cases u <;> decide +kernel
  | _ => first | decide +kernel | rfl

noncomputable def comR : Expr := argOf (testOf (nth (elseOf (stI 28 25)) 0))
noncomputable def comS : Expr := testOf (nth (elseOf (stI 28 25)) 1)
noncomputable def starV : PV → Bool
  | .tup [.str x, _] => (Str.ofString "*" == x || (Str.ofString "+" == x || Str.ofString "?" == x))
  | _ => false
theorem comR_eq (ρ : Loc) (ts : List Tk) (p : Nat) (h2 : ρ "joined" = some (.val (.list (ts.map Tk.v)))) (h3 : ρ "spot" = some (.val (.int p))) (hl : ts.length ≤ 5000) : pe GG 69 (CC 6) (nmI 28) ρ comR = ok (.val (.list (((ts.take p).filter isUnT).map Tk.v))) := by
  have hf : filt (compT GG 68 (relab [(Str.ofString ".0", .local), (Str.ofString "t", .local)] (nmI 28)) ρ (Str.ofString "t") [ifOf comR]) (compF GG 68 (relab [(Str.ofString ".0", .local), (Str.ofString "t", .local)] (nmI 28)) ρ (Str.ofString "t") (eltOf comR)) ((ts.map Tk.v).take p) = ok (((ts.take p).filter isUnT).map Tk.v) := by
    rw [show relab [(Str.ofString ".0", NameKind.local), (Str.ofString "t", .local)] (nmI 28) = nm2 "t" from rfl, ← List.map_take]
    have := filt_map (T := compT GG 68 (nm2 "t") ρ (Str.ofString "t") [ifOf comR]) (F := compF GG 68 (nm2 "t") ρ (Str.ofString "t") (eltOf comR)) starV (fun d => d) ((ts.take p).map Tk.v) (fun d hd => by
      obtain ⟨t, _, rfl⟩ := List.mem_map.mp hd
      have hk2 := look2 (t := "t") (by decide)
      have hl2 := loc2 (t := "t") (ρ := ρ) (d := t.v)
      have hv := v_kind t
      unfold compT evTests
      dsimp only
      conv in pt _ _ _ _ _ _ => arg 6; whnf
      simp only [bd_ok, bs_ok, vd_val, ofOpt_some, c_int, c_str, e_name, e_tup, s_const, evs_nil, evs_cons, vals_nil, vals_cons, q_cmp, t_cmp, odd_lit, bound_local, p_in_t, ss_nil, ss_cons, List.any_cons, List.any_nil, String.reduceEq, ne_eq, not_false_eq_true, Bool.or_false, reduceCtorEq, ↓reduceIte, Bool.false_eq_true, List.length_cons, List.length_nil, eq_self, Nat.reduceAdd, Nat.reduceLeDiff, lim, hk2, hl2, hv]
      rfl) (fun d hd _ => by
      obtain ⟨t, _, rfl⟩ := List.mem_map.mp hd
      have hk2 := look2 (t := "t") (by decide)
      have hl2 := loc2 (t := "t") (ρ := ρ) (d := t.v)
      unfold compF
      conv in pe _ _ _ _ _ _ => arg 6; whnf
      simp only [bs_ok, vd_val, e_name, odd_lit, bound_local, String.reduceEq, ne_eq, not_false_eq_true, ↓reduceIte, Bool.false_eq_true, eq_self, hk2, hl2]
      rfl)
    rw [this, List.map_id', List.filter_map]
    congr 2
    refine List.filter_congr fun t _ => ?_
    exact star_eq t
  conv at hf => lhs; arg 2; arg 6; whnf
  conv at hf => lhs; arg 1; arg 6; arg 1; whnf
  conv => lhs; arg 6; whnf
  have z0 : (ts.map Tk.v).length ≤ 10000 := by simp; (first | lia | omega)
  have sl := slice_to (j := p) z0
  have z : ((ts.map Tk.v).take p).length ≤ 10000 := by simp; (first | lia | omega)
  have hs : ((ts.map Tk.v).take p).all simple = true := by rw [← List.map_take]; exact all_simple_tk _
  have hsc := scope2 (t := "t") (nmI 28) (by decide)
  unfold nm2 at hsc
  simp only [bd_ok, bs_ok, vd_val, ofOpt_some, e_to, i_sub, ↓reduceIte, eq_self, and_self, lim, lkv_val, n28x8, n28x17, e_comp, h2, h3, sl, itemsOf, hs, z, hsc, hf]

noncomputable def nm3 : Names := [(Str.ofString ".0", .local), (Str.ofString "i", .local), (Str.ofString "post", .cell)]
theorem relab3 : relab [(Str.ofString ".0", .local), (Str.ofString "i", .local), (Str.ofString "post", .free)] (nmI 28) = nm3 := by kernel_rfl
theorem scope3 : compScopeOk [(Str.ofString ".0", .local), (Str.ofString "i", .local), (Str.ofString "post", .free)] (nmI 28) (Str.ofString "i") = true := by kernel_rfl
theorem look3i : nm3.lookup (Str.ofString "i") = some .local := by kernel_rfl
theorem look3p : nm3.lookup (Str.ofString "post") = some .cell := by kernel_rfl
theorem loc3i {ρ : Loc} {d : PV} : compLoc nm3 ρ (Str.ofString "i") d (Str.ofString "i") = some (.val d) := if_pos rfl
theorem loc3p {ρ : Loc} {d : PV} : compLoc nm3 ρ (Str.ofString "i") d (Str.ofString "post") = ρ (Str.ofString "post") := by
  unfold compLoc
  rw [if_neg (ne_lit (by decide)), if_pos look3p]
theorem nums_mem {d : PV} : ∀ (m j : Nat), d ∈ nums j m → ∃ k : Nat, k < j + m ∧ d = .int (k : Int) := fun m j h => by
  unfold nums at h
  obtain ⟨k, hk, rfl⟩ := List.mem_map.mp h
  rw [List.mem_range'_1] at hk
  exact ⟨k, hk.2, rfl⟩
theorem comS_eq (ρ : Loc) (is : List It) (h2 : ρ "post" = some (.val (.list (is.map It.v)))) (hl : is.length ≤ 5000) : pe GG 70 (CC 6) (nmI 28) ρ comS = ok (.val (.list ((unIdx 0 is).map fun (k : Nat) => PV.int (k : Int)))) := by
  have hf : filt (compT GG 69 (relab [(Str.ofString ".0", .local), (Str.ofString "i", .local), (Str.ofString "post", .free)] (nmI 28)) ρ (Str.ofString "i") [ifOf comS]) (compF GG 69 (relab [(Str.ofString ".0", .local), (Str.ofString "i", .local), (Str.ofString "post", .free)] (nmI 28)) ρ (Str.ofString "i") (eltOf comS)) (nums 0 is.length) = ok ((unIdx 0 is).map fun (k : Nat) => PV.int (k : Int)) := by
    rw [relab3]
    have := filt_map (T := compT GG 69 nm3 ρ (Str.ofString "i") [ifOf comS]) (F := compF GG 69 nm3 ρ (Str.ofString "i") (eltOf comS)) (unAt is) (fun d => d) (nums 0 is.length) (fun d hd => by
      obtain ⟨k, hk, rfl⟩ := nums_mem _ _ hd
      have hk : k < is.length := by (first | lia | omega)
      have hi := loc3i (ρ := ρ) (d := .int (k : Int))
      have hp := loc3p (ρ := ρ) (d := .int (k : Int))
      rw [h2] at hp
      have hsub : psub (.val (.list (is.map It.v))) (.int k) = some is[k].v := sub_list (by simp [hk]) (by (first | lia | omega))
      have hv := i_kind is[k]
      have e : unAt is (.int (k : Int)) = isUnI is[k] := by
        show (match is[(k : Int).toNat]? with | some t => isUnI t | none => false) = _
        rw [Int.toNat_natCast, List.getElem?_eq_getElem hk]
      have hst := starI_eq is[k]
      rw [e]
      unfold compT evTests
      dsimp only
      conv in pt _ _ _ _ _ _ => arg 6; whnf
      simp only [bd_ok, bs_ok, vd_val, ofOpt_some, c_int, c_str, e_name, e_tup, s_name, s_const, evs_nil, evs_cons, vals_nil, vals_cons, q_cmp, t_cmp, odd_lit, bound_local, bound_cell, p_in_t, ss_nil, ss_cons, List.any_cons, List.any_nil, String.reduceEq, ne_eq, not_false_eq_true, Bool.or_false, reduceCtorEq, ↓reduceIte, Bool.false_eq_true, List.length_cons, List.length_nil, eq_self, Nat.reduceAdd, Nat.reduceLeDiff, lim, look3i, look3p, hi, hp, hsub, hv, hst]) (fun d hd _ => by
      obtain ⟨k, hk, rfl⟩ := nums_mem _ _ hd
      have hi := loc3i (ρ := ρ) (d := .int (k : Int))
      unfold compF
      conv in pe _ _ _ _ _ _ => arg 6; whnf
      simp only [bs_ok, vd_val, e_name, odd_lit, bound_local, String.reduceEq, ne_eq, not_false_eq_true, ↓reduceIte, Bool.false_eq_true, eq_self, look3i, hi, simpleElt])
    rw [this, List.map_id', nums_un is is 0 (fun k => by rw [Nat.zero_add])]
  conv at hf => lhs; arg 2; arg 6; whnf
  conv at hf => lhs; arg 1; arg 6; arg 1; whnf
  conv => lhs; arg 6; whnf
  have el : (is.map It.v).length = is.length := by simp
  have zl : is.length ≤ 10000 := by (first | lia | omega)
  have hr := range_nums zl
  have z : (nums 0 is.length).length ≤ 10000 := by unfold nums; simp; (first | lia | omega)
  have hs : (nums 0 is.length).all simple = true := by
    refine List.all_eq_true.mpr fun d hd => ?_
    obtain ⟨k, _, rfl⟩ := nums_mem _ _ hd
    rfl
  simp only [bd_ok, bs_ok, vd_val, ofOpt_some, e_call, fn_len, i_range, pl_list, ↓reduceIte, eq_self, and_self, lim, lkv_val, n28x9, lk28_len, lk28_range, e_comp, h2, el, zl, hr, hs, z, scope3, hf]
end Mine

-- SxL9
namespace Mine
open PySem PyProof.Rows

theorem law_25a (ρ : Loc) (due m : Str) (h1 : ρ "due" = some (.val (.str due))) (h2 : ρ "got" = some (.val .none)) (h3 : ρ "why" = some (.val (.str m))) (hd : due ≠ "") (hc : Txt.contains m due = true) :
    px GG (CC 6) [] 74 (nmI 28) ρ (stI 28 25) = ok (.next, ρ) := by
  conv => lhs; arg 7; whnf
  have hb : (due != Str.ofString "") = true := by simpa using hd
  simp only [bd_ok, bs_ok, vd_val, ofOpt_some, c_str, q_isnot, q_cmp, t_bool, t_cmp, a_nil', y_or, yo_no, y_if, y_yes, y_no, pxs_nil, y_cons, y_next, p_ne_s, p_nin_s, ne_eq, not_false_eq_true, reduceCtorEq, eq_self, lkv_val, n28x12, n28x13, n28x14, h1, h2, h3, hb, hc, Bool.not_true]

theorem law_25b (ρ : Loc) (L : List Tk) (P Q : List It) (p r x : Nat) (side : Bool) (h1 : ρ "due" = some (.val (.str (Str.ofString "")))) (h2 : ρ "got" = some (.val (.list (Q.map It.v)))) (h3 : ρ "why" = some (.val (.str (Str.ofString ""))))
    (h4 : ρ "joined" = some (.val (.list (L.map Tk.v)))) (h5 : ρ "post" = some (.val (.list (P.map It.v)))) (h6 : ρ "spot" = some (.val (.int p))) (h7 : ρ "side" = some (.val (.int (if side then 1 else 0))))
    (hl : L.length ≤ 2000) (hP : P.length ≤ 2000) (hr : (L.take p).countP isUnT = r) (hx : (unIdx 0 P)[r]? = some x) (hq : bentL P x side = Q) :
    px GG (CC 6) [] 74 (nmI 28) ρ (stI 28 25) = ok (.next, upd (upd ρ "rank" (.val (.int r))) "spots" (.val (.list ((unIdx 0 P).map fun (k : Nat) => PV.int (k : Int))))) := by
  have c1 := comR_eq ρ L p h4 h6 (by (first | lia | omega))
  have c2 := comS_eq (upd ρ "rank" (.val (.int r))) P (by simp only [upd_lit, ne_eq, String.reduceEq, not_false_eq_true, h5]) (by (first | lia | omega))
  conv at c1 => lhs; arg 6; whnf
  conv at c2 => lhs; arg 6; whnf
  have el : (((L.take p).filter isUnT).map Tk.v).length = r := by rw [List.length_map, ← List.countP_eq_length_filter, hr]
  have hrl : r ≤ 2000 := by
    rw [← hr]
    exact Nat.le_trans List.countP_le_length (by simp; (first | lia | omega))
  have zr : r ≤ 10000 := by (first | lia | omega)
  have hsub : psub (.val (.list ((unIdx 0 P).map fun (k : Nat) => PV.int (k : Int)))) (.int r) = some (.int x) := sub_list (by rw [List.getElem?_map, hx]; rfl) (by (first | lia | omega))
  have hbe := bent_eq 5 (P.map It.v) x side (by simp; (first | lia | omega))
  rw [bent_map, hq] at hbe
  have hn := ne_same (okd_its Q)
  have hb : (Str.ofString "" != Str.ofString "") = false := bne_self_eq_false _
  conv => lhs; arg 7; whnf
  simp only [bd_ok, bs_ok, vd_val, ofOpt_some, c_str, e_call, s_name, evs_nil, evs_cons, fn_len, fo13, call_three, q_cmp, t_bool, t_cmp, a_nil', y_or, yo_no, y_if, y_no, pxs_nil, y_cons, y_next, upd_same, upd_lit, con_nil, beq_lit, ic1, ic2, ic3, ic4, ic5, ic6, ic7, ic8, ic9, sw_comp, p_ne_s, p_ne_l, pl_list, List.any_cons, List.any_nil, String.reduceEq, ne_eq, not_false_eq_true, Bool.or_false, Bool.true_or, Bool.and_true, reduceCtorEq, ↓reduceIte, decide_false, eq_self, lim, BEq.rfl, lkv_val, asK_val, asF_f, asF_t, n28x9, n28x12, n28x13, n28x14, n28x18, n28x20, s28x20, n28x21, s28x21, lk28_len, lk28_law_bent, h1, h2, h3, h5, h7, hb, c1, el, zr, c2, hsub, hbe, hn, Bool.false_and, Bool.not_false]

theorem law_25 (ns : List Int) (a : Pt) (ha : Alts a) (za : a.le 269) (ρ : Loc) (hB : Base ρ ns a) (p : Nat) (hp : p < a.j.length) (side : Bool)
    (hspot : ρ "spot" = some (.val (.int p))) (hside : ρ "side" = some (.val (.int (if side then 1 else 0)))) (hdue : ρ "due" = some (.val (.str (lostL a.j[p] side))))
    (hg : match postL (bentL a.j p side) with
      | .ok is => ρ "got" = some (.val (.list (is.map It.v))) ∧ ρ "why" = some (.val (.str ""))
      | .error m => ρ "got" = some (.val .none) ∧ ρ "why" = some (.val (.str m))) :
    ∃ ρ', px GG (CC 6) [] 74 (nmI 28) ρ (stI 28 25) = ok (.next, ρ') ∧ Base ρ' ns a := by
  obtain ⟨A, t, B, ej, eA, et⟩ : ∃ A t B, a.j = A ++ t :: B ∧ A.length = p ∧ t = a.j[p] := ⟨a.j.take p, a.j[p], a.j.drop (p + 1), split_at hp, by simp; (first | lia | omega), rfl⟩
  rw [← et] at hdue
  have hpost : postL (A ++ t :: B) = .ok a.p := by rw [← ej]; exact alts_post ha
  have ebent : bentL a.j p side = if side then A ++ t :: t :: B else A ++ B := by rw [ej, ← eA]; exact bent_split side
  obtain ⟨y1, y2, y3⟩ := za
  cases hu : isUnT t with
  | false =>
    rw [ebent, bent_bad hpost hu side] at hg
    obtain ⟨g, w⟩ := hg
    obtain ⟨l1, l2⟩ := lost_in t side hu
    exact ⟨ρ, law_25a ρ _ _ hdue g w l1 l2, hB⟩
  | true =>
    cases t with
    | un u =>
      obtain ⟨X, Y, eP, ec, epost⟩ := bent_un hpost side
      rw [ebent, epost] at hg
      obtain ⟨g, w⟩ := hg
      rw [lost_un] at hdue
      obtain ⟨⟨a1, a2, a3⟩, hs⟩ := hB
      have hr : (a.j.take p).countP isUnT = X.countP isUnI := by rw [ej, ← eA, List.take_left, ec]
      have hx : (unIdx 0 a.p)[X.countP isUnI]? = some X.length := by rw [eP, unIdx_at, Nat.zero_add]
      have hq : bentL a.p X.length side = if side then X ++ .un u :: .un u :: Y else X ++ Y := by rw [eP]; exact bent_split side
      refine ⟨_, law_25b ρ a.j a.p _ p _ _ side hdue g w a2 a3 hspot hside (by (first | lia | omega)) (by (first | lia | omega)) hr hx hq, ⟨?_, ?_, ?_⟩, ?_⟩
      · simp only [upd_lit, ne_eq, String.reduceEq, not_false_eq_true, a1]
      · simp only [upd_lit, ne_eq, String.reduceEq, not_false_eq_true, a2]
      · simp only [upd_lit, ne_eq, String.reduceEq, not_false_eq_true, a3]
      · simp only [upd_lit, ne_eq, String.reduceEq, not_false_eq_true, hs]
    | _ => cases hu
end Mine

-- SxL10
namespace Mine
open PySem PyProof.Rows

noncomputable def signsL : List Str := ["", "a", "z", "0", "9", "`", "{", "/", ":", "ab", "Z", "."]
theorem g_signs : GG "_law_signs" = some (.tup (signsL.map PV.str)) := by kernel_rfl
noncomputable def border (s : Str) : Bool := Str.ofString "a" == s || (Str.ofString "z" == s || (Str.ofString "0" == s || Str.ofString "9" == s))

theorem plain_not (k : Nat) (s : Str) (hl : s.length ≠ 1) (hs : s.length ≤ 10000) : CC (k + 1) "is_plain_sign" [.str s] = ok (.bool false) := by
  have e : pxs GG (CC k) (owned "is_plain_sign") fuel (nmI 7) (bindsOf ["c"] [.str s]) (fnI 7).body = ok (.ret (.val (.bool false)), bindsOf ["c"] [.str s]) := by
    conv => lhs; arg 7; whnf
    have h1 : owned "is_plain_sign" = [] := by kernel_rfl
    have h3 : ((s.length : Int) == 1) = false := by simp; (first | lia | omega)
    simp only [bd_ok, bs_ok, vd_val, ofOpt_some, c_int, e_cmp, e_and, e_call, fn_len, q_cmp, x_ret, y_cons, y_ret, upd_same, p_eq_i, ne_eq, not_false_eq_true, reduceCtorEq, ↓reduceIte, Bool.false_eq_true, eq_self, lim, lkv_val, n7x0, lk7_len, n7x2, h1, h3, hs, fuel, bindsOf, plen]
  refine (pcall_eq (f := "is_plain_sign") (r := .ok (.ret (.val (.bool false)), bindsOf ["c"] [.str s])) (by kernel_rfl) (by kernel_rfl) ?_).trans rfl
  exact e

theorem plain_at (k : Nat) (s : Str) (h : s ∈ signsL) : CC (k + 1) "is_plain_sign" [.str s] = ok (.bool (border s)) := by
  have one : ∀ (s : Str) (c : Nat), s = sg c → decide (c ∈ plainL) = border s → CC (k + 1) "is_plain_sign" [.str s] = ok (.bool (border s)) := fun s c e1 e2 => by
    rw [← e2, e1]; exact is_plain_sg k c
  have other : ∀ s : Str, s.length ≠ 1 → s.length ≤ 10000 → border s = false → CC (k + 1) "is_plain_sign" [.str s] = ok (.bool (border s)) := fun s e1 e2 e3 => by
    rw [e3]; exact plain_not k s e1 e2
  simp only [signsL, List.mem_cons, List.not_mem_nil, or_false] at h
  rcases h with rfl | rfl | rfl | rfl | rfl | rfl | rfl | rfl | rfl | rfl | rfl | rfl
  · exact other _ (by decide +kernel) (by decide +kernel) (by decide +kernel)
  · exact one _ 97 (by kernel_rfl) (by decide +kernel)
  · exact one _ 122 (by kernel_rfl) (by decide +kernel)
  · exact one _ 48 (by kernel_rfl) (by decide +kernel)
  · exact one _ 57 (by kernel_rfl) (by decide +kernel)
  · exact one _ 96 (by kernel_rfl) (by decide +kernel)
  · exact one _ 123 (by kernel_rfl) (by decide +kernel)
  · exact one _ 47 (by kernel_rfl) (by decide +kernel)
  · exact one _ 58 (by kernel_rfl) (by decide +kernel)
  · exact other _ (by decide +kernel) (by decide +kernel) (by decide +kernel)
  · exact one _ 90 (by kernel_rfl) (by decide +kernel)
  · exact one _ 46 (by kernel_rfl) (by decide +kernel)

theorem law_e (ns : List Int) (h17 : 17 ≤ ns.length) (a : Pt) (ρ : Loc) (hB : Base ρ ns a) :
    ∃ ρ', pxs GG (CC 6) [] 74 (nmI 28) ρ ((fnI 28).body.drop 26) = pxs GG (CC 6) [] 70 (nmI 28) ρ' ((fnI 28).body.drop 30) ∧ Base ρ' ns a := by
  obtain ⟨⟨a1, a2, a3⟩, hs⟩ := hB
  have hb : (fnI 28).body.drop 26 = [stI 28 26, stI 28 27, stI 28 28, stI 28 29] ++ (fnI 28).body.drop 30 := by kernel_rfl
  have q15 : psub (.val (scr ns)) (.int 15) = some (.int ns[15]) := scr_at ns 15 (by (first | lia | omega)) (by (first | lia | omega))
  obtain ⟨j, hj, ej⟩ := fmod_nat ns[15] (m := 12) (by (first | lia | omega))
  have ej : ns[15].fmod 12 = (j : Int) := ej
  have n12 : ((12 : Int) = 0) = False := by simp
  have hjl : j < signsL.length := hj
  have hm : signsL[j] ∈ signsL := List.getElem_mem hjl
  have hsub : psub (.val (.tup (signsL.map PV.str))) (.int j) = some (.str signsL[j]) := sub_tup (by simp [hjl]) (by (first | lia | omega))
  generalize signsL[j] = s at hm hsub
  have hp := plain_at 5 s hm
  have hw : (Str.ofString "a" == s || (Str.ofString "z" == s || (Str.ofString "0" == s || Str.ofString "9" == s))) = border s := rfl
  generalize border s = b at hp hw
  have tb := type_bool b
  have h26 : px GG (CC 6) [] 73 (nmI 28) ρ (stI 28 26) = ok (.next, upd ρ "sign" (.val (.str s))) := by
    conv => lhs; arg 7; whnf
    simp only [bd_ok, vd_val, ofOpt_some, c_int, e_bin, s_const, s_bin, con_nil, ic1, ic2, ic3, ic4, ic5, ic6, ic7, ic8, ic9, pb_mod, ne_eq, not_false_eq_true, eq_self, lkv_val, lkg_some, asK_val, asF_f, n28x0, s28x22, n28x42, hs, g_signs, q15, n12, ej, hsub]
  have h27 : px GG (CC 6) [] 72 (nmI 28) (upd ρ "sign" (.val (.str s))) (stI 28 27) = ok (.next, upd (upd ρ "sign" (.val (.str s))) "want" (.val (.bool b))) := by
    conv => lhs; arg 7; whnf
    simp only [bd_ok, bs_ok, vd_val, ofOpt_some, c_str, e_cmp, e_tup, evs_nil, evs_cons, vals_nil, vals_cons, q_cmp, upd_same, con_nil, ic1, ic2, ic3, ic4, ic5, ic6, ic7, ic8, ic9, p_in_t, ss_nil, ss_cons, List.any_cons, List.any_nil, ne_eq, not_false_eq_true, Bool.or_false, reduceCtorEq, ↓reduceIte, List.length_cons, List.length_nil, eq_self, Nat.reduceAdd, Nat.reduceLeDiff, lim, lkv_val, asK_val, asF_f, n28x22, s28x23, hw]
  have h28 : px GG (CC 6) [] 71 (nmI 28) (upd (upd ρ "sign" (.val (.str s))) "want" (.val (.bool b))) (stI 28 28) = ok (.next, upd (upd (upd ρ "sign" (.val (.str s))) "want" (.val (.bool b))) "got" (.val (.bool b))) := by
    conv => lhs; arg 7; whnf
    simp only [bd_ok, e_call, evs_nil, evs_cons, fo0, call_one, upd_same, upd_lit, con_nil, ic1, ic2, ic3, ic4, ic5, ic6, ic7, ic8, ic9, String.reduceEq, ne_eq, not_false_eq_true, eq_self, lkv_val, asK_val, asF_f, s28x13, n28x22, lk28_is_plain_sign, hp]
  have h29 : px GG (CC 6) [] 70 (nmI 28) (upd (upd (upd ρ "sign" (.val (.str s))) "want" (.val (.bool b))) "got" (.val (.bool b))) (stI 28 29) = ok (.next, upd (upd (upd ρ "sign" (.val (.str s))) "want" (.val (.bool b))) "got" (.val (.bool b))) := by
    conv => lhs; arg 7; whnf
    simp only [bd_ok, bs_ok, vd_val, ofOpt_some, q_is, q_cmp, t_not, t_bool, t_cmp, a_nil', y_or, yo_no, y_if, y_no, pxs_nil, upd_same, upd_lit, p_ne_b, String.reduceEq, ne_eq, not_false_eq_true, reduceCtorEq, ↓reduceIte, eq_self, and_self, lkv_val, n28x13, n28x23, lk28_type, lk28_bool, tb, bne_self_eq_false, Bool.not_true]
  have run : pxs GG (CC 6) [] 74 (nmI 28) ρ ((fnI 28).body.drop 26) = pxs GG (CC 6) [] 70 (nmI 28) (upd (upd (upd ρ "sign" (.val (.str s))) "want" (.val (.bool b))) "got" (.val (.bool b))) ((fnI 28).body.drop 30) := by
    rw [hb]
    generalize (fnI 28).body.drop 30 = rest
    simp only [List.cons_append, List.nil_append]
    rw [pxs_next h26, pxs_next h27, pxs_next h28, pxs_next h29]
  refine ⟨_, run, ⟨?_, ?_, ?_⟩, ?_⟩
  · simp only [upd_lit, ne_eq, String.reduceEq, not_false_eq_true, a1]
  · simp only [upd_lit, ne_eq, String.reduceEq, not_false_eq_true, a2]
  · simp only [upd_lit, ne_eq, String.reduceEq, not_false_eq_true, a3]
  · simp only [upd_lit, ne_eq, String.reduceEq, not_false_eq_true, hs]
end Mine

-- SxL11
namespace Mine
open PySem PyProof.Rows

noncomputable def bads : List PV := [.tup [.str "chr", .str "ab"], .list [.str "eps", .str ""], .tup [.str "eps", .str "", .str ""], .tup [.str "chr", .none], .tup [.int 7, .str ""], .tup [.str "star", .str "x"], .tup [.str "cut", .str ""]]
theorem isi_list (ds : List PV) : pisi (.list ds) (Str.ofString "tuple") = some false := by kernel_rfl
theorem isi_none : pisi .none (Str.ofString "str") = some false := by kernel_rfl
theorem isi_int (i : Int) : pisi (.int i) (Str.ofString "str") = some false := by kernel_rfl
theorem pair0 (a b : PV) : psub (.val (.tup [a, b])) (.int 0) = some a := rfl
theorem pair1 (a b : PV) : psub (.val (.tup [a, b])) (.int 1) = some b := rfl
theorem len2 (a b : PV) : plen (.val (.tup [a, b])) = some (.int 2) := rfl
theorem len3 (a b c : PV) : plen (.val (.tup [a, b, c])) = some (.int 3) := rfl

theorem bad_turn (k : Nat) (ρ : Loc) (n : Int) (d : PV) (hd : d ∈ bads) (h1 : ρ "item" = some (.val d)) (h2 : ρ "depth" = some (.val (.int n))) :
    ∃ ρ', pxs GG (CC (k + 1)) [] 97 (nmI 12) ρ (inOf (stI 12 1)) = ok (.ret (.val (.bool false)), ρ') := by
  have n22 : (((2 : Nat) : Int) != 2) = false := by decide
  have n32 : (((3 : Nat) : Int) != 2) = true := by decide
  have hp : CC (k + 1) (Str.ofString "is_plain_sign") [.str (Str.ofString "ab")] = ok (.bool false) := plain_not k "ab" (by decide +kernel) (by decide +kernel)
  have hne : (Str.ofString "x" != Str.ofString "") = true := by decide +kernel
  have e1 := isi_tup
  have e2 := isi_str
  have e3 := isi_list
  have e4 := isi_none
  have e5 := isi_int
  simp only [bads, List.mem_cons, List.not_mem_nil, or_false] at hd
  rcases hd with rfl | rfl | rfl | rfl | rfl | rfl | rfl
  · obtain ⟨ρ2, hpre, r1, r2, r3⟩ := ok_pre (k + 1) ρ (Str.ofString "chr") (Str.ofString "ab") h1
    rw [h2] at r3
    rw [hpre]
    conv in pxs _ _ _ _ _ _ _ => arg 7; arg 1; whnf
    simp only [r1, r2, r3, bd_ok, bs_ok, vd_val, ofOpt_some, c_bool, c_int, c_str, e_call, s_const, evs_nil, evs_cons, fn_len, fn_isi, fo0, call_one, q_cmp, t_not, t_bool, t_cmp, t_call, a_nil', y_or, yo_no, y_if, y_yes, y_no, x_ret, pxs_nil, y_cons, y_next, y_ret, upd_same, upd_lit, con_nil, ic1, ic2, ic3, ic4, ic5, ic6, ic7, ic8, ic9, p_eq_s, p_ne_i, pl_tup, String.reduceEq, ne_eq, not_false_eq_true, reduceCtorEq, ↓reduceIte, List.length_cons, List.length_nil, eq_self, Nat.reduceAdd, Nat.reduceLeDiff, lim, BEq.rfl, lkv_val, asK_val, asF_f, n12x2, n12x3, s12x3, n12x4, s12x4, lk12_isinstance, lk12_tuple, lk12_len, lk12_str, lk12_is_plain_sign, e1, e2, n22, pair0, pair1, hp, Bool.not_true, Bool.not_false]
    exact ⟨_, rfl⟩
  · have q0 : px GG (CC (k + 1)) [] 96 (nmI 12) ρ (inI (stI 12 1) 0) = ok (.ret (.val (.bool false)), ρ) := by
      conv => lhs; arg 7; whnf
      simp only [bd_ok, vd_val, ofOpt_some, c_bool, e_call, fn_isi, t_not, t_bool, t_call, y_or, yo_yes, y_if, y_yes, x_ret, y_cons, y_ret, eq_self, lkv_val, n12x2, lk12_isinstance, lk12_tuple, h1, e3, Bool.not_false]
    rw [in_parts, pxs_ret q0]
    exact ⟨_, rfl⟩
  · have q0 : px GG (CC (k + 1)) [] 96 (nmI 12) ρ (inI (stI 12 1) 0) = ok (.ret (.val (.bool false)), ρ) := by
      conv => lhs; arg 7; whnf
      simp only [bd_ok, bs_ok, vd_val, ofOpt_some, c_bool, c_int, e_call, fn_len, fn_isi, q_cmp, t_not, t_bool, t_cmp, t_call, y_or, yo_yes, yo_no, y_if, y_yes, x_ret, y_cons, y_ret, p_ne_i, pl_tup, ne_eq, not_false_eq_true, reduceCtorEq, ↓reduceIte, List.length_cons, List.length_nil, eq_self, Nat.reduceAdd, Nat.reduceLeDiff, lim, lkv_val, n12x2, lk12_isinstance, lk12_tuple, lk12_len, h1, e1, n32, Bool.not_true]
    rw [in_parts, pxs_ret q0]
    exact ⟨_, rfl⟩
  · have q0 : px GG (CC (k + 1)) [] 96 (nmI 12) ρ (inI (stI 12 1) 0) = ok (.next, ρ) := by
      conv => lhs; arg 7; whnf
      simp only [bd_ok, bs_ok, vd_val, ofOpt_some, c_bool, c_int, e_call, s_const, fn_len, fn_isi, q_cmp, t_not, t_bool, t_cmp, t_call, a_nil', y_or, yo_yes, yo_no, y_if, y_yes, y_no, x_ret, pxs_nil, y_cons, y_next, y_ret, upd_same, upd_lit, con_nil, ic1, ic2, ic3, ic4, ic5, ic6, ic7, ic8, ic9, p_ne_i, pl_tup, String.reduceEq, ne_eq, not_false_eq_true, reduceCtorEq, ↓reduceIte, List.length_cons, List.length_nil, eq_self, Nat.reduceAdd, Nat.reduceLeDiff, lim, lkv_val, asK_val, asF_f, n12x2, n12x3, s12x3, n12x4, s12x4, lk12_isinstance, lk12_tuple, lk12_len, lk12_str, h1, e1, e2, e4, n22, pair0, pair1, Bool.not_true, Bool.not_false]
    have q1 : px GG (CC (k + 1)) [] 95 (nmI 12) ρ (inI (stI 12 1) 1) = ok (.next, upd ρ "kind" (.val (PV.str (Str.ofString "chr")))) := by
      conv => lhs; arg 7; whnf
      simp only [bd_ok, bs_ok, vd_val, ofOpt_some, c_bool, c_int, e_call, s_const, fn_len, fn_isi, q_cmp, t_not, t_bool, t_cmp, t_call, a_nil', y_or, yo_yes, yo_no, y_if, y_yes, y_no, x_ret, pxs_nil, y_cons, y_next, y_ret, upd_same, upd_lit, con_nil, ic1, ic2, ic3, ic4, ic5, ic6, ic7, ic8, ic9, p_ne_i, pl_tup, String.reduceEq, ne_eq, not_false_eq_true, reduceCtorEq, ↓reduceIte, List.length_cons, List.length_nil, eq_self, Nat.reduceAdd, Nat.reduceLeDiff, lim, lkv_val, asK_val, asF_f, n12x2, n12x3, s12x3, n12x4, s12x4, lk12_isinstance, lk12_tuple, lk12_len, lk12_str, h1, e1, e2, e4, n22, pair0, pair1, Bool.not_true, Bool.not_false]
    have q2 : px GG (CC (k + 1)) [] 94 (nmI 12) (upd ρ "kind" (.val (PV.str (Str.ofString "chr")))) (inI (stI 12 1) 2) = ok (.next, upd (upd ρ "kind" (.val (PV.str (Str.ofString "chr")))) "sign" (.val PV.none)) := by
      conv => lhs; arg 7; whnf
      simp only [bd_ok, bs_ok, vd_val, ofOpt_some, c_bool, c_int, e_call, s_const, fn_len, fn_isi, q_cmp, t_not, t_bool, t_cmp, t_call, a_nil', y_or, yo_yes, yo_no, y_if, y_yes, y_no, x_ret, pxs_nil, y_cons, y_next, y_ret, upd_same, upd_lit, con_nil, ic1, ic2, ic3, ic4, ic5, ic6, ic7, ic8, ic9, p_ne_i, pl_tup, String.reduceEq, ne_eq, not_false_eq_true, reduceCtorEq, ↓reduceIte, List.length_cons, List.length_nil, eq_self, Nat.reduceAdd, Nat.reduceLeDiff, lim, lkv_val, asK_val, asF_f, n12x2, n12x3, s12x3, n12x4, s12x4, lk12_isinstance, lk12_tuple, lk12_len, lk12_str, h1, e1, e2, e4, n22, pair0, pair1, Bool.not_true, Bool.not_false]
    have q3 : px GG (CC (k + 1)) [] 93 (nmI 12) (upd (upd ρ "kind" (.val (PV.str (Str.ofString "chr")))) "sign" (.val PV.none)) (inI (stI 12 1) 3) = ok (.ret (.val (.bool false)), upd (upd ρ "kind" (.val (PV.str (Str.ofString "chr")))) "sign" (.val PV.none)) := by
      conv => lhs; arg 7; whnf
      simp only [bd_ok, bs_ok, vd_val, ofOpt_some, c_bool, c_int, e_call, s_const, fn_len, fn_isi, q_cmp, t_not, t_bool, t_cmp, t_call, a_nil', y_or, yo_yes, yo_no, y_if, y_yes, y_no, x_ret, pxs_nil, y_cons, y_next, y_ret, upd_same, upd_lit, con_nil, ic1, ic2, ic3, ic4, ic5, ic6, ic7, ic8, ic9, p_ne_i, pl_tup, String.reduceEq, ne_eq, not_false_eq_true, reduceCtorEq, ↓reduceIte, List.length_cons, List.length_nil, eq_self, Nat.reduceAdd, Nat.reduceLeDiff, lim, lkv_val, asK_val, asF_f, n12x2, n12x3, s12x3, n12x4, s12x4, lk12_isinstance, lk12_tuple, lk12_len, lk12_str, h1, e1, e2, e4, n22, pair0, pair1, Bool.not_true, Bool.not_false]
    rw [in_parts, pxs_next q0, pxs_next q1, pxs_next q2, pxs_ret q3]
    exact ⟨_, rfl⟩
  · have q0 : px GG (CC (k + 1)) [] 96 (nmI 12) ρ (inI (stI 12 1) 0) = ok (.next, ρ) := by
      conv => lhs; arg 7; whnf
      simp only [bd_ok, bs_ok, vd_val, ofOpt_some, c_bool, c_int, e_call, s_const, fn_len, fn_isi, q_cmp, t_not, t_bool, t_cmp, t_call, a_nil', y_or, yo_yes, yo_no, y_if, y_yes, y_no, x_ret, pxs_nil, y_cons, y_next, y_ret, upd_same, upd_lit, con_nil, ic1, ic2, ic3, ic4, ic5, ic6, ic7, ic8, ic9, p_ne_i, pl_tup, String.reduceEq, ne_eq, not_false_eq_true, reduceCtorEq, ↓reduceIte, List.length_cons, List.length_nil, eq_self, Nat.reduceAdd, Nat.reduceLeDiff, lim, lkv_val, asK_val, asF_f, n12x2, n12x3, s12x3, s12x4, lk12_isinstance, lk12_tuple, lk12_len, lk12_str, h1, e1, e5, n22, pair0, pair1, Bool.not_true, Bool.not_false]
    have q1 : px GG (CC (k + 1)) [] 95 (nmI 12) ρ (inI (stI 12 1) 1) = ok (.next, upd ρ "kind" (.val (PV.int 7))) := by
      conv => lhs; arg 7; whnf
      simp only [bd_ok, bs_ok, vd_val, ofOpt_some, c_bool, c_int, e_call, s_const, fn_len, fn_isi, q_cmp, t_not, t_bool, t_cmp, t_call, a_nil', y_or, yo_yes, yo_no, y_if, y_yes, y_no, x_ret, pxs_nil, y_cons, y_next, y_ret, upd_same, upd_lit, con_nil, ic1, ic2, ic3, ic4, ic5, ic6, ic7, ic8, ic9, p_ne_i, pl_tup, String.reduceEq, ne_eq, not_false_eq_true, reduceCtorEq, ↓reduceIte, List.length_cons, List.length_nil, eq_self, Nat.reduceAdd, Nat.reduceLeDiff, lim, lkv_val, asK_val, asF_f, n12x2, n12x3, s12x3, s12x4, lk12_isinstance, lk12_tuple, lk12_len, lk12_str, h1, e1, e5, n22, pair0, pair1, Bool.not_true, Bool.not_false]
    have q2 : px GG (CC (k + 1)) [] 94 (nmI 12) (upd ρ "kind" (.val (PV.int 7))) (inI (stI 12 1) 2) = ok (.next, upd (upd ρ "kind" (.val (PV.int 7))) "sign" (.val (PV.str (Str.ofString "")))) := by
      conv => lhs; arg 7; whnf
      simp only [bd_ok, bs_ok, vd_val, ofOpt_some, c_bool, c_int, e_call, s_const, fn_len, fn_isi, q_cmp, t_not, t_bool, t_cmp, t_call, a_nil', y_or, yo_yes, yo_no, y_if, y_yes, y_no, x_ret, pxs_nil, y_cons, y_next, y_ret, upd_same, upd_lit, con_nil, ic1, ic2, ic3, ic4, ic5, ic6, ic7, ic8, ic9, p_ne_i, pl_tup, String.reduceEq, ne_eq, not_false_eq_true, reduceCtorEq, ↓reduceIte, List.length_cons, List.length_nil, eq_self, Nat.reduceAdd, Nat.reduceLeDiff, lim, lkv_val, asK_val, asF_f, n12x2, n12x3, s12x3, s12x4, lk12_isinstance, lk12_tuple, lk12_len, lk12_str, h1, e1, e5, n22, pair0, pair1, Bool.not_true, Bool.not_false]
    have q3 : px GG (CC (k + 1)) [] 93 (nmI 12) (upd (upd ρ "kind" (.val (PV.int 7))) "sign" (.val (PV.str (Str.ofString "")))) (inI (stI 12 1) 3) = ok (.ret (.val (.bool false)), upd (upd ρ "kind" (.val (PV.int 7))) "sign" (.val (PV.str (Str.ofString "")))) := by
      conv => lhs; arg 7; whnf
      simp only [bd_ok, bs_ok, vd_val, ofOpt_some, c_bool, c_int, e_call, s_const, fn_len, fn_isi, q_cmp, t_not, t_bool, t_cmp, t_call, a_nil', y_or, yo_yes, yo_no, y_if, y_yes, y_no, x_ret, pxs_nil, y_cons, y_next, y_ret, upd_same, upd_lit, con_nil, ic1, ic2, ic3, ic4, ic5, ic6, ic7, ic8, ic9, p_ne_i, pl_tup, String.reduceEq, ne_eq, not_false_eq_true, reduceCtorEq, ↓reduceIte, List.length_cons, List.length_nil, eq_self, Nat.reduceAdd, Nat.reduceLeDiff, lim, lkv_val, asK_val, asF_f, n12x2, n12x3, s12x3, s12x4, lk12_isinstance, lk12_tuple, lk12_len, lk12_str, h1, e1, e5, n22, pair0, pair1, Bool.not_true, Bool.not_false]
    rw [in_parts, pxs_next q0, pxs_next q1, pxs_next q2, pxs_ret q3]
    exact ⟨_, rfl⟩
  · obtain ⟨ρ2, hpre, r1, r2, r3⟩ := ok_pre (k + 1) ρ (Str.ofString "star") (Str.ofString "x") h1
    rw [h2] at r3
    rw [hpre]
    conv in pxs _ _ _ _ _ _ _ => arg 7; arg 1; whnf
    simp only [r1, r2, r3, bd_ok, bs_ok, vd_val, ofOpt_some, c_bool, c_int, c_str, e_call, s_const, fn_len, fn_isi, q_cmp, t_not, t_bool, t_cmp, t_call, a_nil', y_or, yo_no, y_if, y_yes, y_no, x_ret, pxs_nil, y_cons, y_next, y_ret, upd_same, upd_lit, con_nil, beq_lit, ic1, ic2, ic3, ic4, ic5, ic6, ic7, ic8, ic9, p_eq_s, p_ne_s, p_ne_i, pl_tup, String.reduceEq, ne_eq, not_false_eq_true, reduceCtorEq, ↓reduceIte, List.length_cons, List.length_nil, decide_false, eq_self, Nat.reduceAdd, Nat.reduceLeDiff, lim, lkv_val, asK_val, asF_f, n12x2, n12x3, s12x3, n12x4, s12x4, lk12_isinstance, lk12_tuple, lk12_len, lk12_str, e1, e2, n22, pair0, pair1, hne, Bool.not_true]
    exact ⟨_, rfl⟩
  · obtain ⟨ρ2, hpre, r1, r2, r3⟩ := ok_pre (k + 1) ρ (Str.ofString "cut") (Str.ofString "") h1
    rw [h2] at r3
    rw [hpre]
    conv in pxs _ _ _ _ _ _ _ => arg 7; arg 1; whnf
    simp only [r1, r2, r3, bd_ok, bs_ok, vd_val, ofOpt_some, c_bool, c_int, c_str, e_call, e_tup, s_const, evs_nil, evs_cons, vals_nil, vals_cons, fn_len, fn_isi, q_cmp, t_not, t_bool, t_cmp, t_call, a_nil', y_or, yo_no, y_if, y_no, x_ret, pxs_nil, y_cons, y_next, y_ret, upd_same, upd_lit, con_nil, beq_lit, ic1, ic2, ic3, ic4, ic5, ic6, ic7, ic8, ic9, p_eq_s, p_ne_s, p_ne_i, p_in_t, ss_nil, ss_cons, pl_tup, List.any_cons, List.any_nil, String.reduceEq, ne_eq, not_false_eq_true, Bool.or_false, reduceCtorEq, ↓reduceIte, List.length_cons, List.length_nil, decide_false, eq_self, Nat.reduceAdd, Nat.reduceLeDiff, lim, lkv_val, asK_val, asF_f, n12x2, n12x3, s12x3, n12x4, s12x4, lk12_isinstance, lk12_tuple, lk12_len, lk12_str, e1, e2, n22, pair0, pair1, bne_self_eq_false, Bool.not_true]
    exact ⟨_, rfl⟩

theorem front_bad (k : Nat) (pre : List It) (d : PV) (rest : List PV) (hd : d ∈ bads) (hpre : pre = [] ∨ pre = [.eps]) : CC (k + 2) "postfix_ok" [.list (pre.map It.v ++ d :: rest)] = ok (.bool false) := by
  generalize hρ0 : bindsOf (getFn "postfix_ok").params [.list (pre.map It.v ++ d :: rest)] = ρ0
  have r0 : ρ0 "post" = some (.val (.list (pre.map It.v ++ d :: rest))) := by rw [← hρ0]; kernel_rfl
  have hl : ∃ ρ', ploop (onBody (pxs GG (CC (k + 1)) [] 97 (nmI 12)) (inOf (stI 12 1))) "item" (pre.map It.v ++ d :: rest) (upd ρ0 "depth" (.val (.int 0))) = ok (.ret (.val (.bool false)), ρ') := by
    rcases hpre with rfl | rfl
    · obtain ⟨ρ', q⟩ := bad_turn k (upd (upd ρ0 "depth" (.val (.int 0))) "item" (.val d)) 0 d hd (by simp only [upd_same]) (by simp only [upd_lit, upd_same, ne_eq, String.reduceEq, not_false_eq_true])
      exact ⟨ρ', ploop_ret q⟩
    · obtain ⟨ρ1, q1, q2⟩ := ok_turn k (upd (upd ρ0 "depth" (.val (.int 0))) "item" (.val It.eps.v)) 0 .eps (by simp only [upd_same]) (by simp only [upd_lit, upd_same, ne_eq, String.reduceEq, not_false_eq_true])
      obtain ⟨ρ', q⟩ := bad_turn k (upd ρ1 "item" (.val d)) (0 + 1) d hd (by simp only [upd_same]) (by simp only [upd_lit, ne_eq, String.reduceEq, not_false_eq_true, q2])
      exact ⟨ρ', (ploop_cons q1).trans (ploop_ret q)⟩
  obtain ⟨ρ', q⟩ := hl
  refine (pcall_eq (f := "postfix_ok") (r := .ok (.ret (.val (.bool false)), ρ')) (by kernel_rfl) (by kernel_rfl) ?_).trans rfl
  rw [hρ0, fn_12]
  exact (ok_head (k + 1) _ _ ρ0 r0 q).trans rfl

noncomputable def frontsL : List (Bool × List PV) := [(false, [.tup [.str "chr", .str "ab"]]), (false, [.list [.str "eps", .str ""]]), (false, [.tup [.str "eps", .str "", .str ""]]), (false, [.tup [.str "chr", .none]]),
  (false, [.tup [.str "eps", .str ""], .tup [.int 7, .str ""]]), (false, [.tup [.str "eps", .str ""], .tup [.str "star", .str "x"]]), (false, [.tup [.str "eps", .str ""], .tup [.str "cut", .str ""]]),
  (false, [.tup [.str "star", .str ""], .tup [.str "eps", .str ""]]), (false, [.tup [.str "eps", .str ""], .tup [.str "alt", .str ""], .tup [.str "eps", .str ""]]),
  (true, [.tup [.str "any", .str ""], .tup [.str "plus", .str ""]]), (true, [.tup [.str "any", .str ""], .tup [.str "eps", .str ""], .tup [.str "cat", .str ""]]), (true, [.tup [.str "chr", .str "m"]])]
noncomputable def frontV (f : Bool × List PV) : PV := .tup [.bool f.1, .list f.2]
theorem g_fronts : GG "_law_fronts" = some (.tup (frontsL.map frontV)) := by kernel_rfl

theorem rest_ok {P : List It} (h : okList P = true) : okRun 1 (P.drop 1) = some 1 := by
  cases P with
  | nil => cases h
  | cons i r =>
    show okRun 1 r = some 1
    unfold okList at h
    rw [okRun_cons] at h
    have hr : ∀ d, okStep 0 i = some d → d = 1 := fun d hd => by
      cases i <;> simp only [okStep] at hd <;> (try split at hd) <;> first | (cases hd; rfl) | (rename_i q; (first | lia | omega)) | (cases hd; done)
    cases hs : okStep 0 i with
    | none => rw [hs] at h; cases h
    | some d =>
      rw [hs, hr d hs] at h
      dsimp only at h
      cases hq : okRun 1 r with
      | none => rw [hq] at h; cases h
      | some e =>
        rw [hq] at h
        have : e = 1 := by simpa using h
        rw [this]
theorem pre_ok {P pre : List It} (h : okList P = true) (hp : okRun 0 pre = some 1) : okList (pre ++ P.drop 1) = true := by
  unfold okList
  rw [okRun_append, hp]
  dsimp only
  rw [rest_ok h]
  rfl
theorem pre_bad {P pre : List It} (hp : okRun 0 pre = none) : okList (pre ++ P.drop 1) = false := by
  unfold okList
  rw [okRun_append, hp]

theorem front_ok (k : Nat) (P : List It) (hP : okList P = true) (f : Bool × List PV) (hf : f ∈ frontsL) :
    CC (k + 2) "postfix_ok" [.list (f.2 ++ (P.map It.v).drop 1)] = ok (.bool f.1) ∧ f.2.all (okd 20) = true ∧ f.2.length ≤ 3 := by
  have bad : ∀ (pre : List It) (d : PV), d ∈ bads → (pre = [] ∨ pre = [.eps]) → CC (k + 2) "postfix_ok" [.list (pre.map It.v ++ [d] ++ (P.map It.v).drop 1)] = ok (.bool false) := fun pre d hd hpre => by
    rw [List.append_assoc]; exact front_bad k pre d _ hd hpre
  have its : ∀ (pre : List It) (b : Bool), okList (pre ++ P.drop 1) = b → CC (k + 2) "postfix_ok" [.list (pre.map It.v ++ (P.map It.v).drop 1)] = ok (.bool b) := fun pre b e => by
    rw [← e, ← List.map_drop, ← List.map_append]; exact postfix_eq k _
  simp only [frontsL, List.mem_cons, List.not_mem_nil, or_false] at hf
  rcases hf with rfl | rfl | rfl | rfl | rfl | rfl | rfl | rfl | rfl | rfl | rfl | rfl
  · exact ⟨bad [] _ (by simp [bads]) (.inl rfl), by rfl, by decide⟩
  · exact ⟨bad [] _ (by simp [bads]) (.inl rfl), by rfl, by decide⟩
  · exact ⟨bad [] _ (by simp [bads]) (.inl rfl), by rfl, by decide⟩
  · exact ⟨bad [] _ (by simp [bads]) (.inl rfl), by rfl, by decide⟩
  · exact ⟨bad [.eps] _ (by simp [bads]) (.inr rfl), by rfl, by decide⟩
  · exact ⟨bad [.eps] _ (by simp [bads]) (.inr rfl), by rfl, by decide⟩
  · exact ⟨bad [.eps] _ (by simp [bads]) (.inr rfl), by rfl, by decide⟩
  · exact ⟨its [.un .star, .eps] false (pre_bad rfl), by rfl, by decide⟩
  · exact ⟨its [.eps, .alt, .eps] false (pre_bad rfl), by rfl, by decide⟩
  · exact ⟨its [.any, .un .plus] true (pre_ok hP rfl), by rfl, by decide⟩
  · exact ⟨its [.any, .eps, .cat] true (pre_ok hP rfl), by rfl, by decide⟩
  · have e : (It.chr 109).v = .tup [.str "chr", .str "m"] := by kernel_rfl
    have := its [.chr 109] true (pre_ok hP (by kernel_rfl))
    rw [List.map_cons, List.map_nil, e] at this
    exact ⟨this, by rfl, by decide⟩

theorem law_f (ns : List Int) (h17 : 17 ≤ ns.length) (a : Pt) (ha : Alts a) (za : a.le 269) (ρ : Loc) (hB : Base ρ ns a) :
    ∃ ρ', pxs GG (CC 6) [] 70 (nmI 28) ρ ((fnI 28).body.drop 30) = ok (.ret (.val (.bool true)), ρ') := by
  obtain ⟨⟨a1, a2, a3⟩, hs⟩ := hB
  obtain ⟨y1, y2, y3⟩ := za
  have hb : (fnI 28).body.drop 30 = [stI 28 30, stI 28 31, stI 28 32, stI 28 33, stI 28 34, stI 28 35] := by kernel_rfl
  have q16 : psub (.val (scr ns)) (.int 16) = some (.int ns[16]) := scr_at ns 16 (by (first | lia | omega)) (by (first | lia | omega))
  obtain ⟨j, hj, ej⟩ := fmod_nat ns[16] (m := 12) (by (first | lia | omega))
  have ej : ns[16].fmod 12 = (j : Int) := ej
  have n12 : ((12 : Int) = 0) = False := by simp
  have hjl : j < frontsL.length := hj
  have hm : frontsL[j] ∈ frontsL := List.getElem_mem hjl
  have hsub : psub (.val (.tup (frontsL.map frontV))) (.int j) = some (frontV frontsL[j]) := sub_tup (by simp [hjl]) (by (first | lia | omega))
  generalize frontsL[j] = f at hm hsub
  obtain ⟨w, F⟩ := f
  have hsub : psub (.val (.tup (frontsL.map frontV))) (.int j) = some (.tup [.bool w, .list F]) := hsub
  obtain ⟨hok, hall, hlen⟩ := front_ok 4 a.p (post_ok (alts_post ha)).2.2.1 (w, F) hm
  have hok : CC 6 (Str.ofString "postfix_ok") [.list (F ++ (a.p.map It.v).drop 1)] = ok (.bool w) := hok
  have zl : (a.p.map It.v).length ≤ 10000 := by simp; (first | lia | omega)
  have sl : pslice (.list (a.p.map It.v)) (some (.int 1)) none = some (.list ((a.p.map It.v).drop 1)) := slice_from (j := 1) zl
  have hlen : F.length ≤ 3 := hlen
  have zs : F.length + ((a.p.map It.v).drop 1).length ≤ 10000 := by simp; (first | lia | omega)
  have hn : ∀ d ∈ F ++ (a.p.map It.v).drop 1, okd 20 d = true := fun d hd => by
    rcases List.mem_append.mp hd with q | q
    · exact List.all_eq_true.mp hall d q
    · exact okd_its a.p d (List.mem_of_mem_drop q)
  have hn := ne_same hn
  have tb := type_bool w
  generalize (a.p.map It.v).drop 1 = R at hok sl zs hn
  have h30 : px GG (CC 6) [] 69 (nmI 28) ρ (stI 28 30) = ok (.next, upd (upd ρ "want" (.val (.bool w))) "front" (.val (.list F))) := by
    conv => lhs; arg 7; whnf
    simp only [bd_ok, vd_val, ofOpt_some, c_int, e_bin, s_const, s_bin, con_nil, pb_mod, ne_eq, not_false_eq_true, true_or, Bool.and_true, ↓reduceIte, Bool.false_eq_true, eq_self, lkv_val, lkg_some, n28x0, lk28_want, lk28_front, n28x45, hs, g_fronts, q16, n12, ej, hsub, x_unp, it1, it2, bind_nil, bind_cons, List.all_cons, List.all_nil, nn1, Bool.not_false]
  have h31 : px GG (CC 6) [] 68 (nmI 28) (upd (upd ρ "want" (.val (.bool w))) "front" (.val (.list F))) (stI 28 31) = ok (.next, upd (upd (upd ρ "want" (.val (.bool w))) "front" (.val (.list F))) "frame" (.val (.list (F ++ R)))) := by
    conv => lhs; arg 7; whnf
    simp only [bd_ok, vd_val, ofOpt_some, c_int, e_bin, e_from, upd_same, upd_lit, con_nil, ic1, ic2, ic3, ic4, ic5, ic6, ic7, ic8, ic9, pb_app, String.reduceEq, ne_eq, not_false_eq_true, ↓reduceIte, eq_self, lim, lkv_val, asK_val, asF_f, n28x9, n28x24, s28x25, a3, sl, zs]
  have h32 : px GG (CC 6) [] 67 (nmI 28) (upd (upd (upd ρ "want" (.val (.bool w))) "front" (.val (.list F))) "frame" (.val (.list (F ++ R)))) (stI 28 32) = ok (.next, upd (upd (upd (upd ρ "want" (.val (.bool w))) "front" (.val (.list F))) "frame" (.val (.list (F ++ R)))) "kept" (.val (.list (F ++ R)))) := by
    conv => lhs; arg 7; whnf
    simp only [bd_ok, vd_val, ofOpt_some, c_int, e_bin, e_from, upd_same, upd_lit, con_nil, ic1, ic2, ic3, ic4, ic5, ic6, ic7, ic8, ic9, pb_app, String.reduceEq, ne_eq, not_false_eq_true, ↓reduceIte, eq_self, lim, lkv_val, asK_val, asF_f, n28x9, s28x16, n28x24, a3, sl, zs]
  have h33 : px GG (CC 6) [] 66 (nmI 28) (upd (upd (upd (upd ρ "want" (.val (.bool w))) "front" (.val (.list F))) "frame" (.val (.list (F ++ R)))) "kept" (.val (.list (F ++ R)))) (stI 28 33) = ok (.next, upd (upd (upd (upd (upd ρ "want" (.val (.bool w))) "front" (.val (.list F))) "frame" (.val (.list (F ++ R)))) "kept" (.val (.list (F ++ R)))) "got" (.val (.bool w))) := by
    conv => lhs; arg 7; whnf
    simp only [bd_ok, e_call, evs_nil, evs_cons, fo5, call_one, upd_same, upd_lit, con_nil, ic1, ic2, ic3, ic4, ic5, ic6, ic7, ic8, ic9, String.reduceEq, ne_eq, not_false_eq_true, eq_self, lkv_val, asK_val, asF_f, s28x13, n28x25, lk28_postfix_ok, hok]
  have h34 : px GG (CC 6) [] 65 (nmI 28) (upd (upd (upd (upd (upd ρ "want" (.val (.bool w))) "front" (.val (.list F))) "frame" (.val (.list (F ++ R)))) "kept" (.val (.list (F ++ R)))) "got" (.val (.bool w))) (stI 28 34) = ok (.next, upd (upd (upd (upd (upd ρ "want" (.val (.bool w))) "front" (.val (.list F))) "frame" (.val (.list (F ++ R)))) "kept" (.val (.list (F ++ R)))) "got" (.val (.bool w))) := by
    conv => lhs; arg 7; whnf
    simp only [bd_ok, bs_ok, vd_val, ofOpt_some, q_is, q_cmp, t_not, t_bool, t_cmp, a_nil', y_or, yo_no, y_if, y_no, pxs_nil, upd_same, upd_lit, p_ne_b, p_ne_l, String.reduceEq, ne_eq, not_false_eq_true, reduceCtorEq, ↓reduceIte, eq_self, and_self, lkv_val, n28x13, n28x16, n28x23, n28x25, lk28_type, lk28_bool, tb, hn, bne_self_eq_false, Bool.not_true]
  have h35 : ∀ ρ : Loc, px GG (CC 6) [] 64 (nmI 28) ρ (stI 28 35) = ok (.ret (.val (.bool true)), ρ) := fun ρ => by
    conv => lhs; arg 7; whnf
    simp only [bd_ok, c_bool, x_ret, eq_self]
  rw [hb, pxs_next h30, pxs_next h31, pxs_next h32, pxs_next h33, pxs_next h34, pxs_ret (h35 _)]
  exact ⟨_, rfl⟩
end Mine

-- SxL12
namespace Mine
open PySem PyProof.Rows

theorem shRun_len : ∀ (ts : List Tk) (s s' : List It × List O), shRun s ts = .ok s' → s'.1.length + s'.2.length ≤ s.1.length + s.2.length + ts.length
  | [], s, s', h => by cases h; simp
  | t :: ts, s, s', h => by
    rw [shRun_cons] at h
    cases hs : shStep s t with
    | error m => rw [hs] at h; cases h
    | ok s1 =>
      rw [hs] at h
      have h1 := shStep_len hs
      have h2 := shRun_len ts s1 s' h
      rw [List.length_cons]
      (first | lia | omega)
theorem postL_len {ts : List Tk} {P : List It} (h : postL ts = .ok P) : P.length ≤ ts.length := by
  obtain ⟨_, _, _, s, hr, rfl, _⟩ := post_ok h
  have := shRun_len ts _ _ hr
  simpa using this
theorem compL_len {cs : List Nat} {is : List It} (h : compL cs = .ok is) : is.length ≤ 4 * cs.length + 2 := by
  unfold compL at h
  cases ht : tokL 0 cs with
  | error m => rw [ht] at h; cases h
  | ok ts =>
    rw [ht] at h
    have h1 := postL_len h
    have h2 := joins_len ts
    have h3 := tokL_len cs 0 ts ht
    (first | lia | omega)

theorem law_12 (ρ : Loc) (cs : List Nat) (hl : cs.length ≤ 300) (h0 : ρ "spoiled" = some (.val (.str (st cs)))) (h1 : ρ "due" = some (.val (.str (dueL cs)))) (hg : match compL cs with
      | .ok is => ρ "got" = some (.val (.list (is.map It.v))) ∧ ρ "why" = some (.val (.str ""))
      | .error m => ρ "got" = some (.val .none) ∧ ρ "why" = some (.val (.str m))) :
    px GG (CC 6) [] 87 (nmI 28) ρ (stI 28 12) = ok (.next, ρ) := by
  obtain ⟨d1, d2⟩ := due_thm cs
  by_cases hd : dueL cs = ""
  · obtain ⟨is, e, ec⟩ := d2 hd
    have hz := compL_len e
    rw [e] at hg
    obtain ⟨g, w⟩ := hg
    rw [hd] at h1
    exact law_12b ρ is cs h0 h1 g w (by (first | lia | omega)) hl ec
  · obtain ⟨m, e, ec⟩ := d1 hd
    rw [e] at hg
    obtain ⟨g, w⟩ := hg
    exact law_12a ρ _ m h1 g w hd ec

theorem law_short (ns : List Int) (h : ns.length < 17) (ρ : Loc) (hρ : ρ "script" = some (.val (scr ns))) : pxs GG (CC 6) [] (99 + 1) (nmI 28) ρ ((fnI 28).body) = ok (.ret (.val (.bool true)), ρ) := by
  have hb : (fnI 28).body = stI 28 0 :: (fnI 28).body.drop 1 := by kernel_rfl
  have hlen : plen (.val (scr ns)) = some (.int ns.length) := by
    show (if _ then _ else _) = _
    rw [if_pos (by simp [lim]; (first | lia | omega))]
    simp
  have hlt : decide ((ns.length : Int) < 17) = true := by rw [decide_eq_true_eq]; (first | lia | omega)
  have h0 : px GG (CC 6) [] 99 (nmI 28) ρ (stI 28 0) = ok (.ret (.val (.bool true)), ρ) := by
    conv => lhs; arg 7; whnf
    simp only [bd_ok, bs_ok, vd_val, ofOpt_some, c_bool, c_int, e_call, fn_len, q_cmp, t_cmp, y_if, y_yes, x_ret, y_cons, y_ret, p_lt, ne_eq, not_false_eq_true, reduceCtorEq, eq_self, lkv_val, n28x0, lk28_len, hρ, hlen, hlt]
  rw [hb]
  exact pxs_ret h0

theorem law_long (ns : List Int) (h17 : 17 ≤ ns.length) (h63 : ns.length ≤ 63) (ρ : Loc) (hρ : ρ "script" = some (.val (scr ns))) : ∃ ρ', pxs GG (CC 6) [] (99 + 1) (nmI 28) ρ ((fnI 28).body) = ok (.ret (.val (.bool true)), ρ') := by
  obtain ⟨a, ρ1, ha, za, r1, A1, S1⟩ := law_a ns h17 h63 ρ hρ
  obtain ⟨cs, ρ2, hl, r2, B2, sp, du, gg⟩ := law_b1 ns h17 h63 a za ρ1 ⟨A1, S1⟩
  have s12 := law_12 ρ2 cs hl sp du gg
  have e12 : (fnI 28).body.drop 12 = stI 28 12 :: (fnI 28).body.drop 13 := by kernel_rfl
  obtain ⟨ρ3, r3, B3⟩ := law_c ns a ha za ρ2 B2
  obtain ⟨p, hp, side, ρ4, r4, B4, x1, x2, x3, x4⟩ := law_d ns h17 a ha za ρ3 B3
  obtain ⟨ρ5, s25, B5⟩ := law_25 ns a ha za ρ4 B4 p hp side x1 x2 x3 x4
  have e25 : (fnI 28).body.drop 25 = stI 28 25 :: (fnI 28).body.drop 26 := by kernel_rfl
  obtain ⟨ρ6, r6, B6⟩ := law_e ns h17 a ρ5 B5
  obtain ⟨ρ7, r7⟩ := law_f ns h17 a ha za ρ6 B6
  have t12 : pxs GG (CC 6) [] 88 (nmI 28) ρ2 ((fnI 28).body.drop 12) = pxs GG (CC 6) [] 87 (nmI 28) ρ2 ((fnI 28).body.drop 13) := by rw [e12]; exact pxs_next s12
  have t25 : pxs GG (CC 6) [] 75 (nmI 28) ρ4 ((fnI 28).body.drop 25) = pxs GG (CC 6) [] 74 (nmI 28) ρ5 ((fnI 28).body.drop 26) := by rw [e25]; exact pxs_next s25
  exact ⟨ρ7, r1.trans (r2.trans (t12.trans (r3.trans (r4.trans (t25.trans (r6.trans r7))))))⟩

theorem law_all (ns : List Int) (h63 : ns.length ≤ 63) : ∃ ρ', pxs GG (CC 6) [] fuel (getFn "law").names (bindsOf (getFn "law").params [.list (ns.map PV.int)]) (getFn "law").body = some (.ok (.ret (.val (.bool true)), ρ')) := by
  have hρ : (bindsOf (getFn "law").params [.list (ns.map PV.int)]) "script" = some (.val (scr ns)) := by kernel_rfl
  rw [fn_28] at hρ ⊢
  by_cases h : ns.length < 17
  · exact ⟨_, law_short ns h _ hρ⟩
  · exact law_long ns (by (first | lia | omega)) h63 _ hρ
end Mine

namespace Mine
theorem plainLaw : PlainLaw := fun ns h => law_all ns h
end Mine
theorem PySem.Challenge.cw_sx_zquartet_4_holds : PySem.Challenge.rw_sx_zquartet_4.Holds :=
  Mine.holds_of Mine.plainLaw
