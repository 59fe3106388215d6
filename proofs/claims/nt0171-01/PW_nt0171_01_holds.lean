import PyProof.Rows.All
import Wide.All
import OpenK.AllK
import Wide.FinOn
import Lean
import PySem.Challenge.RW_nt0171_01
open PySem PySem.W PySem.Calls PyProof.Rows
set_option Elab.async false
set_option maxRecDepth 100000
set_option linter.unusedVariables false
-- part E1
section
open PySem PySem.W PySem.Calls PyProof.Rows
set_option Elab.async false
set_option maxRecDepth 100000

namespace Mine

noncomputable abbrev Led := List (Addr × Obj)

/-- the values of the small evaluator -/
inductive V where
  | int (i : Int)
  | bool (b : Bool)
  | none
  | str (s : Str)
  | tup (l : List V)
  | list (l : List V)
  | real (m e : Int)
  | fn (a : Addr)

noncomputable abbrev Rho := List (Str × Option V)
noncomputable abbrev Kon := V → Option V
noncomputable abbrev Phi := Str → List V → Kon → Option V

noncomputable def look (ρ : Rho) (x : Str) : Option V := (ρ.lookup x).join
noncomputable def upd (x : Str) (d : V) : Rho → Rho
  | [] => []
  | (y, o) :: r => if y == x then (y, some d) :: r else (y, o) :: upd x d r

noncomputable def bInt (b : Bool) : Int := b2i b
/-- the checks on numbers, kept apart so that the kernel never looks into one on an unknown number -/
structure Ops where
  mulOk : Int → Int → Bool
  divOk : Int → Int → Bool
  shlOk : Int → Int → Bool
  powOk : Int → Int → Bool
noncomputable def mulOkR (a b : Int) : Bool := !(decide (Builtin.Int.intBits a > shortFactorBits) && decide (Builtin.Int.intBits b > shortFactorBits) && Builtin.Int.intTooBig (↑(Builtin.Int.intBits a) + ↑(Builtin.Int.intBits b)))
noncomputable def divOkR (a b : Int) : Bool := !(b == 0) && !Builtin.divisionGoesByPylong a b
noncomputable def shlOkR (a n : Int) : Bool := decide (0 ≤ n) && decide ((Builtin.Int.intBits a : Int) + n ≤ 2 ^ 27)
noncomputable def powOkR (a n : Int) : Bool := decide (0 ≤ n) && decide ((Builtin.Int.intBits a : Int) * n ≤ 2 ^ 27)
noncomputable def opsR : Ops := ⟨mulOkR, divOkR, shlOkR, powOkR⟩

noncomputable def binop (o : Ops) : Operator → V → V → Kon → Option V
  | .Add, .int a, .int b, k => k (.int (a + b))
  | .Sub, .int a, .int b, k => k (.int (a - b))
  | .Sub, .bool a, .bool b, k => k (.int (bInt a - bInt b))
  | .Mult, .int a, .int b, k => if o.mulOk a b then k (.int (a * b)) else none
  | .FloorDiv, .int a, .int b, k => if o.divOk a b then k (.int (a.fdiv b)) else none
  | .Mod, .int a, .int b, k => if b == 0 then none else k (.int (a.fmod b))
  | .LShift, .int a, .int n, k => if o.shlOk a n then k (.int (a * 2 ^ n.toNat)) else none
  | .RShift, .int a, .int n, k => if 0 ≤ n then k (.int (a.fdiv (2 ^ n.toNat))) else none
  | .BitAnd, .int a, .int b, k => k (.int (Builtin.bitAnd a b))
  | .Pow, .int a, .int n, k => if o.powOk a n then k (.int (a ^ n.toNat)) else none
  | _, _, _, _ => none

noncomputable def ints? : List V → Option (List Int)
  | [] => some []
  | .int a :: r => (ints? r).map (a :: ·)
  | _ => none

noncomputable def isNone : V → Bool
  | .none => true
  | _ => false

noncomputable def cmp : CmpOp → V → V → Kon → Option V
  | .Lt, .int a, .int b, k => k (.bool (decide (a < b)))
  | .Gt, .int a, .int b, k => k (.bool (decide (b < a)))
  | .LtE, .int a, .int b, k => k (.bool (decide (a ≤ b)))
  | .GtE, .int a, .int b, k => k (.bool (decide (b ≤ a)))
  | .Eq, .int a, .int b, k => k (.bool (a == b))
  | .NotEq, .int a, .int b, k => k (.bool (!(a == b)))
  | .Is, .none, .none, k => k (.bool true)
  | .Is, .tup _, .none, k => k (.bool false)
  | .Is, .list _, .none, k => k (.bool false)
  | .IsNot, .none, .none, k => k (.bool false)
  | .IsNot, .tup _, .none, k => k (.bool true)
  | .IsNot, .list _, .none, k => k (.bool true)
  | .In, .int a, .tup l, k => match ints? l with
    | some ns => k (.bool (ns.any fun x => x == a))
    | none => none
  | .Eq, .list l, .list r, k => match ints? l, ints? r with
    | some a, some b => k (.bool (decide (a = b)))
    | _, _ => none
  | _, _, _, _ => none

noncomputable def minL : Int → List Int → Int
  | x, [] => x
  | x, y :: r => minL (if y < x then y else x) r
noncomputable def maxL : Int → List Int → Int
  | x, [] => x
  | x, y :: r => maxL (if x < y then y else x) r

inductive Bi where
  | abs | min | max | dm
noncomputable def Bi.id : Bi → String
  | .abs => "abs"
  | .min => "min"
  | .max => "max"
  | .dm => "divmod"
noncomputable def biOf (f : Str) : Option Bi :=
  if f == "abs" then some .abs else if f == "min" then some .min else if f == "max" then some .max else if f == "divmod" then some .dm else none

noncomputable def minOf (l : List V) (k : Kon) : Option V := match ints? l with
  | some (x :: r) => k (.int (minL x r))
  | _ => none
noncomputable def maxOf (l : List V) (k : Kon) : Option V := match ints? l with
  | some (x :: r) => k (.int (maxL x r))
  | _ => none
noncomputable def bcall (o : Ops) : Bi → List V → Kon → Option V
  | .abs, [.int a], k => k (.int (if a < 0 then -a else a))
  | .min, [.list l], k => minOf l k
  | .min, [.tup l], k => minOf l k
  | .max, [.list l], k => maxOf l k
  | .max, [.tup l], k => maxOf l k
  | .max, [.int a, .int b], k => k (.int (if a < b then b else a))
  | .dm, [.int a, .int b], k => if o.divOk a b then k (.tup [.int (a.fdiv b), .int (a.fmod b)]) else none
  | _, _, _ => none

noncomputable def item (l : List V) (i : Int) (k : Kon) : Option V :=
  if -2 ^ 63 ≤ i ∧ i < 2 ^ 63 then match seqIndex? i l.length with
    | some j => match l[j]? with
      | some d => k d
      | none => none
    | none => none
  else none

noncomputable def itemL (l : List V) (i : Int) (k : Kon) : Option V :=
  if 0 ≤ i ∧ i < 2 ^ 63 then match l[i.toNat]? with
    | some d => k d
    | none => none
  else none

structure Cfg where
  φ : Phi
  con : Str → Option Int
  clo : Option (Str × (List V → Option V))
  o : Ops

noncomputable def dEnv (sc : Scope) : Env := { scope := sc, locals := 0, globals := 0, cells := [] }

structure Run where
  ev : Scope → Rho → Expr → Kon → Option V
  tr : Scope → Rho → Expr → (Bool → Option V) → Option V
  ex : Scope → Rho → List Stmt → (Rho → Option V) → Kon → Option V

/-- regular heads, which the kernel compares by their arguments first -/
noncomputable def rEx (r : Run) (sc : Scope) (ρ : Rho) (ss : List Stmt) (kn : Rho → Option V) (kr : Kon) : Option V := r.ex sc ρ ss kn kr
noncomputable def rTr (r : Run) (sc : Scope) (ρ : Rho) (e : Expr) (k : Bool → Option V) : Option V := r.tr sc ρ e k

noncomputable def isStar : Expr → Bool
  | .Starred .. => true
  | _ => false

noncomputable def evs (r : Expr → Kon → Option V) : List Expr → (List V → Option V) → Option V
  | [], k => k []
  | e :: es, k => if isStar e then none else r e fun v => evs r es fun vs => k (v :: vs)

noncomputable def okName (x : Str) : Bool := !(x == "__debug__") && !(x == "__classdict__")
noncomputable def nameV (con : Str → Option Int) (sc : Scope) (ρ : Rho) (x : Str) (k : Kon) : Option V :=
  if okName x then match sc.names.lookup x with
    | some .globalImplicit => match con x with
      | some i => k (.int i)
      | none => none
    | some _ => match look ρ x with
      | some d => k d
      | none => none
    | none => none
  else none

noncomputable def freeRho (sc : Scope) (ρ : Rho) (all : List (Str × NameKind)) : List (Str × NameKind) → Option Rho
  | [] => some []
  | (n, .free) :: r => if all.lookup n == some .free then match sc.names.lookup n with
    | some .cell => match look ρ n with
      | some d => (freeRho sc ρ all r).map ((n, some d) :: ·)
      | none => none
    | _ => none
    else none
  | _ :: r => freeRho sc ρ all r

noncomputable def compOk (scope : Scope) : Bool :=
  scope.names.all (fun y => y.2 != .cell) && scope.kind == .function && scope.names.all fun y => !(y.2 == .local) || scope.names.lookup y.1 == some .local

noncomputable def lcGo (r : Rho → Expr → Kon → Option V) (elt : Expr) (mk : V → Option Rho) : List V → List V → (List V → Option V) → Option V
  | [], acc, k => k acc
  | d :: ds, acc, k => match mk d with
    | some ρ => r ρ elt fun y => lcGo r elt mk ds (acc ++ [y]) k
    | none => none

noncomputable def isName : Expr → Bool
  | .Name .. => true
  | _ => false

noncomputable def isBase : Expr → Bool
  | .BinOp .. => true
  | .Call (.Name ..) (_ :: _) [] _ => true
  | _ => false
noncomputable def isBit (o : Expr) (n : Str) (ap p : Pos) : Bool := n == "bit_length" && isBase o && ap.endLine == p.line

noncomputable def stepEv (c : Cfg) (r : Run) (sc : Scope) (ρ : Rho) : Expr → Kon → Option V
  | .Constant (.int i) _ _, k => k (.int i)
  | .Constant (.bool b) _ _, k => k (.bool b)
  | .Constant .none _ _, k => k .none
  | .Constant (.str s) _ _, k => k (.str s)
  | .Name x _, k => nameV c.con sc ρ x k
  | .BinOp l op e _, k => r.ev sc ρ l fun a => r.ev sc ρ e fun b => binop c.o op a b k
  | .Compare l [op] [e] _, k => if behindInMarks op e then none else r.ev sc ρ l fun a => r.ev sc ρ e fun b => cmp op a b k
  | .BoolOp .And [e] _, k => r.ev sc ρ e k
  | .BoolOp .And (e :: e' :: es) p, k => r.ev sc ρ e fun v => match v with
    | .bool true => r.ev sc ρ (.BoolOp .And (e' :: es) p) k
    | .bool false => k (.bool false)
    | _ => none
  | .BoolOp .Or [e] _, k => r.ev sc ρ e k
  | .BoolOp .Or (e :: e' :: es) p, k => r.ev sc ρ e fun v => match v with
    | .bool true => k (.bool true)
    | .bool false => r.ev sc ρ (.BoolOp .Or (e' :: es) p) k
    | _ => none
  | .UnaryOp .Not e _, k => r.ev sc ρ e fun v => match v with
    | .bool b => k (.bool !b)
    | _ => none
  | .UnaryOp .USub e _, k => r.ev sc ρ e fun v => match v with
    | .int a => k (.int (-a))
    | _ => none
  | .IfExp t b o _, k => r.tr sc ρ t fun x => if x then r.ev sc ρ b k else r.ev sc ρ o k
  | .Tuple es _ _, k => evs (r.ev sc ρ) es fun vs => if vs.length ≤ 1000 then k (.tup vs) else none
  | .List es _, k => evs (r.ev sc ρ) es fun vs => if vs.length ≤ 1000 then k (.list vs) else none
  | .Subscript v (.Constant (.int i) _ _) _, k => r.ev sc ρ v fun a => match a with
    | .tup l => item l i k
    | .list l => itemL l i k
    | _ => none
  | .Attribute (.Name x xp) at' _, k => r.ev sc ρ (.Name x xp) fun a => match a with
    | .real m e => if at' == "mantissa" then k (.int m) else if at' == "exponent" then k (.int e) else none
    | _ => none
  | .Call (.Name f _) (e :: es) [] _, k => if okName f then match sc.names.lookup f with
    | some .globalImplicit => match biOf f with
      | some b => evs (r.ev sc ρ) (e :: es) fun vs => bcall c.o b vs k
      | none => evs (r.ev sc ρ) (e :: es) fun vs => c.φ f vs k
    | some .local => match c.clo with
      | some (x, g) => if x == f then evs (r.ev sc ρ) (e :: es) fun vs => match g vs with
        | some d => k d
        | none => none
        else none
      | none => none
    | _ => none
    else none
  | .Call (.Attribute o n ap) [] [] p, k => if isBit o n ap p then r.ev sc ρ o fun v => match v with
    | .int a => k (.int (Builtin.Int.intBits a))
    | _ => none
    else none
  | .ListComp elt [⟨.Name x _, iter, [], 0⟩] scope _, k => match c.clo with
    | some _ => none
    | none => if isName iter && compOk scope && scope.names.lookup x == some .local then match freeRho sc ρ scope.names scope.names with
      | some fr => r.ev sc ρ iter fun v => match v with
        | .list l => if l.length ≤ 1000 then lcGo (r.ev (relabel scope (dEnv sc))) elt (fun d => some ((x, some d) :: fr)) l [] fun ys => k (.list ys) else none
        | _ => none
      | none => none
      else none
  | .ListComp elt [⟨.Tuple [.Name x _, .Name y _] _ _, iter, [], 0⟩] scope _, k => match c.clo with
    | some _ => none
    | none => if isName iter && compOk scope && scope.names.lookup x == some .local && scope.names.lookup y == some .local && !(x == y) then match freeRho sc ρ scope.names scope.names with
      | some fr => r.ev sc ρ iter fun v => match v with
        | .list l => if l.length ≤ 1000 then lcGo (r.ev (relabel scope (dEnv sc))) elt (fun d => match d with | .tup [a, b] => some ((x, some a) :: (y, some b) :: fr) | _ => none) l [] fun ys => k (.list ys) else none
        | _ => none
      | none => none
      else none
  | _, _ => none

noncomputable def stepTr (r : Run) (sc : Scope) (ρ : Rho) : Expr → (Bool → Option V) → Option V
  | .Compare l [op] [e] _, k => if behindInMarks op e then none else r.ev sc ρ l fun a => r.ev sc ρ e fun b => cmp op a b fun v => match v with
    | .bool c => k c
    | _ => none
  | .BoolOp .And [] _, k => k true
  | .BoolOp .And (e :: es) p, k => r.tr sc ρ e fun x => if x then r.tr sc ρ (.BoolOp .And es p) k else k false
  | .BoolOp .Or [] _, k => k false
  | .BoolOp .Or (e :: es) p, k => r.tr sc ρ e fun x => if x then k true else r.tr sc ρ (.BoolOp .Or es p) k
  | .UnaryOp .Not e _, k => r.tr sc ρ e fun x => k (!x)
  | .Name x p, k => r.ev sc ρ (.Name x p) fun v => match v with
    | .bool c => k c
    | _ => none
  | .Constant (.bool b) _ _, k => k b
  | .Call f as ks p, k => r.ev sc ρ (.Call f as ks p) fun v => match v with
    | .bool c => k c
    | _ => none
  | _, _ => none

noncomputable def sto (c : Cfg) (sc : Scope) (ρ : Rho) (x : Str) (d : V) (k : Rho → Option V) : Option V :=
  if c.clo.any fun q => q.1 == x then none else match ρ.lookup x with
  | none => none
  | some _ => match sc.names.lookup x with
    | some .local => k (upd x d ρ)
    | some .cell => k (upd x d ρ)
    | _ => none

noncomputable def stos (c : Cfg) (sc : Scope) : Rho → List Str → List V → (Rho → Option V) → Option V
  | ρ, [], [], k => k ρ
  | ρ, x :: xs, d :: ds, k => sto c sc ρ x d fun ρ' => stos c sc ρ' xs ds k
  | _, _, _, _ => none

noncomputable def namesOf : List Expr → Option (List Str)
  | [] => some []
  | .Name x _ :: r => (namesOf r).map (x :: ·)
  | _ => none

noncomputable def rangeGo (r : Rho → (Rho → Option V) → Kon → Option V) (x : Str) (kn : Rho → Option V) (kr : Kon) : Nat → Nat → Rho → Option V
  | 0, _, ρ => kn ρ
  | n + 1, i, ρ => if (ρ.lookup x).isSome then r (upd x (.int i) ρ) (fun ρ'' => rangeGo r x kn kr n (i + 1) ρ'') kr else none

noncomputable def whGo (t : Rho → (Bool → Option V) → Option V) (r : Rho → (Rho → Option V) → Kon → Option V) (kn : Rho → Option V) (kr : Kon) : Nat → Rho → Option V
  | 0, _ => none
  | n + 1, ρ => t ρ fun x => if x then r ρ (fun ρ' => whGo t r kn kr n ρ') kr else kn ρ
noncomputable def whFuel : Nat := 64

noncomputable def stepSt (c : Cfg) (r : Run) (sc : Scope) (ρ : Rho) (kn : Rho → Option V) (kr : Kon) : Stmt → Option V
  | .Return (some e) _ => r.ev sc ρ e kr
  | .Assign [.Name x p] e sp => match swapsWith e (some (.Name x p)) sp.line (dEnv sc) with
    | .pure false => r.ev sc ρ e fun v => sto c sc ρ x v kn
    | _ => none
  | .Assign [.Tuple ts kk tp] e sp => match swapsWithSole [.Tuple ts kk tp] e sp.line (dEnv sc), namesOf ts with
    | .pure false, some xs => r.ev sc ρ e fun v => match v with
      | .tup vs => match swappedStores [.Tuple ts kk tp] e (dEnv sc) with
        | .pure none => if vs.length == xs.length then stos c sc ρ xs vs kn else none
        | .pure (some ns) => if vs.length == ns.length then stos c sc ρ ns.reverse vs.reverse kn else none
        | _ => none
      | _ => none
    | _, _ => none
  | .If t b o _ => r.tr sc ρ t fun x => if x then r.ex sc ρ b kn kr else r.ex sc ρ o kn kr
  | .While t b [] _ => whGo (fun ρ' => rTr r sc ρ' t) (fun ρ' => rEx r sc ρ' b) kn kr whFuel ρ
  | .Expr (.Call f as ks p) _ => r.ev sc ρ (.Call f as ks p) fun v => match v with
    | .none => kn ρ
    | _ => none
  | .For (.Name x _) (.Call (.Name f _) [e] [] _) b [] _ => if f == "range" && sc.names.lookup f == some .globalImplicit && sc.names.lookup x == some .local && c.clo.isNone && !isStar e then r.ev sc ρ e fun v => match v with
    | .int n => if 0 ≤ n ∧ n ≤ 100000 then rangeGo (fun ρ' => rEx r sc ρ' b) x kn kr n.toNat 0 ρ else none
    | _ => none
    else none
  | _ => none

noncomputable def stepEx (c : Cfg) (r : Run) (sc : Scope) (ρ : Rho) (ss : List Stmt) (kn : Rho → Option V) (kr : Kon) : Option V := match ss with
  | [] => kn ρ
  | s :: rest => stepSt c r sc ρ (fun ρ' => rEx r sc ρ' rest kn kr) kr s

noncomputable def step (c : Cfg) (r : Run) : Run := ⟨stepEv c r, stepTr r, stepEx c r⟩
noncomputable def bot : Run := ⟨fun _ _ _ _ => none, fun _ _ _ _ => none, fun _ _ _ _ _ => none⟩
noncomputable def run (c : Cfg) (n : Nat) : Run := Nat.rec bot (fun _ r => step c r) n

theorem no {α : Type} {p : Prop} {r : α} (h : (none : Option α) = some r) : p := nomatch h
end Mine

end
-- part E2
section
open PySem PySem.W PySem.Calls PyProof.Rows
set_option Elab.async false
set_option maxRecDepth 100000

namespace Mine

structure Prm where
  prog : Program
  w : World
  K : Frag
  p : Program
  loose : List Str
  mean : ExcName → Option Value
  mg : Str → Option Value
  mb : Str → Option Value
  C : Addr

mutual
inductive Rep (C : Addr) (ns : Led) : Value → V → Prop where
  | int (i : Int) (t : Tok) : Rep C ns (.int i t) (.int i)
  | bool (b : Bool) : Rep C ns (.bool b) (.bool b)
  | none : Rep C ns .none .none
  | str (x : Str) (t : Tok) : Rep C ns (.str x t) (.str x)
  | tup {a : Addr} {vs : Array Value} {n : Nat} {l : List V} : (a, ({ cls := .type "tuple", data := .seq vs n } : Obj)) ∈ ns → Reps C ns vs.toList l → Rep C ns (.ref a) (.tup l)
  | list {a : Addr} {vs : Array Value} {n : Nat} {l : List V} : (a, ({ cls := .type "list", data := .seq vs n } : Obj)) ∈ ns → Reps C ns vs.toList l → Rep C ns (.ref a) (.list l)
  | fn (a : Addr) : Rep C ns (.ref a) (.fn a)
  | real {x dx : Addr} {es : List DictEntry} {n : Nat} {m e : Int} {t u : Tok} : (x, instObj C dx) ∈ ns → (dx, dictOf es n) ∈ ns → getL "mantissa" es = some (some (.int m t)) → getL "exponent" es = some (some (.int e u)) → Rep C ns (.ref x) (.real m e)
inductive Reps (C : Addr) (ns : Led) : List Value → List V → Prop where
  | nil : Reps C ns [] []
  | cons {v : Value} {d : V} {vs : List Value} {ds : List V} : Rep C ns v d → Reps C ns vs ds → Reps C ns (v :: vs) (d :: ds)
end

noncomputable def Sub (a b : Led) : Prop := ∀ p ∈ a, p ∈ b
theorem Sub.rfl {a : Led} : Sub a a := fun _ h => h
theorem Sub.trans {a b c : Led} (h : Sub a b) (k : Sub b c) : Sub a c := fun p hp => k p (h p hp)
theorem Sub.cons {a : Led} {p : Addr × Obj} : Sub a (p :: a) := fun _ h => List.mem_cons_of_mem _ h

mutual
theorem Rep.mono {C : Addr} {a b : Led} (h : Sub a b) : ∀ {v : Value} {d : V}, Rep C a v d → Rep C b v d
  | _, _, .int i t => .int i t
  | _, _, .bool b => .bool b
  | _, _, .none => .none
  | _, _, .str x t => .str x t
  | _, _, .tup hm hr => .tup (h _ hm) (hr.mono h)
  | _, _, .list hm hr => .list (h _ hm) (hr.mono h)
  | _, _, .fn a => .fn a
  | _, _, .real h1 h2 h3 h4 => .real (h _ h1) (h _ h2) h3 h4
theorem Reps.mono {C : Addr} {a b : Led} (h : Sub a b) : ∀ {vs : List Value} {ds : List V}, Reps C a vs ds → Reps C b vs ds
  | _, _, .nil => .nil
  | _, _, .cons x r => .cons (x.mono h) (r.mono h)
end

theorem Reps.length {C : Addr} {a : Led} : ∀ {vs : List Value} {ds : List V}, Reps C a vs ds → vs.length = ds.length
  | _, _, .nil => rfl
  | _, _, .cons _ r => by rw [List.length_cons, List.length_cons, r.length]
theorem Reps.at {C : Addr} {a : Led} : ∀ {vs : List Value} {ds : List V}, Reps C a vs ds → ∀ {j : Nat} {d : V}, ds[j]? = some d → ∃ v, vs[j]? = some v ∧ Rep C a v d
  | _, _, .nil, _, _, h => by simp at h
  | _, _, .cons x r, 0, d, h => by
    simp at h
    subst h
    exact ⟨_, by simp, x⟩
  | _, _, .cons x r, j + 1, d, h => by
    simp at h
    obtain ⟨v, hv, q⟩ := r.at h
    exact ⟨v, by simpa using hv, q⟩
theorem Reps.at' {C : Addr} {a : Led} : ∀ {vs : List Value} {ds : List V}, Reps C a vs ds → ∀ {j : Nat} {v : Value}, vs[j]? = some v → ∃ d, ds[j]? = some d ∧ Rep C a v d
  | _, _, .nil, _, _, h => by simp at h
  | _, _, .cons x r, 0, v, h => by
    simp at h
    subst h
    exact ⟨_, by simp, x⟩
  | _, _, .cons x r, j + 1, v, h => by
    simp at h
    obtain ⟨d, hd, q⟩ := r.at' h
    exact ⟨d, by simpa using hd, q⟩
theorem Reps.append {C : Addr} {a : Led} : ∀ {vs us : List Value} {ds es : List V}, Reps C a vs ds → Reps C a us es → Reps C a (vs ++ us) (ds ++ es)
  | _, _, _, _, .nil, h => h
  | _, _, _, _, .cons x r, h => .cons x (r.append h)
theorem Reps.reverse {C : Addr} {a : Led} : ∀ {vs : List Value} {ds : List V}, Reps C a vs ds → Reps C a vs.reverse ds.reverse
  | _, _, .nil => .nil
  | _, _, .cons x r => by
    rw [List.reverse_cons, List.reverse_cons]
    exact r.reverse.append (.cons x .nil)
theorem Reps.ints {C : Addr} {a : Led} : ∀ {vs : List Value} {ds : List V}, Reps C a vs ds → ∀ {ns : List Int}, ints? ds = some ns → IntsAre vs ns
  | _, _, .nil, ns, h => by
    simp [ints?] at h
    subst h
    exact .nil
  | _, _, .cons x r, ns, h => by
    cases x with
    | int i t =>
      simp only [ints?, Option.map_eq_some_iff] at h
      obtain ⟨l, hl, rfl⟩ := h
      exact .cons _ _ (r.ints hl)
    | bool | none | tup | list | real | str | fn => simp [ints?] at h

structure St (h₀ : Heap) (L : Addr) (h : Heap) (m : Str → Option Value) (hid news : Led) : Prop where
  F : Fr h₀ L h m
  N : News h₀ L h (hid ++ news)
  ap : ∀ p ∈ news, ∀ q ∈ hid, p.1 ≠ q.1

structure Cx (P : Prm) (n : Nat) (A : Around) (h₀ : Heap) (L : Addr) : Prop where
  fr : ∃ (env₀ : Env) (outer : List Env) (A₀ : Around) (base : Heap), A.frames = some (env₀ :: outer) ∧ env₀.frame = some L ∧ env₀.scope.kind = .function ∧ Below A₀ base outer h₀
  X : P.K.In h₀
  T : Top P.p P.loose P.mean P.mg P.mb h₀
  hh : A.handled = none
  hd : A.depth + n < recursionLimit
  hu : A.units + 8 * n + 64 < cLine

noncomputable def NameAt (env : Env) (L : Addr) (m : Str → Option Value) (hid : Led) (x : Str) (v : Value) : Prop :=
  (env.kindOf x = some .local ∧ env.locals = L ∧ m x = some v) ∨
  (∃ c o, (env.kindOf x = some .cell ∨ env.kindOf x = some .free) ∧ env.cells.lookup x = some c ∧ (c, o) ∈ hid ∧ o.data = .cell (some v)) ∨
  (∃ o m₂, env.kindOf x = some .local ∧ (env.locals, o) ∈ hid ∧ LCg.NsObj o m₂ ∧ m₂ x = some v)

noncomputable def Nm (C : Addr) (env : Env) (L : Addr) (m : Str → Option Value) (hid news : Led) (ρ : Rho) : Prop :=
  ∀ x d, look ρ x = some d → ∃ v, NameAt env L m hid x v ∧ Rep C news v d
theorem Nm.mono {C : Addr} {env : Env} {L : Addr} {m : Str → Option Value} {hid news news' : Led} {ρ : Rho} (h : Sub news news') (N : Nm C env L m hid news ρ) : Nm C env L m hid news' ρ :=
  fun x d e => let ⟨v, a, r⟩ := N x d e; ⟨v, a, r.mono h⟩

structure GEnv (env : Env) (sc : Scope) : Prop where
  sc : env.scope = sc
  k : env.scope.kind = .function
  g : env.globals = mainGlobals
  b : env.builtins = builtinsNs

/-- a callee's promise -/
noncomputable def CallOkW (P : Prm) (n : Nat) (a : Addr) (W : Led) (ds : List V) (d : V) : Prop :=
  ∀ (A : Around) (h₀ : Heap) (L : Addr) (m : Str → Option Value) (hid news : Led) (s : Shared) (vs : List Value) (Q : Value → Shared → Prop),
    Cx P n A h₀ L → St h₀ L s.heap m hid news → Sub W news → Reps P.C news vs ds →
    (∀ v news' h' tk', St h₀ L h' m hid news' → Sub news news' → Rep P.C news' v d → Q v { s with heap := h', toks := tk' }) →
    wpAny (model P.prog P.w) A (call (.ref a) vs) Q (fun _ _ => False) s
noncomputable abbrev CallOk (P : Prm) (n : Nat) (a : Addr) (ds : List V) (d : V) : Prop := CallOkW P n a [] ds d

noncomputable def PhiOk (P : Prm) (n : Nat) (φ : Phi) : Prop := ∀ f vs k r, φ f vs k = some r → ∃ d a, k d = some r ∧ nsIn P.K mainGlobals f = some (some (.ref a)) ∧ keepIn P.K (.ref a) = true ∧ CallOk P n a vs d

/-- the one closure that a body may call by a local name -/
noncomputable def CloAt (P : Prm) (n : Nat) (clo : Option (Str × (List V → Option V))) (env : Env) (L : Addr) (m : Str → Option Value) (news : Led) : Prop :=
  ∀ x g, clo = some (x, g) → ∃ a o, m x = some (.ref a) ∧ env.locals = L ∧ (a, o) ∈ news ∧ (∃ fd, o.data = .func fd) ∧ ∃ W, Sub W news ∧ ∀ vs d, g vs = some d → CallOkW P n a W vs d
theorem CloAt.mono {P : Prm} {n : Nat} {clo : Option (Str × (List V → Option V))} {env : Env} {L : Addr} {m : Str → Option Value} {news news' : Led} (h : Sub news news') (c : CloAt P n clo env L m news) : CloAt P n clo env L m news' :=
  fun x g e => let ⟨a, o, h1, h2, h3, h4, W, h5, h6⟩ := c x g e; ⟨a, o, h1, h2, h _ h3, h4, W, h5.trans h, h6⟩

structure ConOk (P : Prm) (c : Cfg) : Prop where
  con : ∀ x i, c.con x = some i → ∃ t, nsIn P.K mainGlobals x = some (some (.int i t))
  o : c.o = opsR

structure PrmOk (P : Prm) : Prop where
  get : ∀ nm, plainGet P.K P.C nm = true
  hd : hasDictIn P.K P.C = true
  fm : findIn P.K (.ref P.C) "mantissa" = some none
  fe : findIn P.K (.ref P.C) "exponent" = some none
  bi : ∀ f b, biOf f = some b → nsIn P.K mainGlobals f = some none ∧ bootBuiltins f = some (.builtin b.id) ∧ f ≠ "__name__"
  rg : nsIn P.K mainGlobals "range" = some none

noncomputable def EvOk (P : Prm) (n : Nat) (c : Cfg) (sc : Scope) (ρ : Rho) (e : Expr) (d : V) : Prop :=
  ∀ (env : Env) (A : Around) (h₀ : Heap) (L : Addr) (m : Str → Option Value) (hid news : Led) (s : Shared) (Q : Value → Shared → Prop),
    GEnv env sc → Cx P n A h₀ L → St h₀ L s.heap m hid news → Nm P.C env L m hid news ρ → CloAt P n c.clo env L m news →
    (∀ v news' h' tk', St h₀ L h' m hid news' → Sub news news' → Rep P.C news' v d → Q v { s with heap := h', toks := tk' }) →
    wpAny (model P.prog P.w) A (eval e env) Q (fun _ _ => False) s
noncomputable def EvsOk (P : Prm) (n : Nat) (c : Cfg) (sc : Scope) (ρ : Rho) (es : List Expr) (ds : List V) : Prop :=
  ∀ (env : Env) (A : Around) (h₀ : Heap) (L : Addr) (m : Str → Option Value) (hid news : Led) (s : Shared) (pos : Pos) (Q : List Value → Shared → Prop),
    GEnv env sc → Cx P n A h₀ L → St h₀ L s.heap m hid news → Nm P.C env L m hid news ρ → CloAt P n c.clo env L m news →
    (∀ vs news' h' tk', St h₀ L h' m hid news' → Sub news news' → Reps P.C news' vs ds → Q vs { s with heap := h', toks := tk' }) →
    wpAny (model P.prog P.w) A (spliced (backTo pos (starEach es env))) Q (fun _ _ => False) s
noncomputable def TrOk (P : Prm) (n : Nat) (c : Cfg) (sc : Scope) (ρ : Rho) (e : Expr) (b : Bool) : Prop :=
  ∀ (env : Env) (A : Around) (h₀ : Heap) (L : Addr) (m : Str → Option Value) (hid news : Led) (s : Shared) (whole : Sem Value) (Q : Bool → Shared → Prop), whole = eval e env ∨ (∃ op es p, e = .BoolOp op es p) →
    GEnv env sc → Cx P n A h₀ L → St h₀ L s.heap m hid news → Nm P.C env L m hid news ρ → CloAt P n c.clo env L m news →
    (∀ news' h' tk', St h₀ L h' m hid news' → Sub news news' → Q b { s with heap := h', toks := tk' }) →
    wpAny (model P.prog P.w) A (isTrue e env whole) Q (fun _ _ => False) s

inductive Out where
  | next (ρ : Rho)
  | ret (d : V)
noncomputable def kont (kn : Rho → Option V) (kr : Kon) : Out → Option V
  | .next ρ => kn ρ
  | .ret d => kr d

/-- what stays of the frame's own cells' ledger -/
noncomputable def Keep (env : Env) (hid hid' : Led) : Prop := ∀ p ∈ hid, (∀ x, env.kindOf x = some .cell → env.cells.lookup x ≠ some p.1) → p ∈ hid'
theorem Keep.rfl {env : Env} {hid : Led} : Keep env hid hid := fun _ h _ => h
theorem Keep.trans {env : Env} {a b c : Led} (h : Keep env a b) (k : Keep env b c) : Keep env a c := fun p hp hn => k p (h p hp hn) hn

structure SEnv (env : Env) (L : Addr) (sc : Scope) : Prop extends GEnv env sc where
  l : env.locals = L
  cn : ∀ x, env.kindOf x = some .cell → ∃ c, env.cells.lookup x = some c
  inj : ∀ x y c, env.cells.lookup x = some c → env.cells.lookup y = some c → x = y

noncomputable def CellsIn (env : Env) (hid : Led) : Prop := ∀ x c, env.cells.lookup x = some c → ∃ o w, (c, o) ∈ hid ∧ o.data = .cell w
structure NmS (C : Addr) (env : Env) (L : Addr) (m : Str → Option Value) (hid news : Led) (ρ : Rho) : Prop where
  nm : Nm C env L m hid news ρ
  ci : CellsIn env hid
theorem NmS.mono {C : Addr} {env : Env} {L : Addr} {m : Str → Option Value} {hid news news' : Led} {ρ : Rho} (h : Sub news news') (N : NmS C env L m hid news ρ) : NmS C env L m hid news' ρ := ⟨N.nm.mono h, N.ci⟩

noncomputable def Post (P : Prm) (n : Nat) (c : Cfg) (env : Env) (h₀ : Heap) (L : Addr) (hid news : Led) (s : Shared) (Q : Flow → Shared → Prop) : Out → Prop
  | .next ρ => ∀ m' hid' news' h' tk', St h₀ L h' m' hid' news' → Sub news news' → Keep env hid hid' → NmS P.C env L m' hid' news' ρ → CloAt P n c.clo env L m' news' → Q .next { s with heap := h', toks := tk' }
  | .ret d => ∀ v m' hid' news' h' tk', St h₀ L h' m' hid' news' → Sub news news' → Keep env hid hid' → Rep P.C news' v d → Q (.ret v) { s with heap := h', toks := tk' }

noncomputable def TreeOk (P : Prm) (n : Nat) (c : Cfg) (sc : Scope) (ρ : Rho) (t : Env → Sem Flow) (o : Out) : Prop :=
  ∀ (env : Env) (A : Around) (h₀ : Heap) (L : Addr) (m : Str → Option Value) (hid news : Led) (s : Shared) (Q : Flow → Shared → Prop),
    SEnv env L sc → Cx P n A h₀ L → St h₀ L s.heap m hid news → NmS P.C env L m hid news ρ → CloAt P n c.clo env L m news →
    Post P n c env h₀ L hid news s Q o → wpAny (model P.prog P.w) A (t env) Q (fun _ _ => False) s
noncomputable abbrev ExOk (P : Prm) (n : Nat) (c : Cfg) (sc : Scope) (ρ : Rho) (ss : List Stmt) (o : Out) : Prop := TreeOk P n c sc ρ (fun env => execs ss env) o
noncomputable abbrev StOk (P : Prm) (n : Nat) (c : Cfg) (sc : Scope) (ρ : Rho) (st : Stmt) (o : Out) : Prop := TreeOk P n c sc ρ (fun env => exec st env) o
noncomputable def WhOk (P : Prm) (n : Nat) (c : Cfg) (sc : Scope) (ρ : Rho) (t : Expr) (b : List Stmt) (o : Out) : Prop :=
  ∀ (env : Env) (A : Around) (h₀ : Heap) (L : Addr) (m : Str → Option Value) (hid news : Led) (s : Shared) (Q : Flow → Shared → Prop) (k : Nat),
    SEnv env L sc → Cx P n A h₀ L → St h₀ L s.heap m hid news → NmS P.C env L m hid news ρ → CloAt P n c.clo env L m news →
    Post P n c env h₀ L hid news s Q o → WhlRest P.prog P.w A (fun _ _ => False) env t b [] Q k s

structure RunOk (P : Prm) (n : Nat) (c : Cfg) (r : Run) : Prop where
  ev : ∀ sc ρ e k res, r.ev sc ρ e k = some res → ∃ d, k d = some res ∧ EvOk P n c sc ρ e d
  tr : ∀ sc ρ e k res, r.tr sc ρ e k = some res → ∃ b, k b = some res ∧ TrOk P n c sc ρ e b
  ex : ∀ sc ρ ss kn kr res, r.ex sc ρ ss kn kr = some res → ∃ o, kont kn kr o = some res ∧ ExOk P n c sc ρ ss o

end Mine

end
-- part E3
section
open PySem PySem.W PySem.Calls PyProof.Rows
set_option Elab.async false
set_option maxRecDepth 100000

namespace Mine

theorem St.alloc {h₀ h' : Heap} {L : Addr} {m : Str → Option Value} {hid news : Led} {a : Addr} {o : Obj} (F : Fr h₀ L h' m) (N : News h₀ L h' ((a, o) :: (hid ++ news))) (ap : ∀ p ∈ news, ∀ q ∈ hid, p.1 ≠ q.1) (new : ∀ q ∈ hid, q.1 ≠ a) :
    St h₀ L h' m hid ((a, o) :: news) := ⟨F, fun p hp => N p (by
    rcases List.mem_append.mp hp with hp | hp
    · exact List.mem_cons_of_mem _ (List.mem_append_left _ hp)
    · rcases List.mem_cons.mp hp with rfl | hp
      · exact .head _
      · exact List.mem_cons_of_mem _ (List.mem_append_right _ hp)), fun p hp q hq => by
    rcases List.mem_cons.mp hp with rfl | hp
    · exact (new q hq).symm
    · exact ap p hp q hq⟩
theorem St.same {h₀ h h' : Heap} {L : Addr} {m : Str → Option Value} {hid news : Led} (S : St h₀ L h m hid news) (F : Fr h₀ L h' m) (N : News h₀ L h' (hid ++ news)) : St h₀ L h' m hid news := ⟨F, N, S.ap⟩
theorem led_lt {h₀ h : Heap} {L : Addr} {news : Led} (N : News h₀ L h news) : ∀ q ∈ news, q.1 ≠ h.objs.size := fun q hq => Nat.ne_of_lt (Heap.lt_size (N q hq).1)

section
variable {P : Prm} {n : Nat} {A : Around} {h₀ : Heap} {L : Addr} {m : Str → Option Value} {hid news : Led} {s : Shared} {Q : Value → Shared → Prop}

/-- the way back that every value rule hands on -/
noncomputable abbrev Back (P : Prm) (h₀ : Heap) (L : Addr) (m : Str → Option Value) (hid news : Led) (s : Shared) (Q : Value → Shared → Prop) (d : V) : Prop :=
  ∀ v news' h' tk', St h₀ L h' m hid news' → Sub news news' → Rep P.C news' v d → Q v { s with heap := h', toks := tk' }

theorem mulOk_spec {a b : Int} (h : mulOkR a b = true) : IntMulOk a b := by
  intro q
  unfold mulOkR at h
  rw [q] at h
  cases h
theorem divOk_spec {a b : Int} (h : divOkR a b = true) : b ≠ 0 ∧ Builtin.divisionGoesByPylong a b = false := by
  unfold divOkR at h
  simp only [Bool.and_eq_true, Bool.not_eq_true', beq_eq_false_iff_ne] at h
  exact h

theorem binop_ok {op : Operator} {a b : V} {k : Kon} {r : V} (h : binop opsR op a b k = some r) :
    ∃ d, k d = some r ∧ ∀ (A : Around) (h₀ : Heap) (L : Addr) (m : Str → Option Value) (hid news : Led) (s : Shared) (Q : Value → Shared → Prop) (x y : Value),
      Cx P n A h₀ L → St h₀ L s.heap m hid news → Rep P.C news x a → Rep P.C news y b → Back P h₀ L m hid news s Q d → wpAny (model P.prog P.w) A (binaryOp op x y) Q (fun _ _ => False) s := by
  unfold binop at h
  cases op with
  | Add =>
    cases a with
    | int a =>
      cases b with
      | int b =>
        dsimp only at h
        exact ⟨_, h, fun A h₀ L m hid news s Q x y X S ra rb back => by cases ra; cases rb; exact PyProof.Rows.add_int (back _ _ _ _ S .rfl (.int ..))⟩
      | _ => exact no h
    | _ => exact no h
  | Sub =>
    cases a with
    | int a =>
      cases b with
      | int b =>
        dsimp only at h
        exact ⟨_, h, fun A h₀ L m hid news s Q x y X S ra rb back => by cases ra; cases rb; exact PyProof.Rows.sub_int (back _ _ _ _ S .rfl (.int ..))⟩
      | _ => exact no h
    | bool a =>
      cases b with
      | bool b =>
        dsimp only at h
        exact ⟨_, h, fun A h₀ L m hid news s Q x y X S ra rb back => by cases ra; cases rb; exact PyProof.Rows.sub_bool (back _ _ _ _ S .rfl (.int ..))⟩
      | _ => exact no h
    | _ => exact no h
  | Mult =>
    cases a with
    | int a =>
      cases b with
      | int b =>
        dsimp only at h
        split at h
        · rename_i hm
          exact ⟨_, h, fun A h₀ L m hid news s Q x y X S ra rb back => by cases ra; cases rb; exact PyProof.Rows.mul_int (back _ _ _ _ S .rfl (.int ..)) (mulOk_spec hm)⟩
        · cases h
      | _ => exact no h
    | _ => exact no h
  | FloorDiv =>
    cases a with
    | int a =>
      cases b with
      | int b =>
        dsimp only at h
        split at h
        · rename_i hm
          exact ⟨_, h, fun A h₀ L m hid news s Q x y X S ra rb back => by cases ra; cases rb; exact PyProof.Rows.floordiv_int (divOk_spec hm).1 (back _ _ _ _ S .rfl (.int ..)) (.inl (divOk_spec hm).2)⟩
        · cases h
      | _ => exact no h
    | _ => exact no h
  | Mod =>
    cases a with
    | int a =>
      cases b with
      | int b =>
        dsimp only at h
        split at h
        · cases h
        · rename_i hm
          exact ⟨_, h, fun A h₀ L m hid news s Q x y X S ra rb back => by cases ra; cases rb; exact PyProof.Rows.mod_int' (by simpa using hm) (back _ _ _ _ S .rfl (.int ..))⟩
      | _ => exact no h
    | _ => exact no h
  | LShift =>
    cases a with
    | int a =>
      cases b with
      | int b =>
        dsimp only at h
        split at h
        · rename_i hm
          replace hm : shlOkR _ _ = true := hm
          unfold shlOkR at hm
          simp only [Bool.and_eq_true, decide_eq_true_eq] at hm
          exact ⟨_, h, fun A h₀ L m hid news s Q x y X S ra rb back => by cases ra; cases rb; exact PyProof.Rows.lshift_int_or X.hh (fun q => by omega) (fun _ => hm.2) (fun _ => back _ _ _ _ S .rfl (.int ..))⟩
        · cases h
      | _ => exact no h
    | _ => exact no h
  | RShift =>
    cases a with
    | int a =>
      cases b with
      | int b =>
        dsimp only at h
        split at h
        · rename_i hm
          exact ⟨_, h, fun A h₀ L m hid news s Q x y X S ra rb back => by cases ra; cases rb; exact PyProof.Rows.rshift_int hm (back _ _ _ _ S .rfl (.int ..))⟩
        · cases h
      | _ => exact no h
    | _ => exact no h
  | BitAnd =>
    cases a with
    | int a =>
      cases b with
      | int b =>
        dsimp only at h
        exact ⟨_, h, fun A h₀ L m hid news s Q x y X S ra rb back => by cases ra; cases rb; exact PyProof.Rows.and_int (back _ _ _ _ S .rfl (.int ..))⟩
      | _ => exact no h
    | _ => exact no h
  | Pow =>
    cases a with
    | int a =>
      cases b with
      | int b =>
        dsimp only at h
        split at h
        · rename_i hm
          replace hm : powOkR _ _ = true := hm
          unfold powOkR at hm
          simp only [Bool.and_eq_true, decide_eq_true_eq] at hm
          exact ⟨_, h, fun A h₀ L m hid news s Q x y X S ra rb back => by cases ra; cases rb; exact PyProof.Rows.pow_int hm.1 hm.2 (back _ _ _ _ S .rfl (.int ..))⟩
        · cases h
      | _ => exact no h
    | _ => exact no h
  | _ => exact no h

theorem St.tupAt (S : St h₀ L s.heap m hid news) {a : Addr} {vs : Array Value} {n : Nat} (hm : (a, ({ cls := .type "tuple", data := .seq vs n } : Obj)) ∈ news) : IsTup s.heap a vs := News.isTup S.N (List.mem_append_right _ hm)
theorem St.listAt (S : St h₀ L s.heap m hid news) {a : Addr} {vs : Array Value} {n : Nat} (hm : (a, ({ cls := .type "list", data := .seq vs n } : Obj)) ∈ news) : s.heap.IsList a vs := News.isList S.N (List.mem_append_right _ hm)

theorem cmp_ok {op : CmpOp} {a b : V} {k : Kon} {r : V} (h : cmp op a b k = some r) :
    ∃ d, k d = some r ∧ ∀ (A : Around) (h₀ : Heap) (L : Addr) (m : Str → Option Value) (hid news : Led) (s : Shared) (Q : Value → Shared → Prop) (x y : Value),
      Cx P n A h₀ L → St h₀ L s.heap m hid news → Rep P.C news x a → Rep P.C news y b → Back P h₀ L m hid news s Q d → wpAny (model P.prog P.w) A (compareOp op x y) Q (fun _ _ => False) s := by
  unfold cmp at h
  cases op with
  | Lt =>
    cases a with
    | int a =>
      cases b with
      | int b =>
        dsimp only at h
        exact ⟨_, h, fun A h₀ L m hid news s Q x y X S ra rb back => by cases ra; cases rb; exact PyProof.Rows.lt_int (back _ _ _ _ S .rfl (.bool ..))⟩
      | _ => exact no h
    | _ => exact no h
  | Gt =>
    cases a with
    | int a =>
      cases b with
      | int b =>
        dsimp only at h
        exact ⟨_, h, fun A h₀ L m hid news s Q x y X S ra rb back => by cases ra; cases rb; exact PyProof.Rows.gt_int (back _ _ _ _ S .rfl (.bool ..))⟩
      | _ => exact no h
    | _ => exact no h
  | LtE =>
    cases a with
    | int a =>
      cases b with
      | int b =>
        dsimp only at h
        exact ⟨_, h, fun A h₀ L m hid news s Q x y X S ra rb back => by cases ra; cases rb; exact PyProof.Rows.le_int (back _ _ _ _ S .rfl (.bool ..))⟩
      | _ => exact no h
    | _ => exact no h
  | GtE =>
    cases a with
    | int a =>
      cases b with
      | int b =>
        dsimp only at h
        exact ⟨_, h, fun A h₀ L m hid news s Q x y X S ra rb back => by cases ra; cases rb; exact PyProof.Rows.ge_int (back _ _ _ _ S .rfl (.bool ..))⟩
      | _ => exact no h
    | _ => exact no h
  | Eq =>
    cases a with
    | int a =>
      cases b with
      | int b =>
        dsimp only at h
        exact ⟨_, h, fun A h₀ L m hid news s Q x y X S ra rb back => by cases ra; cases rb; exact PyProof.Rows.eq_int (back _ _ _ _ S .rfl (.bool ..))⟩
      | _ => exact no h
    | list l =>
      cases b with
      | list r =>
        dsimp only at h
        split at h
        · rename_i ns ms hns hms
          exact ⟨_, h, fun A h₀ L m hid news s Q x y X S ra rb back => by
            cases ra with
            | @list a1 us k1 l1 hm hr =>
              cases rb with
              | @list a2 us' k2 l2 hm' hr' =>
                have e1 : s.heap.IsList a1 us.toList.toArray := by rw [Array.toArray_toList]; exact S.listAt hm
                have e2 : s.heap.IsList a2 us'.toList.toArray := by rw [Array.toArray_toList]; exact S.listAt hm'
                exact eq_intsK e1 (hr.ints hns) e2 (hr'.ints hms) (by have := X.hu; omega) (back _ _ _ _ S .rfl (.bool ..))⟩
        · cases h
      | _ => exact no h
    | _ => exact no h
  | NotEq =>
    cases a with
    | int a =>
      cases b with
      | int b =>
        dsimp only at h
        exact ⟨_, h, fun A h₀ L m hid news s Q x y X S ra rb back => by cases ra; cases rb; exact PyProof.Rows.ne_int (back _ _ _ _ S .rfl (.bool ..))⟩
      | _ => exact no h
    | _ => exact no h
  | Is =>
    cases a with
    | none =>
      cases b with
      | none =>
        dsimp only at h
        exact ⟨_, h, fun A h₀ L m hid news s Q x y X S ra rb back => by cases ra; cases rb; exact is_none_none (back _ _ _ _ S .rfl (.bool ..))⟩
      | _ => exact no h
    | tup l =>
      cases b with
      | none =>
        dsimp only at h
        exact ⟨_, h, fun A h₀ L m hid news s Q x y X S ra rb back => by cases ra; cases rb; exact is_ref_none (back _ _ _ _ S .rfl (.bool ..))⟩
      | _ => exact no h
    | list l =>
      cases b with
      | none =>
        dsimp only at h
        exact ⟨_, h, fun A h₀ L m hid news s Q x y X S ra rb back => by cases ra; cases rb; exact is_ref_none (back _ _ _ _ S .rfl (.bool ..))⟩
      | _ => exact no h
    | _ => exact no h
  | IsNot =>
    cases a with
    | none =>
      cases b with
      | none =>
        dsimp only at h
        exact ⟨_, h, fun A h₀ L m hid news s Q x y X S ra rb back => by cases ra; cases rb; exact isnot_none_none (back _ _ _ _ S .rfl (.bool ..))⟩
      | _ => exact no h
    | tup l =>
      cases b with
      | none =>
        dsimp only at h
        exact ⟨_, h, fun A h₀ L m hid news s Q x y X S ra rb back => by cases ra; cases rb; exact isnot_ref_none (back _ _ _ _ S .rfl (.bool ..))⟩
      | _ => exact no h
    | list l =>
      cases b with
      | none =>
        dsimp only at h
        exact ⟨_, h, fun A h₀ L m hid news s Q x y X S ra rb back => by cases ra; cases rb; exact isnot_ref_none (back _ _ _ _ S .rfl (.bool ..))⟩
      | _ => exact no h
    | _ => exact no h
  | In =>
    cases a with
    | int a =>
      cases b with
      | tup l =>
        dsimp only at h
        split at h
        · rename_i ns hns
          exact ⟨_, h, fun A h₀ L m hid news s Q x y X S ra rb back => by
            cases ra
            cases rb with
            | tup hm hr => exact in_tuple_ints (S.tupAt hm) (hr.ints hns) (back _ _ _ _ S .rfl (.bool ..))⟩
        · cases h
      | _ => exact no h
    | _ => exact no h
  | _ => exact no h

theorem minL_spec : ∀ (l : List Int) (x : Int), minL x l ∈ x :: l ∧ ∀ a ∈ x :: l, minL x l ≤ a
  | [], x => ⟨.head _, fun a ha => by simp at ha; subst ha; exact Int.le_refl _⟩
  | y :: r, x => by
    obtain ⟨h1, h2⟩ := minL_spec r (if y < x then y else x)
    unfold minL
    refine ⟨?_, fun a ha => ?_⟩
    · rcases List.mem_cons.mp h1 with e | e
      · rw [e]; split <;> simp
      · exact List.mem_cons_of_mem _ (List.mem_cons_of_mem _ e)
    · have h0 := h2 _ (.head _)
      have hz : ∀ z, z = (if y < x then y else x) → z ≤ x ∧ z ≤ y := by intro z hz; split at hz <;> omega
      obtain ⟨p, q⟩ := hz _ rfl
      rcases List.mem_cons.mp ha with e | ha
      · rw [e]; exact Int.le_trans h0 p
      · rcases List.mem_cons.mp ha with e | ha
        · rw [e]; exact Int.le_trans h0 q
        · exact h2 _ (List.mem_cons_of_mem _ ha)
theorem maxL_spec : ∀ (l : List Int) (x : Int), maxL x l ∈ x :: l ∧ ∀ a ∈ x :: l, a ≤ maxL x l
  | [], x => ⟨.head _, fun a ha => by simp at ha; subst ha; exact Int.le_refl _⟩
  | y :: r, x => by
    obtain ⟨h1, h2⟩ := maxL_spec r (if x < y then y else x)
    unfold maxL
    refine ⟨?_, fun a ha => ?_⟩
    · rcases List.mem_cons.mp h1 with e | e
      · rw [e]; split <;> simp
      · exact List.mem_cons_of_mem _ (List.mem_cons_of_mem _ e)
    · have h0 := h2 _ (.head _)
      have hz : ∀ z, z = (if x < y then y else x) → x ≤ z ∧ y ≤ z := by intro z hz; split at hz <;> omega
      obtain ⟨p, q⟩ := hz _ rfl
      rcases List.mem_cons.mp ha with e | ha
      · rw [e]; exact Int.le_trans p h0
      · rcases List.mem_cons.mp ha with e | ha
        · rw [e]; exact Int.le_trans q h0
        · exact h2 _ (List.mem_cons_of_mem _ ha)
theorem min_unique {l : List Int} {x M : Int} (h1 : M ∈ x :: l) (h2 : ∀ a ∈ x :: l, M ≤ a) : M = minL x l :=
  Int.le_antisymm (h2 _ (minL_spec l x).1) ((minL_spec l x).2 _ h1)
theorem max_unique {l : List Int} {x M : Int} (h1 : M ∈ x :: l) (h2 : ∀ a ∈ x :: l, a ≤ M) : M = maxL x l :=
  Int.le_antisymm ((maxL_spec l x).2 _ h1) (h2 _ (maxL_spec l x).1)
end
end Mine

end
-- part E4
section
open PySem PySem.W PySem.Calls PyProof.Rows
set_option Elab.async false
set_option maxRecDepth 100000
set_option linter.unusedVariables false

namespace Mine
section
variable {prog : Program} {w : World} {A : Around} {E : Value → Shared → Prop} {s : Shared} {h₀ : Heap} {L : Addr} {m : Str → Option Value} {news : Led}

theorem tup_kept {l : Addr} {h' : Heap} (hk : ∀ b o, b ∉ [s.heap.objs.size] → (s.heap.push { cls := .type "tuple_iterator", data := .fields #[.ref l, .int 0 0] }).get? b = some o → h'.get? b = some o) :
    ∀ b o, s.heap.get? b = some o → h'.get? b = some o := fun b o e => by
  refine hk b o (fun hm => ?_) (Heap.get?_push_of_some _ e)
  rcases List.mem_cons.mp hm with e1 | hm
  · exact absurd (e1 ▸ Heap.lt_size e) (Nat.lt_irrefl _)
  · cases hm

theorem min_tup {l : Addr} {its : Array Value} {x : Int} {r : List Int} {Q : Value → Shared → Prop} (hh : A.handled = none) (F : Fr h₀ L s.heap m) (N : News h₀ L s.heap news)
    (hl : IsTup s.heap l its) (hi : IntsAre its.toList (x :: r))
    (h : ∀ h' (t : Tok) tk, Fr h₀ L h' m → News h₀ L h' news → Q (.int (minL x r) t) { s with heap := h', toks := tk }) :
    wpAny (model prog w) A (call (.builtin "min") [.ref l]) Q E s := by
  rw [← Array.toArray_toList (xs := its)] at hl
  obtain ⟨xs, e⟩ := hi.allInts.items
  have hns : (x :: r) = xs.toList.map (·.1) := by
    rw [← hi.numsOf, ← nums_intItems, ← e]
  have hsz : 0 < xs.size := by
    have h3 : 0 < (x :: r).length := Nat.succ_pos _
    rw [hns, List.length_map, Array.length_toList] at h3; exact h3
  rw [e] at hl
  have hT : s.heap.IsTuple l (intItems xs) := let ⟨o, a, b, n, c⟩ := hl; ⟨o, a, b, n, c⟩
  have hlt : l < s.heap.objs.size := by obtain ⟨_, e, _⟩ := hl; exact Heap.lt_size e
  refine call_min_walk (wpAny_pyIter_tuple hT ?_)
  refine ⟨_, [_, l], [_], _, _, _, _, rfl, Walks.tuple (A := A.in1) hh _ l (Nat.ne_of_lt hlt) (intItems xs),
    ⟨⟨_, Heap.get?_push_size _ rfl, rfl, rfl⟩, hT.push _⟩, fun c hc => ?_, by simpa [intItems] using hsz, CmpOf.ints_lt (numAt xs) (fun _ _ => intItems_at), fun v h' tk hP hk => ?_⟩
  · show c < (s.heap.push _).objs.size
    rw [Heap.size_push]
    rcases List.mem_cons.mp hc with rfl | hc
    · exact Nat.lt_succ_self _
    · rw [List.mem_singleton.mp hc]; exact Nat.lt_succ_of_lt hlt
  · have hP' : (intItems xs)[argBest (fun i j => decide (numAt xs i < numAt xs j)) (xs.size - 1)]? = some v := by simpa [intItems] using hP
    obtain ⟨t, rfl⟩ := intItems_at hP'
    obtain ⟨h1, h2⟩ := argBest_lt (numAt xs) (xs.size - 1)
    have hk' := tup_kept hk
    have key : numAt xs (argBest (fun i j => decide (numAt xs i < numAt xs j)) (xs.size - 1)) = minL x r := by
      refine min_unique ?_ fun a ha => ?_
      · rw [hns, numAt_eq]; exact getD_mem (by rw [List.length_map, Array.length_toList]; omega)
      · rw [hns] at ha
        obtain ⟨j, hj, rfl⟩ := mem_getD ha
        rw [List.length_map, Array.length_toList] at hj
        rw [← numAt_eq]; exact h2 j (by omega)
    rw [key]
    exact h h' t tk (F.grownK hk') (N.grown hk')

theorem max_tup {l : Addr} {its : Array Value} {x : Int} {r : List Int} {Q : Value → Shared → Prop} (hh : A.handled = none) (F : Fr h₀ L s.heap m) (N : News h₀ L s.heap news)
    (hl : IsTup s.heap l its) (hi : IntsAre its.toList (x :: r))
    (h : ∀ h' (t : Tok) tk, Fr h₀ L h' m → News h₀ L h' news → Q (.int (maxL x r) t) { s with heap := h', toks := tk }) :
    wpAny (model prog w) A (call (.builtin "max") [.ref l]) Q E s := by
  rw [← Array.toArray_toList (xs := its)] at hl
  obtain ⟨xs, e⟩ := hi.allInts.items
  have hns : (x :: r) = xs.toList.map (·.1) := by
    rw [← hi.numsOf, ← nums_intItems, ← e]
  have hsz : 0 < xs.size := by
    have h3 : 0 < (x :: r).length := Nat.succ_pos _
    rw [hns, List.length_map, Array.length_toList] at h3; exact h3
  rw [e] at hl
  have hT : s.heap.IsTuple l (intItems xs) := let ⟨o, a, b, n, c⟩ := hl; ⟨o, a, b, n, c⟩
  have hlt : l < s.heap.objs.size := by obtain ⟨_, e, _⟩ := hl; exact Heap.lt_size e
  refine call_max_walk (wpAny_pyIter_tuple hT ?_)
  refine ⟨_, [_, l], [_], _, _, _, _, rfl, Walks.tuple (A := A.in1) hh _ l (Nat.ne_of_lt hlt) (intItems xs),
    ⟨⟨_, Heap.get?_push_size _ rfl, rfl, rfl⟩, hT.push _⟩, fun c hc => ?_, by simpa [intItems] using hsz, CmpOf.ints_gt (numAt xs) (fun _ _ => intItems_at), fun v h' tk hP hk => ?_⟩
  · show c < (s.heap.push _).objs.size
    rw [Heap.size_push]
    rcases List.mem_cons.mp hc with rfl | hc
    · exact Nat.lt_succ_self _
    · rw [List.mem_singleton.mp hc]; exact Nat.lt_succ_of_lt hlt
  · have hP' : (intItems xs)[argBest (fun i j => decide (numAt xs i > numAt xs j)) (xs.size - 1)]? = some v := by simpa [intItems] using hP
    obtain ⟨t, rfl⟩ := intItems_at hP'
    obtain ⟨h1, h2⟩ := argBest_gt (numAt xs) (xs.size - 1)
    have hk' := tup_kept hk
    have key : numAt xs (argBest (fun i j => decide (numAt xs i > numAt xs j)) (xs.size - 1)) = maxL x r := by
      refine max_unique ?_ fun a ha => ?_
      · rw [hns, numAt_eq]; exact getD_mem (by rw [List.length_map, Array.length_toList]; omega)
      · rw [hns] at ha
        obtain ⟨j, hj, rfl⟩ := mem_getD ha
        rw [List.length_map, Array.length_toList] at hj
        rw [← numAt_eq]; exact h2 j (by omega)
    rw [key]
    exact h h' t tk (F.grownK hk') (N.grown hk')
end

section
variable {P : Prm} {n : Nat}
theorem minOf_some {l : List V} {k : Kon} {r : V} (h : minOf l k = some r) : ∃ x xs, ints? l = some (x :: xs) ∧ k (.int (minL x xs)) = some r := by
  unfold minOf at h
  split at h
  · exact ⟨_, _, by assumption, h⟩
  · cases h
theorem maxOf_some {l : List V} {k : Kon} {r : V} (h : maxOf l k = some r) : ∃ x xs, ints? l = some (x :: xs) ∧ k (.int (maxL x xs)) = some r := by
  unfold maxOf at h
  split at h
  · exact ⟨_, _, by assumption, h⟩
  · cases h

theorem bcall_ok {b : Bi} {ds : List V} {k : Kon} {r : V} (h : bcall opsR b ds k = some r) :
    ∃ d, k d = some r ∧ ∀ (A : Around) (h₀ : Heap) (L : Addr) (m : Str → Option Value) (hid news : Led) (s : Shared) (Q : Value → Shared → Prop) (vs : List Value),
      Cx P n A h₀ L → St h₀ L s.heap m hid news → Reps P.C news vs ds → Back P h₀ L m hid news s Q d → wpAny (model P.prog P.w) A (call (.builtin b.id) vs) Q (fun _ _ => False) s := by
  unfold bcall at h
  cases b with
  | abs =>
    cases ds with
    | nil =>
      exact no h
    | cons a ds =>
      cases a with
      | int a =>
        cases ds with
        | cons _ _ =>
          exact no h
        | nil =>
          dsimp only at h
          refine ⟨_, h, fun A h₀ L m hid news s Q vs X S ra back => ?_⟩
          cases ra with | cons q t => cases q; cases t; exact call_abs_int fun u tk => back _ _ _ _ S .rfl (.int ..)
      | _ => exact no h
  | min =>
    cases ds with
    | nil =>
      exact no h
    | cons a ds =>
      cases a with
      | list l =>
        cases ds with
        | cons _ _ =>
          exact no h
        | nil =>
          dsimp only at h
          obtain ⟨x, xs, hi, hk⟩ := minOf_some h
          refine ⟨_, hk, fun A h₀ L m hid news s Q vs X S ra back => ?_⟩
          cases ra with | cons q t => cases t; cases q with
            | @list a us j l hm hr =>
              have e1 : s.heap.IsList a us.toList.toArray := by rw [Array.toArray_toList]; exact S.listAt hm
              refine min_list_N X.hh S.F S.N e1 (hr.ints hi) (Nat.succ_pos _) fun h' M t tk F N h1 h2 => ?_
              rw [min_unique h1 h2]
              exact back _ _ _ _ (S.same F N) .rfl (.int ..)
      | tup l =>
        cases ds with
        | cons _ _ =>
          exact no h
        | nil =>
          dsimp only at h
          obtain ⟨x, xs, hi, hk⟩ := minOf_some h
          refine ⟨_, hk, fun A h₀ L m hid news s Q vs X S ra back => ?_⟩
          cases ra with | cons q t => cases t; cases q with
            | @tup a us j l hm hr => exact min_tup X.hh S.F S.N (S.tupAt hm) (hr.ints hi) fun h' t tk F N => back _ _ _ _ (S.same F N) .rfl (.int ..)
      | _ => exact no h
  | max =>
    cases ds with
    | nil =>
      exact no h
    | cons a ds =>
      cases a with
      | list l =>
        cases ds with
        | cons _ _ =>
          exact no h
        | nil =>
          dsimp only at h
          obtain ⟨x, xs, hi, hk⟩ := maxOf_some h
          refine ⟨_, hk, fun A h₀ L m hid news s Q vs X S ra back => ?_⟩
          cases ra with | cons q t => cases t; cases q with
            | @list a us j l hm hr =>
              have e1 : s.heap.IsList a us.toList.toArray := by rw [Array.toArray_toList]; exact S.listAt hm
              refine max_list_N X.hh S.F S.N e1 (hr.ints hi) (Nat.succ_pos _) fun h' M t tk F N h1 h2 => ?_
              rw [max_unique h1 h2]
              exact back _ _ _ _ (S.same F N) .rfl (.int ..)
      | tup l =>
        cases ds with
        | cons _ _ =>
          exact no h
        | nil =>
          dsimp only at h
          obtain ⟨x, xs, hi, hk⟩ := maxOf_some h
          refine ⟨_, hk, fun A h₀ L m hid news s Q vs X S ra back => ?_⟩
          cases ra with | cons q t => cases t; cases q with
            | @tup a us j l hm hr => exact max_tup X.hh S.F S.N (S.tupAt hm) (hr.ints hi) fun h' t tk F N => back _ _ _ _ (S.same F N) .rfl (.int ..)
      | int a =>
        cases ds with
        | nil =>
          exact no h
        | cons b ds =>
          cases b with
          | int b =>
            cases ds with
            | cons _ _ =>
              exact no h
            | nil =>
              dsimp only at h
              refine ⟨_, h, fun A h₀ L m hid news s Q vs X S ra back => ?_⟩
              cases ra with | cons q t => cases t with | cons q' t => cases q; cases q'; cases t; exact max_two_N X.hh S.F S.N fun h' tk F N => back _ _ _ _ (S.same F N) .rfl (.int ..)
          | _ => exact no h
      | _ => exact no h
  | dm =>
    cases ds with
    | nil =>
      exact no h
    | cons a ds =>
      cases a with
      | int a =>
        cases ds with
        | nil =>
          exact no h
        | cons b ds =>
          cases b with
          | int b =>
            cases ds with
            | cons _ _ =>
              exact no h
            | nil =>
              dsimp only at h
              split at h
              · rename_i hm
                refine ⟨_, h, fun A h₀ L m hid news s Q vs X S ra back => ?_⟩
                cases ra with | cons q t => cases t with | cons q' t =>
                  cases q; cases q'; cases t
                  exact divmod_N S.F S.N (divOk_spec hm).1 (fun h' F N => back _ _ _ _ (St.alloc F N S.ap fun q hq => led_lt S.N q (List.mem_append_left _ hq)) .cons (.tup (.head _) (.cons (.int ..) (.cons (.int ..) .nil)))) (.inl (divOk_spec hm).2)
              · cases h
          | _ => exact no h
      | _ => exact no h

theorem item_ok {l : List V} {i : Int} {k : Kon} {r : V} (h : item l i k = some r) :
    ∃ d, k d = some r ∧ ∀ (A : Around) (h₀ : Heap) (L : Addr) (m : Str → Option Value) (hid news : Led) (s : Shared) (Q : Value → Shared → Prop) (v : Value) (value : Expr) (kk : Nat) (p : Pos) (t : Tok),
      St h₀ L s.heap m hid news → Rep P.C news v (.tup l) → Back P h₀ L m hid news s Q d → wpAny (model P.prog P.w) A (subscriptTail value (.Constant (.int i) kk p) v (.int i t)) Q (fun _ _ => False) s := by
  unfold item at h
  split at h
  · rename_i hb
    split at h
    · rename_i j hj
      split at h
      · rename_i d hd
        refine ⟨d, h, fun A h₀ L m hid news s Q v value kk p t S ra back => ?_⟩
        cases ra with
        | @tup a us j' _ hm hr =>
          obtain ⟨x, hx, rx⟩ := hr.at hd
          have e1 : IsTup s.heap a us.toList.toArray := by rw [Array.toArray_toList]; exact S.tupAt hm
          exact item_tupleT e1 hb.1 hb.2 (by rw [hr.length]; exact hj) hx (back _ _ _ _ S .rfl rx)
      · cases h
    · cases h
  · cases h

theorem itemL_ok {l : List V} {i : Int} {k : Kon} {r : V} (h : itemL l i k = some r) :
    ∃ d, k d = some r ∧ ∀ (A : Around) (h₀ : Heap) (L : Addr) (m : Str → Option Value) (hid news : Led) (s : Shared) (Q : Value → Shared → Prop) (v : Value) (value : Expr) (kk : Nat) (p : Pos) (t : Tok),
      St h₀ L s.heap m hid news → Rep P.C news v (.list l) → Back P h₀ L m hid news s Q d → wpAny (model P.prog P.w) A (subscriptTail value (.Constant (.int i) kk p) v (.int i t)) Q (fun _ _ => False) s := by
  unfold itemL at h
  split at h
  · rename_i hb
    split at h
    · rename_i d hd
      refine ⟨d, h, fun A h₀ L m hid news s Q v value kk p t S ra back => ?_⟩
      cases ra with
      | @list a us j' _ hm hr =>
        obtain ⟨x, hx, rx⟩ := hr.at hd
        have hx' : us[i.toNat]? = some x := by simpa using hx
        have hs : subscripted (.Constant (.int i) kk p) false (.ref a) (.int i t) = operate [.ref a, .int i t] (getItem (.ref a) (.int i t)) := by with_unfolding_all rfl
        exact tail_any (S.listAt hm).typeIs slot_list_getitem.lookup (wpAny_getItem_list (S.listAt hm) hb.1 hb.2 hx' (back _ _ _ _ S .rfl rx)) hs
    · cases h
  · cases h

theorem nameV_ok {c : Cfg} (PC : ConOk P c) {sc : Scope} {ρ : Rho} {x : Str} {pos : Pos} {k : Kon} {r : V} (h : nameV c.con sc ρ x k = some r) : ∃ d, k d = some r ∧ EvOk P n c sc ρ (.Name x pos) d := by
  unfold nameV at h
  split at h
  · rename_i hok
    unfold okName at hok
    simp only [Bool.and_eq_true, Bool.not_eq_true'] at hok
    split at h
    · rename_i hk
      split at h
      · rename_i i hi
        refine ⟨_, h, fun env A h₀ L m hid news s Q G X S nm _ back => ?_⟩
        obtain ⟨t, ht⟩ := PC.con x i hi
        exact Name_function_global G.k (by show env.scope.names.lookup x = _; rw [G.sc]; exact hk) (loadGlobal_global (env := env) (by rw [G.g]; exact X.T.g.keeps S.F.keep) (mg_of X.X X.T.g ht) (back _ _ _ _ S .rfl (.int ..))) hok.1
      · cases h
    · rename_i kd _ hk
      split at h
      · rename_i d hd
        refine ⟨d, h, fun env A h₀ L m hid news s Q G X S nm _ back => ?_⟩
        obtain ⟨v, hv, rv⟩ := nm x d hd
        have fin : Q v s := back v news s.heap s.toks S .rfl rv
        rcases hv with ⟨h1, h2, h3⟩ | ⟨cc, o, h1, h2, h3, h4⟩ | ⟨o, m₂, h1, h2, h3, h4⟩
        · exact wpAny_Name (wpAny_loadName_local G.k h1 (h2 ▸ S.F.ns) h3 fin) hok.1
        · have hc : s.heap.IsCell cc (some v) := ⟨o, (S.N _ (List.mem_append_left _ h3)).1, h4⟩
          rcases h1 with h1 | h1
          · exact wpAny_Name (wpAny_loadName_cell G.k h1 h2 hc fin) hok.1
          · exact wpAny_Name (wpAny_loadName_free G.k h1 h2 hc fin hok.2) hok.1
        · exact wpAny_Name (wpAny_loadName_local G.k h1 (h3.ns (S.N _ (List.mem_append_left _ h2)).1) h4 fin) hok.1
      · cases h
    · cases h
  · cases h

theorem starEach_cons {e : Expr} {rest : List Expr} {env : Env} (h : isStar e = false) : starEach (e :: rest) env = (false, eval e env) :: starEach rest env := by
  cases e <;> first | rfl | cases h
theorem starEach_plain {pos : Pos} {env : Env} : ∀ {es : List Expr}, es.all (fun e => !isStar e) = true → ((backTo pos (starEach es env)).any (·.1)) = false
  | [], _ => rfl
  | e :: r, h => by
    rw [List.all_cons, Bool.and_eq_true, Bool.not_eq_true'] at h
    rw [starEach_cons h.1]
    show (false || (backTo pos (starEach r env)).any (·.1)) = false
    rw [starEach_plain h.2]; rfl

theorem evs_ok {c : Cfg} {r : Run} (R : RunOk P n c r) {sc : Scope} {ρ : Rho} : ∀ {es : List Expr} {k : List V → Option V} {res : V}, evs (r.ev sc ρ) es k = some res →
    ∃ ds, k ds = some res ∧ EvsOk P n c sc ρ es ds ∧ es.all (fun e => !isStar e) = true
  | [], k, res, h => ⟨[], h, fun env A h₀ L m hid news s pos Q G X S nm cl back => spliced_none (back [] news s.heap s.toks S .rfl .nil), rfl⟩
  | e :: es, k, res, h => by
    unfold evs at h
    split at h
    · cases h
    · rename_i hs
      have hs' : isStar e = false := by simpa using hs
      obtain ⟨d, hd, E1⟩ := R.ev _ _ _ _ _ h
      obtain ⟨ds, hds, E2, hp⟩ := evs_ok R hd
      refine ⟨d :: ds, hds, fun env A h₀ L m hid news s pos Q G X S nm cl back => ?_, by rw [List.all_cons, hs', hp]; rfl⟩
      refine spliced_more (E1 env A h₀ L m hid news s _ G X S nm cl fun v news' h' tk' S' sub rv => ?_) (starEach_cons hs')
      exact E2 env A h₀ L m hid news' _ pos _ G X S' (nm.mono sub) (cl.mono sub) fun vs news'' h'' tk'' S'' sub' rvs => back _ _ _ _ S'' (sub.trans sub') (.cons (rv.mono sub') rvs)
end
end Mine

end
-- part E5
section
open PySem PySem.W PySem.Calls PyProof.Rows
set_option Elab.async false
set_option maxRecDepth 100000
set_option linter.unusedVariables false

namespace Mine
section
variable {P : Prm} {n : Nat} {c : Cfg} {sc : Scope} {ρ : Rho} {r : Run}

theorem ne_of_lt_led {hid news : Led} {a : Addr} (l : ∀ p ∈ hid ++ news, p.1 < a) : ∀ q ∈ hid, q.1 ≠ a := fun q hq => Nat.ne_of_lt (l q (List.mem_append_left _ hq))

theorem tuple_ok {es : List Expr} {ds : List V} {kk : Nat} {pos : Pos} (E : EvsOk P n c sc ρ es ds) (hl : ds.length ≤ 1000) : EvOk P n c sc ρ (.Tuple es kk pos) (.tup ds) := by
  intro env A h₀ L m hid news s Q G X S nm cl back
  refine Tuple_ (E env A h₀ L m hid news s pos _ G X S nm cl fun vs news' h' tk' S' sub rv => ?_)
  refine kup_newTuple S'.F S'.N (fun D h'' F N lt => back _ _ _ _ (St.alloc F N S'.ap (ne_of_lt_led lt)) (sub.trans .cons) (.tup (.head _) (rv.mono .cons))) ?_
  rw [rv.length, sizeLine_eq]; omega
theorem list_ok {es : List Expr} {ds : List V} {pos : Pos} (E : EvsOk P n c sc ρ es ds) (hl : ds.length ≤ 1000) : EvOk P n c sc ρ (.List es pos) (.list ds) := by
  intro env A h₀ L m hid news s Q G X S nm cl back
  refine List_ (E env A h₀ L m hid news s pos _ G X S nm cl fun vs news' h' tk' S' sub rv => ?_)
  refine newList_K S'.F S'.N (fun D h'' F N lt => back _ _ _ _ (St.alloc F N S'.ap (ne_of_lt_led lt)) (sub.trans .cons) (.list (.head _) (rv.mono .cons))) ?_
  rw [rv.length, sizeLine_eq]; omega

theorem global_fn {env : Env} {A : Around} {h₀ : Heap} {L : Addr} {m : Str → Option Value} {hid news : Led} {s : Shared} {f : Str} {p : Pos} {v : Value} {Q : Value → Shared → Prop} {E : Value → Shared → Prop}
    (G : GEnv env sc) (X : Cx P n A h₀ L) (S : St h₀ L s.heap m hid news) (hk : sc.names.lookup f = some .globalImplicit) (hd : (f == "__debug__") = false) (hn : nsIn P.K mainGlobals f = some (some v)) (h : Q v s) :
    wpAny (model P.prog P.w) A (eval (.Name f p) env) Q E s :=
  Name_function_global G.k (by show env.scope.names.lookup f = _; rw [G.sc]; exact hk) (loadGlobal_global (env := env) (by rw [G.g]; exact X.T.g.keeps S.F.keep) (mg_of X.X X.T.g hn) h) hd
theorem global_bi {env : Env} {A : Around} {h₀ : Heap} {L : Addr} {m : Str → Option Value} {hid news : Led} {s : Shared} {f : Str} {p : Pos} {v : Value} {Q : Value → Shared → Prop} {E : Value → Shared → Prop}
    (G : GEnv env sc) (X : Cx P n A h₀ L) (S : St h₀ L s.heap m hid news) (hk : sc.names.lookup f = some .globalImplicit) (hd : (f == "__debug__") = false) (hn : nsIn P.K mainGlobals f = some none) (hb : bootBuiltins f = some v) (hne : f ≠ "__name__") (h : Q v s) :
    wpAny (model P.prog P.w) A (eval (.Name f p) env) Q E s :=
  Name_function_global G.k (by show env.scope.names.lookup f = _; rw [G.sc]; exact hk) (loadGlobal_builtin (env := env) (by rw [G.g]; exact X.T.g.keeps S.F.keep) (mg_none_of X.X X.T.g hn) (by rw [G.b]; exact X.T.b.keeps S.F.keep) ((X.T.builtins f hne).trans hb) h) hd

theorem attr_ok {x at' : Str} {xp p : Pos} {mm e d : Int} (PO : PrmOk P) (E : EvOk P n c sc ρ (.Name x xp) (.real mm e)) (h : (at' = "mantissa" ∧ d = mm) ∨ (at' = "exponent" ∧ d = e)) : EvOk P n c sc ρ (.Attribute (.Name x xp) at' p) (.int d) := by
  intro env A h₀ L m hid news s Q G X S nm cl back
  refine Attribute_Name_ (E env A h₀ L m hid news s _ G X S nm cl fun v news' h' tk' S' sub rv => ?_)
  cases rv with
  | @real y dx es k _ _ t u h1 h2 h3 h4 =>
    have I : InstAt h' y (instObj P.C dx) P.C (some (dictOf es k)) := InstAt.of_news S'.N (List.mem_append_right _ h1) (List.mem_append_right _ h2)
    rcases h with ⟨rfl, rfl⟩ | ⟨rfl, rfl⟩
    · exact get_own S'.F X.X I (PO.get _) PO.hd PO.fm rfl h3 rfl (back _ _ _ _ S' sub (.int ..))
    · exact get_own S'.F X.X I (PO.get _) PO.hd PO.fe rfl h4 rfl (back _ _ _ _ S' sub (.int ..))

theorem callG_ok (PH : PhiOk P n c.φ) {f : Str} {e : Expr} {es : List Expr} {fp p : Pos} {ds : List V} {k : Kon} {res : V} (E : EvsOk P n c sc ρ (e :: es) ds) (hp : (e :: es).all (fun e => !isStar e) = true)
    (hd : (f == "__debug__") = false) (hk : sc.names.lookup f = some .globalImplicit) (h : c.φ f ds k = some res) : ∃ d, k d = some res ∧ EvOk P n c sc ρ (.Call (.Name f fp) (e :: es) [] p) d := by
  obtain ⟨d, a, hkd, hn, hkp, C⟩ := PH _ _ _ _ h
  refine ⟨d, hkd, fun env A h₀ L m hid news s Q G X S nm cl back => ?_⟩
  rw [List.all_cons, Bool.and_eq_true, Bool.not_eq_true'] at hp
  refine Call_ (global_fn G X S hk hd hn ?_)
  refine callWith_K X.X hkp (E env A h₀ L m hid news s p _ G X S nm cl fun vs news' h' tk' S' sub rv => ⟨X.X.keeps S'.F.keep, ?_⟩) (starEach_cons hp.1) (starEach_plain hp.2)
  exact C A h₀ L m hid news' _ vs Q X S' (fun _ h => nomatch h) rv fun v news'' h'' tk'' S'' sub' rv' => back _ _ _ _ S'' (sub.trans sub') rv'

theorem callB_ok (PO : PrmOk P) {f : Str} {b : Bi} {e : Expr} {es : List Expr} {fp p : Pos} {ds : List V} {k : Kon} {res : V} (E : EvsOk P n c sc ρ (e :: es) ds) (hp : (e :: es).all (fun e => !isStar e) = true)
    (hd : (f == "__debug__") = false) (hk : sc.names.lookup f = some .globalImplicit) (hb : biOf f = some b) (h : bcall opsR b ds k = some res) : ∃ d, k d = some res ∧ EvOk P n c sc ρ (.Call (.Name f fp) (e :: es) [] p) d := by
  obtain ⟨d, hkd, C⟩ := bcall_ok (P := P) (n := n) h
  obtain ⟨hn, hbb, hne⟩ := PO.bi f b hb
  refine ⟨d, hkd, fun env A h₀ L m hid news s Q G X S nm cl back => ?_⟩
  rw [List.all_cons, Bool.and_eq_true, Bool.not_eq_true'] at hp
  refine Call_ (global_bi G X S hk hd hn hbb hne ?_)
  refine PyProof.Rows.callWith_builtin1 (E env A h₀ L m hid news s p _ G X S nm cl fun vs news' h' tk' S' sub rv => ?_) (starEach_cons hp.1) (starEach_plain hp.2)
  exact C A h₀ L m hid news' _ Q vs X S' rv fun v news'' h'' tk'' S'' sub' rv' => back _ _ _ _ S'' (sub.trans sub') rv'

theorem callC_ok {f : Str} {g : List V → Option V} (hc : c.clo = some (f, g)) {e : Expr} {es : List Expr} {fp p : Pos} {ds : List V} {d : V} (E : EvsOk P n c sc ρ (e :: es) ds) (hp : (e :: es).all (fun e => !isStar e) = true)
    (hd : (f == "__debug__") = false) (hk : sc.names.lookup f = some .local) (h : g ds = some d) : EvOk P n c sc ρ (.Call (.Name f fp) (e :: es) [] p) d := by
  intro env A h₀ L m hid news s Q G X S nm cl back
  obtain ⟨a, o, h1, h2, h3, h4, W, h5, C⟩ := cl _ _ hc
  rw [List.all_cons, Bool.and_eq_true, Bool.not_eq_true'] at hp
  have fa : ∀ {h' : Heap} {news' : Led}, St h₀ L h' m hid news' → Sub news news' → FnAt a h' := fun {h' news'} S' sub => by
    obtain ⟨fd, e⟩ := h4
    obtain ⟨oc, od, dt, sl⟩ := o
    cases e
    exact FnAt.of S'.N (List.mem_append_right _ (sub _ h3))
  refine Call_ (wpAny_Name (wpAny_loadName_local G.k (by show env.scope.names.lookup f = _; rw [G.sc]; exact hk) (h2 ▸ S.F.ns) h1 ?_) hd)
  refine callWith_F (fa S .rfl) (E env A h₀ L m hid news s p _ G X S nm cl fun vs news' h' tk' S' sub rv => ⟨fa S' sub, ?_⟩) (starEach_cons hp.1) (starEach_plain hp.2)
  exact C _ _ h A h₀ L m hid news' _ vs Q X S' (h5.trans sub) rv fun v news'' h'' tk'' S'' sub' rv' => back _ _ _ _ S'' (sub.trans sub') rv'

end
end Mine

end
-- part E6
section
open PySem PySem.W PySem.Calls PyProof.Rows
set_option Elab.async false
set_option maxRecDepth 100000
set_option linter.unusedVariables false

namespace Mine

theorem closureFor_free {scope : Scope} {env : Env} (h : ∀ n, (n, NameKind.free) ∈ scope.names → ∃ c, env.cells.lookup n = some c) :
    ∃ cl, closureFor scope env = pure cl ∧ ∀ n, (n, NameKind.free) ∈ scope.names → cl.lookup n = env.cells.lookup n := by
  have key : ∀ (l : List (Str × NameKind)) (acc : List (Str × Addr)), (∀ n, (n, NameKind.free) ∈ l → ∃ c, env.cells.lookup n = some c) → (∀ n, (acc.lookup n).isSome = true → acc.lookup n = env.cells.lookup n) →
      ∃ cl, (forIn (m := Sem) l acc fun x r => match x with | (name, kind) => if (kind == NameKind.free) = true then do let a ← cellOf env name; pure (ForInStep.yield ((name, a) :: r)) else pure (ForInStep.yield r)) = pure cl ∧
        ∀ n, ((n, NameKind.free) ∈ l ∨ (acc.lookup n).isSome = true) → cl.lookup n = env.cells.lookup n := by
    intro l
    induction l with
    | nil => exact fun acc _ ha => ⟨acc, rfl, fun n hn => hn.elim (fun q => nomatch q) (ha n)⟩
    | cons x r ih =>
      obtain ⟨name, kind⟩ := x
      intro acc hl ha
      rw [List.forIn_cons]
      dsimp only
      by_cases hk : kind = NameKind.free
      · subst hk
        obtain ⟨cc, hc⟩ := hl name (.head _)
        rw [if_pos (by rfl)]
        have e1 : cellOf env name = pure cc := by unfold cellOf; rw [hc]
        rw [e1]
        obtain ⟨cl, e2, h2⟩ := ih ((name, cc) :: acc) (fun n hn => hl n (List.mem_cons_of_mem _ hn)) (fun n hn => by
          rw [List.lookup_cons]
          split
          · rename_i q; rw [eq_of_beq q, hc]
          · rename_i q
            rw [List.lookup_cons, q] at hn
            exact ha n hn)
        refine ⟨cl, e2, fun n hn => h2 n ?_⟩
        rcases hn with hn | hn
        · rcases List.mem_cons.mp hn with e | hn
          · right
            cases e
            rw [List.lookup_cons]; simp
          · exact .inl hn
        · right
          rw [List.lookup_cons]
          split
          · rfl
          · exact hn
      · have hk' : (kind == NameKind.free) = false := by simpa using hk
        rw [if_neg (by rw [hk']; exact Bool.false_ne_true)]
        obtain ⟨cl, e2, h2⟩ := ih acc (fun n hn => hl n (List.mem_cons_of_mem _ hn)) ha
        refine ⟨cl, e2, fun n hn => h2 n ?_⟩
        rcases hn with hn | hn
        · rcases List.mem_cons.mp hn with e | hn
          · cases e; exact absurd rfl hk
          · exact .inl hn
        · exact .inr hn
  obtain ⟨cl, e, hcl⟩ := key scope.names [] h (fun n hn => by cases hn)
  refine ⟨cl, ?_, fun n hn => hcl n (.inl hn)⟩
  have q : closureFor scope env = ((forIn (m := Sem) scope.names ([] : List (Str × Addr)) fun x r => match x with | (name, kind) => if (kind == NameKind.free) = true then do let a ← cellOf env name; pure (ForInStep.yield ((name, a) :: r)) else pure (ForInStep.yield r)) >>= fun t => pure t) := rfl
  rw [q, e]
  rfl

theorem lookup_relabel_free {env : Env} : ∀ {names : List (Str × NameKind)} {x : Str}, names.lookup x = some .free →
    let l := (names.map fun (n, k) => if (k == NameKind.free && env.scope.kind == .function && env.kindOf n == some .cell) then (n, NameKind.cell) else (n, k)).lookup x
    l = some .cell ∨ l = some .free
  | [], x, h => by simp at h
  | (n, k) :: r, x, h => by
    have ih := @lookup_relabel_free env r x
    rw [List.lookup_cons] at h
    dsimp only
    rw [List.map_cons]
    dsimp only
    cases hx : x == n with
    | true =>
      rw [hx] at h
      cases h
      split
      · left; rw [List.lookup_cons, hx]
      · right; rw [List.lookup_cons, hx]
    | false =>
      rw [hx] at h
      have := ih h
      split <;> (rw [List.lookup_cons, hx]; exact this)

theorem freeRho_spec {sc : Scope} {ρ : Rho} {all : List (Str × NameKind)} : ∀ {l : List (Str × NameKind)} {fr : Rho}, freeRho sc ρ all l = some fr →
    (∀ n d, look fr n = some d → (n, NameKind.free) ∈ l ∧ all.lookup n = some .free ∧ sc.names.lookup n = some .cell ∧ look ρ n = some d) ∧ ∀ n, (n, NameKind.free) ∈ l → sc.names.lookup n = some .cell ∧ ∃ d, look ρ n = some d
  | [], fr, h => by
    simp only [freeRho, Option.some.injEq] at h
    subst h
    exact ⟨fun n d h => by simp [look] at h, fun n hn => nomatch hn⟩
  | (n, k) :: r, fr, h => by
    by_cases hk : k = .free
    · subst hk
      unfold freeRho at h
      split at h
      · rename_i ha
        have ha' : all.lookup n = some .free := by simpa using ha
        split at h
        · rename_i hc
          split at h
          · rename_i d hd
            rw [Option.map_eq_some_iff] at h
            obtain ⟨fr', hfr, rfl⟩ := h
            obtain ⟨h1, h2⟩ := freeRho_spec hfr
            refine ⟨fun y e he => ?_, fun y hy => ?_⟩
            · unfold look at he
              rw [List.lookup_cons] at he
              split at he
              · rename_i q
                rw [eq_of_beq q]
                simp only [Option.join_some, Option.some.injEq] at he
                subst he
                exact ⟨.head _, ha', hc, hd⟩
              · obtain ⟨a, b⟩ := h1 y e he
                exact ⟨List.mem_cons_of_mem _ a, b⟩
            · rcases List.mem_cons.mp hy with e | hy
              · cases e; exact ⟨hc, d, hd⟩
              · exact h2 y hy
          · cases h
        · cases h
      · cases h
    · have e : freeRho sc ρ all ((n, k) :: r) = freeRho sc ρ all r := by cases k <;> first | rfl | exact absurd rfl hk
      rw [e] at h
      obtain ⟨h1, h2⟩ := freeRho_spec h
      refine ⟨fun y d he => let ⟨a, b⟩ := h1 y d he; ⟨List.mem_cons_of_mem _ a, b⟩, fun y hy => ?_⟩
      rcases List.mem_cons.mp hy with e | hy
      · cases e; exact absurd rfl hk
      · exact h2 y hy

theorem compOk_spec {scope : Scope} (h : compOk scope = true) : (∀ y ∈ scope.names, y.2 ≠ .cell) ∧ scope.kind = .function ∧ ∀ y ∈ scope.names, y.2 = .local → scope.names.lookup y.1 = some .local := by
  unfold compOk at h
  simp only [Bool.and_eq_true, List.all_eq_true, bne_iff_ne, beq_iff_eq, Bool.or_eq_true, Bool.not_eq_true', beq_eq_false_iff_ne] at h
  exact ⟨h.1.1, h.1.2, fun y hy hl => (h.2 y hy).resolve_left fun q => q hl⟩

/-- the names that a comprehension's element may read -/
theorem comp_names {C : Addr} {env : Env} {sc scope : Scope} {L Cc : Addr} {m : Str → Option Value} {hid hid' news news' : Led} {ρ fr : Rho} {cl : List (Str × Addr)} (G : GEnv env sc) (hfr : freeRho sc ρ scope.names scope.names = some fr)
    (nm : Nm C env L m hid news ρ) (hcl : ∀ n, (n, NameKind.free) ∈ scope.names → cl.lookup n = env.cells.lookup n) (sub : Sub news news') (hh : Sub hid hid') {x : Str} {d : V} (hr : look fr x = some d) :
    ∃ v, NameAt (compEnvC scope cl Cc env) L m hid' x v ∧ Rep C news' v d := by
  obtain ⟨h1, h2, h3, h4⟩ := (freeRho_spec hfr).1 x d hr
  obtain ⟨v, hv, rv⟩ := nm x d h4
  have hk : env.kindOf x = some .cell := by show env.scope.names.lookup x = _; rw [G.sc]; exact h3
  refine ⟨v, .inr (.inl ?_), rv.mono sub⟩
  rcases hv with ⟨q, _⟩ | ⟨cc, o, q, hc, hm, ho⟩ | ⟨o, m₂, q, _⟩
  · rw [hk] at q; cases q
  · exact ⟨cc, o, lookup_relabel_free (env := env) h2, (hcl x h1).trans hc, hh _ hm, ho⟩
  · rw [hk] at q; cases q
end Mine

end
-- part E7
section
open PySem PySem.W PySem.Calls PyProof.Rows
set_option Elab.async false
set_option maxRecDepth 100000
set_option linter.unusedVariables false

namespace Mine

inductive LcRel (P : Prm) (n : Nat) (c : Cfg) (sc : Scope) (elt : Expr) (mk : V → Option Rho) : List V → List V → Prop where
  | nil : LcRel P n c sc elt mk [] []
  | cons {d y : V} {ρ : Rho} {ds ys : List V} : mk d = some ρ → EvOk P n c sc ρ elt y → LcRel P n c sc elt mk ds ys → LcRel P n c sc elt mk (d :: ds) (y :: ys)

theorem lcGo_ok {P : Prm} {n : Nat} {c : Cfg} {r : Run} (R : RunOk P n c r) {sc : Scope} {elt : Expr} {mk : V → Option Rho} : ∀ {ds acc : List V} {k : List V → Option V} {res : V}, lcGo (r.ev sc) elt mk ds acc k = some res →
    ∃ ys, k (acc ++ ys) = some res ∧ LcRel P n c sc elt mk ds ys
  | [], acc, k, res, h => ⟨[], by rw [List.append_nil]; exact h, .nil⟩
  | d :: ds, acc, k, res, h => by
    unfold lcGo at h
    split at h
    · rename_i ρ hρ
      obtain ⟨y, hy, E⟩ := R.ev _ _ _ _ _ h
      obtain ⟨ys, hk, L⟩ := lcGo_ok R hy
      exact ⟨y :: ys, by rw [List.append_assoc] at hk; exact hk, .cons hρ E L⟩
    · cases h

theorem off1_mem {D : Addr} : ∀ {l : Led}, LCg.Off1 D l → ∀ p ∈ l, p.1 ≠ D
  | [], _, _, h => nomatch h
  | _ :: _, x, p, h => by
    rcases List.mem_cons.mp h with rfl | h
    · exact x.1
    · exact off1_mem x.2 p h

theorem comp_genv {env : Env} {sc scope : Scope} {cl : List (Str × Addr)} {Cc : Addr} (G : GEnv env sc) (hk : scope.kind = .function) : GEnv (compEnvC scope cl Cc env) (relabel scope (dEnv sc)) :=
  ⟨by show relabel scope env = _; rw [← G.sc]; rfl, hk, G.g, G.b⟩

section
variable {P : Prm} {n : Nat} {c : Cfg} {sc scope : Scope} {ρ fr : Rho} {elt iter : Expr} {x y : Str} {px py tp pos : Pos} {kk : Nat}

theorem comp_st {A : Around} {h₀ h : Heap} {L I Cc D : Addr} {oI oC oD : Obj} {m : Str → Option Value} {hid news : Led} (F : Fr h₀ L h m) (N : News h₀ L h ((I, oI) :: (Cc, oC) :: (D, oD) :: (hid ++ news))) (ap : ∀ p ∈ news, ∀ q ∈ hid, p.1 ≠ q.1) (off : LCg.Off3 I Cc D (hid ++ news)) :
    St h₀ L h m ((I, oI) :: (Cc, oC) :: (D, oD) :: hid) news := ⟨F, N, fun p hp q hq => by
  have o := off.mem p (List.mem_append_right _ hp)
  rcases List.mem_cons.mp hq with rfl | hq
  · exact o.1
  · rcases List.mem_cons.mp hq with rfl | hq
    · exact o.2.1
    · rcases List.mem_cons.mp hq with rfl | hq
      · exact o.2.2
      · exact ap p hp q hq⟩
theorem comp_end {h₀ h' : Heap} {L I Cc D : Addr} {oI oC oD : Obj} {m : Str → Option Value} {hid news news' : Led} {s₁ : Shared} {S : Led → Prop} {rest : Value → Led → Prop} {v : Value} {tk' : Nat} (S' : St h₀ L h' m ((I, oI) :: (Cc, oC) :: (D, oD) :: hid) news') (off : LCg.Off3 I Cc D (hid ++ news))
    (hS : S (hid ++ news')) (hr : rest v (hid ++ news')) : LCg.CompEnd h₀ L m s₁ I oI Cc oC D oD S rest v { s₁ with heap := h', toks := tk' } :=
  ⟨h', tk', hid ++ news', rfl, S'.F, S'.N, LCg.Off3.of fun p hp => by
    rcases List.mem_append.mp hp with hp | hp
    · exact off.mem p (List.mem_append_left _ hp)
    · exact ⟨S'.ap p hp _ (.head _), S'.ap p hp _ (.tail _ (.head _)), S'.ap p hp _ (.tail _ (.tail _ (.head _)))⟩, hS, hr⟩

theorem rest1 (hclo : c.clo = none) (hkind : scope.kind = .function) (hx : scope.names.lookup x = some .local) (hfr : freeRho sc ρ scope.names scope.names = some fr)
    {env : Env} {A : Around} {h₀ : Heap} {L : Addr} {m : Str → Option Value} {hid news₀ : Led} {s : Shared} {cl : List (Str × Addr)} {ax : Addr} {its : Array Value} {k₀ : Nat} {Fin : List Value → Led → Prop}
    (G : GEnv env sc) (X : Cx P n A h₀ L) (nm : Nm P.C env L m hid news₀ ρ) (hcl : ∀ n, (n, NameKind.free) ∈ scope.names → cl.lookup n = env.cells.lookup n) (hax : (ax, ({ cls := .type "list", data := .seq its k₀ } : Obj)) ∈ news₀) :
    ∀ {ds ys : List V}, LcRel P n c (relabel scope (dEnv sc)) elt (fun d => some ((x, some d) :: fr)) ds ys → ∀ (i : Nat) (yv : List Value) (yd : List V) (news : Led), (∀ j v, its[i + j]? = some v → ∃ d, ds[j]? = some d ∧ Rep P.C news v d) → Reps P.C news yv yd → Sub news₀ news → (∀ p ∈ news, ∀ q ∈ hid, p.1 ≠ q.1) →
      (∀ yv' news', Reps P.C news' yv' (yd ++ ys) → Sub news news' → (∀ p ∈ news', ∀ q ∈ hid, p.1 ≠ q.1) → Fin yv' (hid ++ news')) →
      LCg.CompRest P.prog P.w A h₀ L m env elt x scope cl s (LCg.SrcAt h₀ ax its) (fun i v => its[i]? = some v) Fin ds.length i yv (hid ++ news)
  | [], _, .nil, i, yv, yd, news, hits, hy, sub, ap, fin => LCg.CompRest.zero (fin yv news (by rw [List.append_nil]; exact hy) .rfl ap)
  | d :: ds, _, .cons (y := y) (ys := ys) hmk E Lr, i, yv, yd, news, hits, hy, sub, ap, fin => by
    rw [List.length_cons]
    refine LCg.CompRest.succ fun v I oI Cc oC D m₂ h tk E' hv hC hx' F N off ne => ?_
    obtain ⟨d', hd', rv⟩ := hits 0 v hv
    rw [List.getElem?_cons_zero, Option.some.injEq] at hd'
    subst hd'
    cases hmk
    refine wpAny_mono (E (compEnvC scope cl Cc env) A h₀ L m _ news _ _ (comp_genv G hkind) X (comp_st (A := A) F N ap off) ?_ (fun x g e => by rw [hclo] at e; cases e) fun v' news' h' tk' S' sub' rv' => ?_) (fun _ _ q => q) (fun _ _ q => q.elim)
    · intro z e hz
      unfold look at hz
      rw [List.lookup_cons] at hz
      split at hz
      · rename_i q
        have q' := eq_of_beq q
        subst q'
        simp only [Option.join_some, Option.some.injEq] at hz
        subst hz
        exact ⟨v, .inr (.inr ⟨oC, m₂, lookup_relabel_local hx, .tail _ (.head _), hC, hx'⟩), rv⟩
      · exact comp_names (Cc := Cc) G hfr nm hcl sub (fun p hp => List.mem_cons_of_mem _ (List.mem_cons_of_mem _ (List.mem_cons_of_mem _ hp))) hz
    · refine comp_end S' off (.inr ⟨_, List.mem_append_right _ (sub' _ (sub _ hax)), rfl, _, rfl⟩) ?_
      refine rest1 hclo hkind hx hfr G X nm hcl hax Lr (i + 1) (yv ++ [v']) (yd ++ [y]) news' (fun j u hu => ?_) ((hy.mono sub').append (.cons rv' .nil)) (sub.trans sub') (fun p hp q hq => S'.ap p hp q (List.mem_cons_of_mem _ (List.mem_cons_of_mem _ (List.mem_cons_of_mem _ hq)))) fun yv' news'' hr s2 a2 => fin yv' news'' (by rw [List.append_assoc] at hr; exact hr) (sub'.trans s2) a2
      obtain ⟨d2, e2, r2⟩ := hits (j + 1) u (by rw [← hu]; congr 1; omega)
      exact ⟨d2, by simpa using e2, r2.mono sub'⟩

theorem comp1_ok (hclo : c.clo = none) (hok : compOk scope = true) (hx : scope.names.lookup x = some .local) (hfr : freeRho sc ρ scope.names scope.names = some fr) (hn : isName iter = true) {l ys : List V} (hl : l.length ≤ 1000)
    (E : EvOk P n c sc ρ iter (.list l)) (Lr : LcRel P n c (relabel scope (dEnv sc)) elt (fun d => some ((x, some d) :: fr)) l ys) : EvOk P n c sc ρ (.ListComp elt [⟨.Name x px, iter, [], 0⟩] scope pos) (.list ys) := by
  intro env A h₀ L m hid news s Q G X S nm cc back
  obtain ⟨hcell, hkind, hnames⟩ := compOk_spec hok
  obtain ⟨cl, hclos, hcl⟩ := closureFor_free (scope := scope) (env := env) fun z hz => by
    obtain ⟨h3, d, hd⟩ := (freeRho_spec hfr).2 z hz
    obtain ⟨v, hv, _⟩ := nm z d hd
    have hk : env.kindOf z = some .cell := by show env.scope.names.lookup z = _; rw [G.sc]; exact h3
    rcases hv with ⟨q, _⟩ | ⟨cc, o, q, hc, _⟩ | ⟨o, m₂, q, _⟩
    · rw [hk] at q; cases q
    · exact ⟨cc, hc⟩
    · rw [hk] at q; cases q
  refine LCg.ListComp_U S.F hclos hcell hkind hnames hx (E env A h₀ L m hid news s _ G X S nm cc fun v news' h' tk' S' sub rv => ?_) (by cases iter <;> first | (intro _; rfl) | cases hn)
  cases rv with
  | @list ax its k _ hm hr =>
    have hsz : its.size = l.length := by rw [← hr.length, Array.length_toList]
    refine LCg.CompSrc.ledger X.hh S'.F S'.N (List.mem_append_right _ hm) (by rw [hsz, sizeLine_eq]; omega) fun g => ?_
    rw [hsz]
    refine rest1 hclo hkind hx hfr G X (nm.mono sub) hcl hm Lr 0 [] [] news' (fun j u hu => ?_) .nil .rfl S'.ap fun yv' news'' hr' s2 a2 D h2 tk2 F2 N2 o2 => ?_
    · rw [Nat.zero_add] at hu
      exact hr.at' (by rw [Array.getElem?_toList]; exact hu)
    · exact back _ _ h2 tk2 (St.alloc F2 N2 a2 fun q hq => off1_mem o2 q (List.mem_append_left _ hq)) (sub.trans (s2.trans .cons)) (.list (.head _) (by simpa using hr'.mono .cons))

theorem rest2 (hclo : c.clo = none) (hkind : scope.kind = .function) (hx : scope.names.lookup x = some .local) (hy' : scope.names.lookup y = some .local) (hxy : x ≠ y) (hfr : freeRho sc ρ scope.names scope.names = some fr)
    {env : Env} {A : Around} {h₀ : Heap} {L : Addr} {m : Str → Option Value} {hid news₀ : Led} {s : Shared} {cl : List (Str × Addr)} {ax : Addr} {its : Array Value} {k₀ : Nat} {Fin : List Value → Led → Prop}
    (G : GEnv env sc) (X : Cx P n A h₀ L) (nm : Nm P.C env L m hid news₀ ρ) (hcl : ∀ n, (n, NameKind.free) ∈ scope.names → cl.lookup n = env.cells.lookup n) (hax : (ax, ({ cls := .type "list", data := .seq its k₀ } : Obj)) ∈ news₀) :
    ∀ {ds ys : List V}, LcRel P n c (relabel scope (dEnv sc)) elt (fun d => match d with | .tup [a, b] => some ((x, some a) :: (y, some b) :: fr) | _ => none) ds ys → ∀ (i : Nat) (yv : List Value) (yd : List V) (news : Led), (∀ j v, its[i + j]? = some v → ∃ d, ds[j]? = some d ∧ Rep P.C news v d) → Reps P.C news yv yd → Sub news₀ news → (∀ p ∈ news, ∀ q ∈ hid, p.1 ≠ q.1) →
      (∀ yv' news', Reps P.C news' yv' (yd ++ ys) → Sub news news' → (∀ p ∈ news', ∀ q ∈ hid, p.1 ≠ q.1) → Fin yv' (hid ++ news')) →
      LCp.CompRestP P.prog P.w A h₀ L m env elt x y scope cl s (LCg.SrcAt h₀ ax its) (fun i v => its[i]? = some v) Fin ds.length i yv (hid ++ news)
  | [], _, .nil, i, yv, yd, news, hits, hy, sub, ap, fin => LCp.CompRestP.zero (fin yv news (by rw [List.append_nil]; exact hy) .rfl ap)
  | d :: ds, _, .cons (y := y₀) (ys := ys) hmk E Lr, i, yv, yd, news, hits, hy, sub, ap, fin => by
    rw [List.length_cons]
    refine LCp.CompRestP.succ fun v hv => ?_
    obtain ⟨d', hd', rv⟩ := hits 0 v hv
    rw [List.getElem?_cons_zero, Option.some.injEq] at hd'
    subst hd'
    split at hmk
    · rename_i da db
      cases hmk
      cases rv with
      | @tup t us k _ hm hr =>
        obtain ⟨us⟩ := us
        cases hr with
        | cons ra hr => cases hr with
          | cons rb hr =>
            cases hr
            refine ⟨t, _, _, _, k, rfl, List.mem_append_right _ hm, rfl, rfl, fun I oI Cc oC D m₂ h tk E' hC hx' hy2 F N off ne => ?_⟩
            refine wpAny_mono (E (compEnvC scope cl Cc env) A h₀ L m _ news _ _ (comp_genv G hkind) X (comp_st (A := A) F N ap off) ?_ (fun x g e => by rw [hclo] at e; cases e) fun v' news' h' tk' S' sub' rv' => ?_) (fun _ _ q => q) (fun _ _ q => q.elim)
            · intro z e hz
              unfold look at hz
              rw [List.lookup_cons] at hz
              split at hz
              · rename_i q
                have q' := eq_of_beq q
                subst q'
                simp only [Option.join_some, Option.some.injEq] at hz
                subst hz
                exact ⟨_, .inr (.inr ⟨oC, m₂, lookup_relabel_local hx, .tail _ (.head _), hC, hx'⟩), ra⟩
              · rw [List.lookup_cons] at hz
                split at hz
                · rename_i q
                  have q' := eq_of_beq q
                  subst q'
                  simp only [Option.join_some, Option.some.injEq] at hz
                  subst hz
                  exact ⟨_, .inr (.inr ⟨oC, m₂, lookup_relabel_local hy', .tail _ (.head _), hC, hy2⟩), rb⟩
                · exact comp_names (Cc := Cc) G hfr nm hcl sub (fun p hp => List.mem_cons_of_mem _ (List.mem_cons_of_mem _ (List.mem_cons_of_mem _ hp))) hz
            · refine comp_end S' off (.inr ⟨_, List.mem_append_right _ (sub' _ (sub _ hax)), rfl, _, rfl⟩) ?_
              refine rest2 hclo hkind hx hy' hxy hfr G X nm hcl hax Lr (i + 1) (yv ++ [v']) (yd ++ [y₀]) news' (fun j u hu => ?_) ((hy.mono sub').append (.cons rv' .nil)) (sub.trans sub') (fun p hp q hq => S'.ap p hp q (List.mem_cons_of_mem _ (List.mem_cons_of_mem _ (List.mem_cons_of_mem _ hq)))) fun yv' news'' hr s2 a2 => fin yv' news'' (by rw [List.append_assoc] at hr; exact hr) (sub'.trans s2) a2
              obtain ⟨d2, e2, r2⟩ := hits (j + 1) u (by rw [← hu]; congr 1; omega)
              exact ⟨d2, by simpa using e2, r2.mono sub'⟩
    · cases hmk

theorem comp2_ok (hclo : c.clo = none) (hok : compOk scope = true) (hx : scope.names.lookup x = some .local) (hy : scope.names.lookup y = some .local) (hxy : x ≠ y) (hfr : freeRho sc ρ scope.names scope.names = some fr) (hn : isName iter = true) {l ys : List V} (hl : l.length ≤ 1000)
    (E : EvOk P n c sc ρ iter (.list l)) (Lr : LcRel P n c (relabel scope (dEnv sc)) elt (fun d => match d with | .tup [a, b] => some ((x, some a) :: (y, some b) :: fr) | _ => none) l ys) : EvOk P n c sc ρ (.ListComp elt [⟨.Tuple [.Name x px, .Name y py] kk tp, iter, [], 0⟩] scope pos) (.list ys) := by
  intro env A h₀ L m hid news s Q G X S nm cc back
  obtain ⟨hcell, hkind, hnames⟩ := compOk_spec hok
  obtain ⟨cl, hclos, hcl⟩ := closureFor_free (scope := scope) (env := env) fun z hz => by
    obtain ⟨h3, d, hd⟩ := (freeRho_spec hfr).2 z hz
    obtain ⟨v, hv, _⟩ := nm z d hd
    have hk : env.kindOf z = some .cell := by show env.scope.names.lookup z = _; rw [G.sc]; exact h3
    rcases hv with ⟨q, _⟩ | ⟨cc, o, q, hc, _⟩ | ⟨o, m₂, q, _⟩
    · rw [hk] at q; cases q
    · exact ⟨cc, hc⟩
    · rw [hk] at q; cases q
  refine LCp.ListComp_P S.F hclos hcell hkind hnames hx hy hxy (E env A h₀ L m hid news s _ G X S nm cc fun v news' h' tk' S' sub rv => ?_) (by cases iter <;> first | (intro _; rfl) | cases hn)
  cases rv with
  | @list ax its k _ hm hr =>
    have hsz : its.size = l.length := by rw [← hr.length, Array.length_toList]
    refine LCp.SrcLP.ledger X.hh S'.F S'.N (List.mem_append_right _ hm) (by rw [hsz, sizeLine_eq]; omega) fun g => ?_
    rw [hsz]
    refine rest2 hclo hkind hx hy hxy hfr G X (nm.mono sub) hcl hm Lr 0 [] [] news' (fun j u hu => ?_) .nil .rfl S'.ap fun yv' news'' hr' s2 a2 D h2 tk2 F2 N2 o2 => ?_
    · rw [Nat.zero_add] at hu
      exact hr.at' (by rw [Array.getElem?_toList]; exact hu)
    · exact back _ _ h2 tk2 (St.alloc F2 N2 a2 fun q hq => off1_mem o2 q (List.mem_append_left _ hq)) (sub.trans (s2.trans .cons)) (.list (.head _) (by simpa using hr'.mono .cons))
end
end Mine

end
-- part E8
section
open PySem PySem.W PySem.Calls PyProof.Rows
set_option Elab.async false
set_option maxRecDepth 100000
set_option linter.unusedVariables false

namespace Mine
section
variable {P : Prm} {n : Nat} {c : Cfg} {r : Run}

theorem okName_dbg {x : Str} (h : okName x = true) : (x == "__debug__") = false := by
  unfold okName at h
  simp only [Bool.and_eq_true, Bool.not_eq_true'] at h
  exact h.1

theorem cmp1_ok {sc : Scope} {ρ : Rho} {l e : Expr} {op : CmpOp} {p : Pos} {a b d : V} (E1 : EvOk P n c sc ρ l a) (E2 : EvOk P n c sc ρ e b)
    (C : ∀ (A : Around) (h₀ : Heap) (L : Addr) (m : Str → Option Value) (hid news : Led) (s : Shared) (Q : Value → Shared → Prop) (x y : Value),
      Cx P n A h₀ L → St h₀ L s.heap m hid news → Rep P.C news x a → Rep P.C news y b → Back P h₀ L m hid news s Q d → wpAny (model P.prog P.w) A (compareOp op x y) Q (fun _ _ => False) s) (hb : behindInMarks op e = false) : EvOk P n c sc ρ (.Compare l [op] [e] p) d := by
  intro env A h₀ L m hid news s Q G X S nm cl back
  refine wpAny_Compare1 (E1 env A h₀ L m hid news s _ G X S nm cl fun v news' h' tk' S' sub rv => ?_) hb
  refine E2 env A h₀ L m hid news' _ _ G X S' (nm.mono sub) (cl.mono sub) fun v2 news2 h2 tk2 S2 sub2 rv2 => ?_
  exact C A h₀ L m hid news2 _ Q v v2 X S2 (rv.mono sub2) rv2 fun v3 news3 h3 tk3 S3 sub3 rv3 => back _ _ _ _ S3 (sub.trans (sub2.trans sub3)) rv3

theorem base_eq {o : Expr} {ap p : Pos} {env : Env} (hb : isBase o = true) (hl : (ap.endLine == p.line) = true) : ∃ pl : Sem Bool, eval (.Call (.Attribute o "bit_length" ap) [] [] p) env = (do
      let ov ← eval o env
      standAt ap.atName
      let (f, first) ← holding [ov] (getMethod ov "bit_length" pl)
      callWith p f first (backTo p (starEach [] env)) []) := by
  have e1 : ∃ pl : Sem Bool, ∀ ov, methodCall o "bit_length" ap p env ov 0 [] [] = (do
      let (f, first) ← holding [ov] (getMethod ov "bit_length" pl)
      callWith p f first (backTo p (starEach [] env)) []) := by
    refine' ⟨_, fun ov => ?_⟩
    rotate_left
    have e2 : methodCallPos (methodCallForm 0 [] []) o env ap p = pure p := by
      unfold methodCallPos
      rw [hl]
      rfl
    unfold methodCall
    rw [e2]
    rfl
  have e3 : eval (.Call (.Attribute o "bit_length" ap) [] [] p) env = (do
      let ov ← eval o env
      standAt ap.atName
      methodCall o "bit_length" ap p env ov 0 [] []) := by
    unfold isBase at hb
    split at hb
    · rfl
    · rfl
    · cases hb
  obtain ⟨pl, e1⟩ := e1
  refine ⟨pl, ?_⟩
  rw [e3]
  simp only [e1]
theorem bit_ok {sc : Scope} {ρ : Rho} {o : Expr} {a : Int} {ap p : Pos} (E1 : EvOk P n c sc ρ o (.int a)) (hb : isBase o = true) (hl : (ap.endLine == p.line) = true) : EvOk P n c sc ρ (.Call (.Attribute o "bit_length" ap) [] [] p) (.int (Builtin.Int.intBits a)) := by
  intro env A h₀ L m hid news s Q G X S nm cl back
  obtain ⟨pl, hpl⟩ := base_eq (env := env) hb hl
  have fin : ∀ v (s₁ : Shared), (∃ news' h' tk', s₁ = { s with heap := h', toks := tk' } ∧ St h₀ L h' m hid news' ∧ Sub news news' ∧ Rep P.C news' v (.int a)) →
      wpAny (model P.prog P.w) A (getMethod v "bit_length" pl) (fun fx s₂ => wpAny (model P.prog P.w) A (callWith p fx.1 fx.2 (backTo p (starEach [] env)) []) Q (fun _ _ => False) s₂) (fun _ _ => False) s₁ := by
    rintro v s₁ ⟨news', h', tk', rfl, S', sub, rv⟩
    cases rv
    exact getMethod_int_bit_length (callWith_method0 (PyProof.Rows.call_int_bit_length (back _ _ _ _ S' sub (.int ..))))
  have E2 := E1 env A h₀ L m hid news s (fun v s₁ => ∃ news' h' tk', s₁ = { s with heap := h', toks := tk' } ∧ St h₀ L h' m hid news' ∧ Sub news news' ∧ Rep P.C news' v (.int a)) G X S nm cl fun v news' h' tk' S' sub rv => ⟨news', h', tk', rfl, S', sub, rv⟩
  exact MethodCall_ (pl := pl) (wpAny_mono E2 fin fun _ _ q => q) hpl

theorem stepEv_ok (PO : PrmOk P) (PC : ConOk P c) (PH : PhiOk P n c.φ) (R : RunOk P n c r) {sc : Scope} {ρ : Rho} {e : Expr} {k : Kon} {res : V} (h : stepEv c r sc ρ e k = some res) : ∃ d, k d = some res ∧ EvOk P n c sc ρ e d := by
  unfold stepEv at h
  cases e with
  | BoolOp op vs p =>
    cases op with
    | And =>
      cases vs with
      | nil =>
        exact no h
      | cons e es =>
        cases es with
        | nil =>
          dsimp only at h
          obtain ⟨d, hd, E1⟩ := R.ev _ _ _ _ _ h
          exact ⟨d, hd, fun env A h₀ L m hid news s Q G X S nm cl back => BoolOp_one (E1 env A h₀ L m hid news s _ G X S nm cl back)⟩
        | cons e2 es =>
          dsimp only at h
          obtain ⟨a, ha, E1⟩ := R.ev _ _ _ _ _ h
          split at ha
          · obtain ⟨d, hd, E2⟩ := R.ev _ _ _ _ _ ha
            refine ⟨d, hd, fun env A h₀ L m hid news s Q G X S nm cl back => BoolOp_and (E1 env A h₀ L m hid news s _ G X S nm cl fun v news' h' tk' S' sub rv => ?_)⟩
            cases rv
            refine wpAny_truthy_bool ?_
            rw [if_pos rfl]
            exact E2 env A h₀ L m hid news' _ _ G X S' (nm.mono sub) (cl.mono sub) fun v2 news2 h2 tk2 S2 sub2 rv2 => back _ _ _ _ S2 (sub.trans sub2) rv2
          · refine ⟨_, ha, fun env A h₀ L m hid news s Q G X S nm cl back => BoolOp_and (E1 env A h₀ L m hid news s _ G X S nm cl fun v news' h' tk' S' sub rv => ?_)⟩
            cases rv
            refine wpAny_truthy_bool ?_
            rw [if_neg Bool.false_ne_true]
            exact back _ _ _ _ S' sub (.bool _)
          · cases ha
    | Or =>
      cases vs with
      | nil =>
        exact no h
      | cons e es =>
        cases es with
        | nil =>
          dsimp only at h
          obtain ⟨d, hd, E1⟩ := R.ev _ _ _ _ _ h
          exact ⟨d, hd, fun env A h₀ L m hid news s Q G X S nm cl back => BoolOp_one (E1 env A h₀ L m hid news s _ G X S nm cl back)⟩
        | cons e2 es =>
          dsimp only at h
          obtain ⟨a, ha, E1⟩ := R.ev _ _ _ _ _ h
          split at ha
          · refine ⟨_, ha, fun env A h₀ L m hid news s Q G X S nm cl back => BoolOp_or (E1 env A h₀ L m hid news s _ G X S nm cl fun v news' h' tk' S' sub rv => ?_)⟩
            cases rv
            refine wpAny_truthy_bool ?_
            rw [if_pos rfl]
            exact back _ _ _ _ S' sub (.bool _)
          · obtain ⟨d, hd, E2⟩ := R.ev _ _ _ _ _ ha
            refine ⟨d, hd, fun env A h₀ L m hid news s Q G X S nm cl back => BoolOp_or (E1 env A h₀ L m hid news s _ G X S nm cl fun v news' h' tk' S' sub rv => ?_)⟩
            cases rv
            refine wpAny_truthy_bool ?_
            rw [if_neg Bool.false_ne_true]
            exact E2 env A h₀ L m hid news' _ _ G X S' (nm.mono sub) (cl.mono sub) fun v2 news2 h2 tk2 S2 sub2 rv2 => back _ _ _ _ S2 (sub.trans sub2) rv2
          · cases ha
  | BinOp l op e p =>
    dsimp only at h
    obtain ⟨a, ha, E1⟩ := R.ev _ _ _ _ _ h
    obtain ⟨b, hb, E2⟩ := R.ev _ _ _ _ _ ha
    rw [PC.o] at hb
    obtain ⟨d, hd, C⟩ := binop_ok (P := P) (n := n) hb
    refine ⟨d, hd, fun env A h₀ L m hid news s Q G X S nm cl back => ?_⟩
    refine wpAny_BinOp (E1 env A h₀ L m hid news s _ G X S nm cl fun v news' h' tk' S' sub rv => ?_)
    refine E2 env A h₀ L m hid news' _ _ G X S' (nm.mono sub) (cl.mono sub) fun v2 news2 h2 tk2 S2 sub2 rv2 => ?_
    exact C A h₀ L m hid news2 _ Q v v2 X S2 (rv.mono sub2) rv2 fun v3 news3 h3 tk3 S3 sub3 rv3 => back _ _ _ _ S3 (sub.trans (sub2.trans sub3)) rv3
  | UnaryOp op e p =>
    cases op with
    | Not =>
      dsimp only at h
      obtain ⟨a, ha, E1⟩ := R.ev _ _ _ _ _ h
      split at ha
      · refine ⟨_, ha, fun env A h₀ L m hid news s Q G X S nm cl back => UnaryOp_ (E1 env A h₀ L m hid news s _ G X S nm cl fun v news' h' tk' S' sub rv => ?_)⟩
        cases rv
        exact not_of (wpAny_truthy_bool (back _ _ _ _ S' sub (.bool _)))
      · cases ha
    | USub =>
      dsimp only at h
      obtain ⟨a, ha, E1⟩ := R.ev _ _ _ _ _ h
      split at ha
      · refine ⟨_, ha, fun env A h₀ L m hid news s Q G X S nm cl back => UnaryOp_ (E1 env A h₀ L m hid news s _ G X S nm cl fun v news' h' tk' S' sub rv => ?_)⟩
        cases rv
        exact PyProof.Rows.neg_int (back _ _ _ _ S' sub (.int ..))
      · cases ha
    | _ => exact no h
  | IfExp t b o p =>
    dsimp only at h
    obtain ⟨b, hb, T⟩ := R.tr _ _ _ _ _ h
    cases b with
    | true =>
      obtain ⟨d, hd, E1⟩ := R.ev _ _ _ _ _ hb
      refine ⟨d, hd, fun env A h₀ L m hid news s Q G X S nm cl back => IfExp_ (T env A h₀ L m hid news s _ _ (.inl rfl) G X S nm cl fun news' h' tk' S' sub => ?_)⟩
      rw [if_pos rfl]
      exact E1 env A h₀ L m hid news' _ _ G X S' (nm.mono sub) (cl.mono sub) fun v2 news2 h2 tk2 S2 sub2 rv2 => back _ _ _ _ S2 (sub.trans sub2) rv2
    | false =>
      obtain ⟨d, hd, E1⟩ := R.ev _ _ _ _ _ hb
      refine ⟨d, hd, fun env A h₀ L m hid news s Q G X S nm cl back => IfExp_ (T env A h₀ L m hid news s _ _ (.inl rfl) G X S nm cl fun news' h' tk' S' sub => ?_)⟩
      rw [if_neg Bool.false_ne_true]
      exact E1 env A h₀ L m hid news' _ _ G X S' (nm.mono sub) (cl.mono sub) fun v2 news2 h2 tk2 S2 sub2 rv2 => back _ _ _ _ S2 (sub.trans sub2) rv2
  | ListComp elt gens scope p =>
    cases gens with
    | nil =>
      exact no h
    | cons g gs =>
      cases g with
      | mk tg it ifs ia =>
        cases tg with
        | Name x xp =>
          cases ifs with
          | cons _ _ =>
            exact no h
          | nil =>
            cases ia with
            | negSucc _ =>
              exact no h
            | ofNat ia =>
              cases ia with
              | zero =>
                cases gs with
                | nil =>
                  conv at h => lhs; whnf
                  split at h
                  · cases h
                  · rename_i hclo
                    split at h
                    · rename_i q
                      simp only [Bool.and_eq_true, beq_iff_eq] at q
                      split at h
                      · rename_i fr hfr
                        obtain ⟨a, ha, E1⟩ := R.ev _ _ _ _ _ h
                        split at ha
                        · split at ha
                          · rename_i hl
                            obtain ⟨ys, hk, Lr⟩ := lcGo_ok R ha
                            exact ⟨_, hk, comp1_ok hclo q.1.2 q.2 hfr q.1.1 hl E1 Lr⟩
                          · cases ha
                        · cases ha
                      · cases h
                    · cases h
                | cons _ _ =>
                  exact no h
              | succ _ =>
                exact no h
        | Tuple ts tk tp =>
          cases ts with
          | nil =>
            exact no h
          | cons t1 ts =>
            cases t1 with
            | Name x xp =>
              cases ts with
              | nil =>
                exact no h
              | cons t2 ts =>
                cases t2 with
                | Name y yp =>
                  cases ts with
                  | cons _ _ =>
                    exact no h
                  | nil =>
                    cases ifs with
                    | cons _ _ =>
                      exact no h
                    | nil =>
                      cases ia with
                      | negSucc _ =>
                        exact no h
                      | ofNat ia =>
                        cases ia with
                        | zero =>
                          cases gs with
                          | nil =>
                            conv at h => lhs; whnf
                            split at h
                            · cases h
                            · rename_i hclo
                              split at h
                              · rename_i q
                                simp only [Bool.and_eq_true, beq_iff_eq, Bool.not_eq_true', beq_eq_false_iff_ne] at q
                                split at h
                                · rename_i fr hfr
                                  obtain ⟨a, ha, E1⟩ := R.ev _ _ _ _ _ h
                                  split at ha
                                  · split at ha
                                    · rename_i hl
                                      obtain ⟨ys, hk, Lr⟩ := lcGo_ok R ha
                                      exact ⟨_, hk, comp2_ok hclo q.1.1.1.2 q.1.1.2 q.1.2 q.2 hfr q.1.1.1.1 hl E1 Lr⟩
                                    · cases ha
                                  · cases ha
                                · cases h
                              · cases h
                          | cons _ _ =>
                            exact no h
                        | succ _ =>
                          exact no h
                | _ => exact no h
            | _ => exact no h
        | _ => exact no h
  | Compare l ops es p =>
    cases ops with
    | nil =>
      exact no h
    | cons op ops =>
      cases ops with
      | cons _ _ =>
        exact no h
      | nil =>
        cases es with
        | nil =>
          exact no h
        | cons e es =>
          cases es with
          | cons _ _ =>
            exact no h
          | nil =>
            dsimp only at h
            split at h
            · cases h
            · rename_i hm
              obtain ⟨a, ha, E1⟩ := R.ev _ _ _ _ _ h
              obtain ⟨b, hb, E2⟩ := R.ev _ _ _ _ _ ha
              obtain ⟨d, hd, C⟩ := cmp_ok (P := P) (n := n) hb
              exact ⟨d, hd, cmp1_ok E1 E2 C (by simpa using hm)⟩
  | Call f as ks p =>
    cases f with
    | Name f fp =>
      cases as with
      | nil =>
        exact no h
      | cons e es =>
        cases ks with
        | cons _ _ =>
          exact no h
        | nil =>
          dsimp only at h
          split at h
          · rename_i hok
            split at h
            · rename_i hk
              split at h
              · rename_i b hb
                obtain ⟨ds, hds, E1, hp⟩ := evs_ok R h
                rw [PC.o] at hds
                exact callB_ok PO E1 hp (okName_dbg hok) hk hb hds
              · obtain ⟨ds, hds, E1, hp⟩ := evs_ok R h
                exact callG_ok PH E1 hp (okName_dbg hok) hk hds
            · rename_i hk
              split at h
              · rename_i x g hc
                split at h
                · rename_i q
                  obtain ⟨ds, hds, E1, hp⟩ := evs_ok R h
                  split at hds
                  · rename_i d hg
                    have q' := eq_of_beq q
                    subst q'
                    exact ⟨d, hds, callC_ok hc E1 hp (okName_dbg hok) hk hg⟩
                  · cases hds
                · cases h
              · cases h
            · cases h
          · cases h
    | Attribute o n ap =>
      cases as with
      | cons _ _ =>
        exact no h
      | nil =>
        cases ks with
        | cons _ _ =>
          exact no h
        | nil =>
          dsimp only at h
          split at h
          · rename_i q
            obtain ⟨a, ha, E1⟩ := R.ev _ _ _ _ _ h
            split at ha
            · unfold isBit at q
              rw [Bool.and_eq_true, Bool.and_eq_true] at q
              have q' := eq_of_beq q.1.1
              subst q'
              exact ⟨_, ha, bit_ok E1 q.1.2 q.2⟩
            · cases ha
          · cases h
    | _ => exact no h
  | Constant v kk p =>
    cases v with
    | int i =>
      dsimp only at h
      exact ⟨_, h, fun env A h₀ L m hid news s Q G X S nm cl back => wpAny_Constant_int (back _ _ _ _ S .rfl (.int ..))⟩
    | bool b =>
      dsimp only at h
      exact ⟨_, h, fun env A h₀ L m hid news s Q G X S nm cl back => Constant_bool (back _ _ _ _ S .rfl (.bool ..))⟩
    | none =>
      dsimp only at h
      exact ⟨_, h, fun env A h₀ L m hid news s Q G X S nm cl back => PyProof.Rows.Constant_none (back _ _ _ _ S .rfl .none)⟩
    | str s =>
      dsimp only at h
      exact ⟨_, h, fun env A h₀ L m hid news s Q G X S nm cl back => Constant_str (back _ _ _ _ S .rfl (.str ..))⟩
    | _ => exact no h
  | Attribute v a p =>
    cases v with
    | Name x xp =>
      dsimp only at h
      obtain ⟨a, ha, E1⟩ := R.ev _ _ _ _ _ h
      split at ha
      · split at ha
        · rename_i q
          exact ⟨_, ha, attr_ok PO E1 (.inl ⟨eq_of_beq q, rfl⟩)⟩
        · split at ha
          · rename_i q
            exact ⟨_, ha, attr_ok PO E1 (.inr ⟨eq_of_beq q, rfl⟩)⟩
          · cases ha
      · cases ha
    | _ => exact no h
  | Subscript v sl p =>
    cases sl with
    | Constant v kk p =>
      cases v with
      | int i =>
        dsimp only at h
        obtain ⟨a, ha, E1⟩ := R.ev _ _ _ _ _ h
        split at ha
        · obtain ⟨d, hd, C⟩ := item_ok (P := P) ha
          refine ⟨d, hd, fun env A h₀ L m hid news s Q G X S nm cl back => Subscript_ (E1 env A h₀ L m hid news s _ G X S nm cl fun v news' h' tk' S' sub rv => wpAny_Constant_int ?_)⟩
          exact C A h₀ L m hid news' _ Q v _ _ _ _ S' rv fun v2 news2 h2 tk2 S2 sub2 rv2 => back _ _ _ _ S2 (sub.trans sub2) rv2
        · obtain ⟨d, hd, C⟩ := itemL_ok (P := P) ha
          refine ⟨d, hd, fun env A h₀ L m hid news s Q G X S nm cl back => Subscript_ (E1 env A h₀ L m hid news s _ G X S nm cl fun v news' h' tk' S' sub rv => wpAny_Constant_int ?_)⟩
          exact C A h₀ L m hid news' _ Q v _ _ _ _ S' rv fun v2 news2 h2 tk2 S2 sub2 rv2 => back _ _ _ _ S2 (sub.trans sub2) rv2
        · cases ha
      | _ => exact no h
    | _ => exact no h
  | Name x p =>
    dsimp only at h
    exact nameV_ok PC h
  | List es p =>
    dsimp only at h
    obtain ⟨ds, hds, E1, _⟩ := evs_ok R h
    split at hds
    · exact ⟨_, hds, list_ok E1 (by assumption)⟩
    · cases hds
  | Tuple es kk p =>
    dsimp only at h
    obtain ⟨ds, hds, E1, _⟩ := evs_ok R h
    split at hds
    · exact ⟨_, hds, tuple_ok E1 (by assumption)⟩
    · cases hds
  | _ => exact no h
end
end Mine

end
-- part E9
section
open PySem PySem.W PySem.Calls PyProof.Rows
set_option Elab.async false
set_option maxRecDepth 100000
set_option linter.unusedVariables false

namespace Mine
section
variable {P : Prm} {n : Nat} {c : Cfg} {r : Run}

theorem tr_of_ev {sc : Scope} {ρ : Rho} {e : Expr} {b : Bool} (E : EvOk P n c sc ρ e (.bool b)) (hb : ∀ op es p, e ≠ .BoolOp op es p) (he : ∀ env, isTrue e env (eval e env) = (do let v ← eval e env; standAt e.pos; holding [v] (truthy v))) : TrOk P n c sc ρ e b := by
  intro env A h₀ L m hid news s whole Q hw G X S nm cl back
  rcases hw with rfl | ⟨op, es, p, q⟩
  · refine isTrue_plain (E env A h₀ L m hid news s _ G X S nm cl fun v news' h' tk' S' sub rv => ?_) (he env)
    cases rv
    exact wpAny_truthy_bool (back _ _ _ S' sub)
  · exact absurd q (hb op es p)

theorem stepTr_ok (R : RunOk P n c r) {sc : Scope} {ρ : Rho} {e : Expr} {k : Bool → Option V} {res : V} (h : stepTr r sc ρ e k = some res) : ∃ b, k b = some res ∧ TrOk P n c sc ρ e b := by
  unfold stepTr at h
  cases e with
  | Compare l ops es p =>
    cases ops with
    | nil =>
      exact no h
    | cons op ops =>
      cases ops with
      | cons _ _ =>
        exact no h
      | nil =>
        cases es with
        | nil =>
          exact no h
        | cons e es =>
          cases es with
          | cons _ _ =>
            exact no h
          | nil =>
            dsimp only at h
            split at h
            · cases h
            · rename_i hm
              obtain ⟨a, ha, E1⟩ := R.ev _ _ _ _ _ h
              obtain ⟨b, hb, E2⟩ := R.ev _ _ _ _ _ ha
              obtain ⟨d, hd, C⟩ := cmp_ok (P := P) (n := n) hb
              split at hd
              · refine ⟨_, hd, fun env A h₀ L m hid news s whole Q hw G X S nm cl back => ?_⟩
                refine wpAny_isTrue_Compare1 (E1 env A h₀ L m hid news s _ G X S nm cl fun v news' h' tk' S' sub rv => ?_) (by simpa using hm)
                refine E2 env A h₀ L m hid news' _ _ G X S' (nm.mono sub) (cl.mono sub) fun v2 news2 h2 tk2 S2 sub2 rv2 => ?_
                refine C A h₀ L m hid news2 _ _ v v2 X S2 (rv.mono sub2) rv2 fun v3 news3 h3 tk3 S3 sub3 rv3 => ?_
                cases rv3
                exact wpAny_truthy_bool (back _ _ _ S3 (sub.trans (sub2.trans sub3)))
              · cases hd
  | BoolOp op vs p =>
    cases op with
    | And =>
      cases vs with
      | nil =>
        dsimp only at h
        exact ⟨_, h, fun env A h₀ L m hid news s whole Q hw G X S nm cl back => isTrue_and_nil (back _ _ _ S .rfl)⟩
      | cons e es =>
        dsimp only at h
        obtain ⟨b, hb, T⟩ := R.tr _ _ _ _ _ h
        cases b with
        | true =>
          obtain ⟨d, hd, T2⟩ := R.tr _ _ _ _ _ hb
          refine ⟨d, hd, fun env A h₀ L m hid news s whole Q hw G X S nm cl back => isTrue_and (T env A h₀ L m hid news s _ _ (.inl rfl) G X S nm cl fun news' h' tk' S' sub => ?_)⟩
          rw [if_pos rfl]
          exact T2 env A h₀ L m hid news' _ _ _ (.inr ⟨_, _, _, rfl⟩) G X S' (nm.mono sub) (cl.mono sub) fun news2 h2 tk2 S2 sub2 => back _ _ _ S2 (sub.trans sub2)
        | false =>
          refine ⟨false, hb, fun env A h₀ L m hid news s whole Q hw G X S nm cl back => isTrue_and (T env A h₀ L m hid news s _ _ (.inl rfl) G X S nm cl fun news' h' tk' S' sub => ?_)⟩
          rw [if_neg Bool.false_ne_true]
          exact back _ _ _ S' sub
    | Or =>
      cases vs with
      | nil =>
        dsimp only at h
        exact ⟨_, h, fun env A h₀ L m hid news s whole Q hw G X S nm cl back => isTrue_or_nil (back _ _ _ S .rfl)⟩
      | cons e es =>
        dsimp only at h
        obtain ⟨b, hb, T⟩ := R.tr _ _ _ _ _ h
        cases b with
        | true =>
          refine ⟨true, hb, fun env A h₀ L m hid news s whole Q hw G X S nm cl back => isTrue_or (T env A h₀ L m hid news s _ _ (.inl rfl) G X S nm cl fun news' h' tk' S' sub => ?_)⟩
          rw [if_pos rfl]
          exact back _ _ _ S' sub
        | false =>
          obtain ⟨d, hd, T2⟩ := R.tr _ _ _ _ _ hb
          refine ⟨d, hd, fun env A h₀ L m hid news s whole Q hw G X S nm cl back => isTrue_or (T env A h₀ L m hid news s _ _ (.inl rfl) G X S nm cl fun news' h' tk' S' sub => ?_)⟩
          rw [if_neg Bool.false_ne_true]
          exact T2 env A h₀ L m hid news' _ _ _ (.inr ⟨_, _, _, rfl⟩) G X S' (nm.mono sub) (cl.mono sub) fun news2 h2 tk2 S2 sub2 => back _ _ _ S2 (sub.trans sub2)
  | UnaryOp op e p =>
    cases op with
    | Not =>
      dsimp only at h
      obtain ⟨b, hb, T⟩ := R.tr _ _ _ _ _ h
      exact ⟨!b, hb, fun env A h₀ L m hid news s whole Q hw G X S nm cl back => isTrue_not (T env A h₀ L m hid news s _ _ (.inl rfl) G X S nm cl fun news' h' tk' S' sub => back _ _ _ S' sub)⟩
    | _ => exact no h
  | Name x p =>
    dsimp only at h
    obtain ⟨a, ha, E1⟩ := R.ev _ _ _ _ _ h
    split at ha
    · exact ⟨_, ha, tr_of_ev E1 (fun _ _ _ q => nomatch q) fun _ => rfl⟩
    · cases ha
  | Constant v kk p =>
    cases v with
    | bool b =>
      dsimp only at h
      refine ⟨_, h, fun env A h₀ L m hid news s whole Q hw G X S nm cl back => ?_⟩
      rcases hw with rfl | ⟨op, es, p, q⟩
      · exact isTrue_plain (Constant_bool (wpAny_truthy_bool (back _ _ _ S .rfl))) rfl
      · cases q
    | _ => exact no h
  | Call f as ks p =>
    dsimp only at h
    obtain ⟨a, ha, E1⟩ := R.ev _ _ _ _ _ h
    split at ha
    · exact ⟨_, ha, tr_of_ev E1 (fun _ _ _ q => nomatch q) fun _ => rfl⟩
    · cases ha
  | _ => exact no h

theorem lookup_upd {x y : Str} {d : V} : ∀ {ρ : Rho}, (ρ.lookup x).isSome = true → (upd x d ρ).lookup y = if y = x then some (some d) else ρ.lookup y
  | [], h => by cases h
  | (z, o) :: r, h => by
    unfold upd
    by_cases q : (z == x) = true
    · rw [if_pos q]
      have q' := eq_of_beq q
      subst q'
      rw [List.lookup_cons, List.lookup_cons]
      by_cases e : y = z
      · subst e; simp
      · have e' : (y == z) = false := by simpa using e
        rw [e', if_neg e]
    · rw [if_neg q]
      have q' : (x == z) = false := by
        cases hq : x == z with
        | false => rfl
        | true => exact absurd (by rw [eq_of_beq hq]; exact beq_self_eq_true z) q
      have h' : (r.lookup x).isSome = true := by rw [List.lookup_cons, q'] at h; exact h
      rw [List.lookup_cons, List.lookup_cons]
      cases e : y == z with
      | true =>
        have e' := eq_of_beq e
        subst e'
        rw [if_neg]
        intro c'
        subst c'
        rw [beq_self_eq_true] at q'
        cases q'
      | false => exact lookup_upd h'

theorem look_upd {x y : Str} {d : V} {ρ : Rho} (h : (ρ.lookup x).isSome = true) : look (upd x d ρ) y = if y = x then some d else look ρ y := by
  unfold look
  rw [lookup_upd h]
  split <;> rfl

theorem cell_st {h₀ h h' : Heap} {L cc : Addr} {m : Str → Option Value} {hid news : Led} {o o' : Obj} (S : St h₀ L h m hid news) (hm : (cc, o) ∈ hid) (hs : Heap.SameBut cc h h') (ho' : h'.get? cc = some o') :
    St h₀ L h' m ((cc, o') :: hid.filter fun p => !(p.1 == cc)) news := by
  have hc := S.N _ (List.mem_append_left _ hm)
  refine ⟨⟨S.F.ns.sameBut hs (Ne.symm hc.2.1), fun b ob e => (hs.2 b (fun q => ?_)).trans (S.F.keep b ob e), S.F.above⟩, fun p hp => ?_, fun p hp q hq => ?_⟩
  · rw [q, hc.2.2] at e; cases e
  · rcases List.mem_append.mp hp with hp | hp
    · rcases List.mem_cons.mp hp with rfl | hp
      · exact ⟨ho', hc.2⟩
      · rw [List.mem_filter] at hp
        have z := S.N p (List.mem_append_left _ hp.1)
        exact ⟨(hs.2 p.1 (by simpa using hp.2)).trans z.1, z.2⟩
    · have z := S.N p (List.mem_append_right _ hp)
      exact ⟨(hs.2 p.1 (S.ap p hp _ hm)).trans z.1, z.2⟩
  · rcases List.mem_cons.mp hq with rfl | hq
    · exact S.ap p hp (cc, o) hm
    · exact S.ap p hp q (List.mem_filter.mp hq).1

theorem sto_ok {sc : Scope} {ρ : Rho} {x : Str} {d : V} {k : Rho → Option V} {res : V} (h : sto c sc ρ x d k = some res) :
    ∃ ρ', k ρ' = some res ∧ ∀ (env : Env) (A : Around) (h₀ : Heap) (L : Addr) (m : Str → Option Value) (hid news : Led) (s : Shared) (v : Value) (Q : Unit → Shared → Prop),
      SEnv env L sc → St h₀ L s.heap m hid news → NmS P.C env L m hid news ρ → CloAt P n c.clo env L m news → Rep P.C news v d →
      (∀ m' hid' h' tk', St h₀ L h' m' hid' news → Keep env hid hid' → NmS P.C env L m' hid' news ρ' → CloAt P n c.clo env L m' news → Q () { s with heap := h', toks := tk' }) →
      wpAny (model P.prog P.w) A (storeName env x v) Q (fun _ _ => False) s := by
  unfold sto at h
  split at h
  · cases h
  rename_i hcl
  have hclo : ∀ y g, c.clo = some (y, g) → x ≠ y := fun y g e q => by
    rw [e] at hcl
    subst q
    simp at hcl
  split at h
  · cases h
  · rename_i hl
    have hs : (ρ.lookup x).isSome = true := by rw [hl]; rfl
    split at h
    · rename_i hk
      refine ⟨_, h, fun env A h₀ L m hid news s v Q G S nm cl rv back => ?_⟩
      have hk' : env.kindOf x = some .local := by show env.scope.names.lookup x = _; rw [G.sc]; exact hk
      refine wpAny_storeName_local hk' (G.l ▸ S.F.ns) (fun h' hn hb => ?_) (by rw [G.k]; rfl)
      rw [G.l] at hn hb
      refine back _ hid h' _ ⟨S.F.set hn hb, S.N.set hb, S.ap⟩ .rfl ⟨fun y e he => ?_, nm.ci⟩ fun y g hg => ?_
      · rw [look_upd hs] at he
        split at he
        · rename_i q
          subst q
          cases he
          exact ⟨v, .inl ⟨hk', G.l, by simp⟩, rv⟩
        · rename_i q
          obtain ⟨u, hu, ru⟩ := nm.nm y e he
          refine ⟨u, ?_, ru⟩
          rcases hu with ⟨a1, a2, a3⟩ | hu
          · exact .inl ⟨a1, a2, by simp only [if_neg q]; exact a3⟩
          · exact .inr hu
      · obtain ⟨a, o, h1, h2⟩ := cl y g hg
        exact ⟨a, o, by simp only [if_neg (Ne.symm (hclo y g hg))]; exact h1, h2⟩
    · rename_i hk
      refine ⟨_, h, fun env A h₀ L m hid news s v Q G S nm cl rv back => ?_⟩
      have hk' : env.kindOf x = some .cell := by show env.scope.names.lookup x = _; rw [G.sc]; exact hk
      obtain ⟨cc, hc⟩ := G.cn x hk'
      obtain ⟨o, w, hm, ho⟩ := nm.ci x cc hc
      refine wpAny_storeName_cell G.k hk' hc ⟨o, (S.N _ (List.mem_append_left _ hm)).1, ho⟩ fun h' hv hb => ?_
      obtain ⟨o', ho', hd'⟩ := hv
      have keep : ∀ p ∈ hid, p.1 ≠ cc → p ∈ (cc, o') :: hid.filter (fun p => !(p.1 == cc)) := fun p hp hne => List.mem_cons_of_mem _ (List.mem_filter.mpr ⟨hp, by simpa using hne⟩)
      refine back m _ h' _ (cell_st S hm hb ho') (fun p hp hne => keep p hp fun q => hne x hk' (q ▸ hc)) ⟨fun y e he => ?_, fun y c2 h2 => ?_⟩ cl
      · rw [look_upd hs] at he
        split at he
        · rename_i q
          subst q
          cases he
          exact ⟨v, .inr (.inl ⟨cc, o', .inl hk', hc, .head _, hd'⟩), rv⟩
        · rename_i q
          obtain ⟨u, hu, ru⟩ := nm.nm y e he
          refine ⟨u, ?_, ru⟩
          rcases hu with hu | ⟨c2, o2, a1, a2, a3, a4⟩ | ⟨o2, m₂, a1, a2, a3⟩
          · exact .inl hu
          · exact .inr (.inl ⟨c2, o2, a1, a2, keep _ a3 fun q2 => q (G.inj y x cc (by rw [← q2]; exact a2) hc), a4⟩)
          · refine .inr (.inr ⟨o2, m₂, a1, keep _ a2 fun q2 => ?_, a3⟩)
            have z := (S.N _ (List.mem_append_left _ a2)).2.1
            exact z G.l
      · by_cases q : c2 = cc
        · subst q
          exact ⟨o', _, .head _, hd'⟩
        · obtain ⟨o2, w2, m2, d2⟩ := nm.ci y c2 h2
          exact ⟨o2, w2, keep _ m2 q, d2⟩
    · cases h
end
end Mine

end
-- part E10
section
open PySem PySem.W PySem.Calls PyProof.Rows
set_option Elab.async false
set_option maxRecDepth 100000
set_option linter.unusedVariables false

namespace Mine
section
variable {P : Prm} {n : Nat} {c : Cfg} {r : Run}

inductive StFs (M : Model) (env : Env) : List (Value → Sem Unit) → List Str → Prop where
  | nil : StFs M env [] []
  | cons {f : Value → Sem Unit} {x : Str} {fs : List (Value → Sem Unit)} {xs : List Str} :
      (∀ (A : Around) (E : Value → Shared → Prop) (s : Shared) (v : Value) (Q : Unit → Shared → Prop), wpAny M A (storeName env x v) Q E s → wpAny M A (f v) Q E s) → StFs M env fs xs → StFs M env (f :: fs) (x :: xs)
theorem StFs.append {M : Model} {env : Env} : ∀ {fs gs : List (Value → Sem Unit)} {xs ys : List Str}, StFs M env fs xs → StFs M env gs ys → StFs M env (fs ++ gs) (xs ++ ys)
  | _, _, _, _, .nil, h => h
  | _, _, _, _, .cons a t, h => .cons a (t.append h)

theorem stos_ok {sc : Scope} : ∀ {xs : List Str} {ds : List V} {ρ : Rho} {k : Rho → Option V} {res : V}, stos c sc ρ xs ds k = some res →
    ∃ ρ', k ρ' = some res ∧ ∀ (env : Env) (A : Around) (h₀ : Heap) (L : Addr) (m : Str → Option Value) (hid news : Led) (s : Shared) (vs : List Value) (fs : List (Value → Sem Unit)) (Q : Unit → Shared → Prop),
      SEnv env L sc → StFs (model P.prog P.w) env fs xs → St h₀ L s.heap m hid news → NmS P.C env L m hid news ρ → CloAt P n c.clo env L m news → Reps P.C news vs ds →
      (∀ m' hid' h' tk', St h₀ L h' m' hid' news → Keep env hid hid' → NmS P.C env L m' hid' news ρ' → CloAt P n c.clo env L m' news → Q () { s with heap := h', toks := tk' }) →
      wpAny (model P.prog P.w) A (assignInOrder fs vs) Q (fun _ _ => False) s
  | [], [], ρ, k, res, h => ⟨ρ, h, fun env A h₀ L m hid news s vs fs Q G F S nm cl rv back => by
    cases F; cases rv
    exact assignInOrder_nil (back m hid _ _ S .rfl nm cl)⟩
  | x :: xs, d :: ds, ρ, k, res, h => by
    unfold stos at h
    obtain ⟨ρ1, h1, S1⟩ := sto_ok (P := P) (n := n) h
    obtain ⟨ρ2, h2, S2⟩ := stos_ok h1
    refine ⟨ρ2, h2, fun env A h₀ L m hid news s vs fs Q G F S nm cl rv back => ?_⟩
    cases F with
    | cons hf F =>
      cases rv with
      | cons r1 rs =>
        refine assignInOrder_cons (hf _ _ _ _ _ (S1 env A h₀ L m hid news s _ _ G S nm cl r1 fun m' hid' h' tk' S' kp nm' cl' => ?_))
        exact S2 env A h₀ L m' hid' news _ _ _ _ G F S' nm' cl' rs fun m2 hid2 h2 tk2 S2' kp2 nm2 cl2 => back m2 hid2 h2 tk2 S2' (kp.trans kp2) nm2 cl2
  | [], _ :: _, ρ, k, res, h => by unfold stos at h; cases h
  | _ :: _, [], ρ, k, res, h => by unfold stos at h; cases h

theorem namesOf_fs {M : Model} {env : Env} : ∀ {ts : List Expr} {xs : List Str}, namesOf ts = some xs →
    StFs M env ((assignEach ts env).map (·.2)) xs ∧ (assignEach ts env).length = xs.length ∧ (assignEach ts env).findIdx? (·.1) = none
  | [], xs, h => by
    simp only [namesOf, Option.some.injEq] at h
    subst h
    exact ⟨.nil, rfl, rfl⟩
  | .Name x p :: r, xs, h => by
    simp only [namesOf, Option.map_eq_some_iff] at h
    obtain ⟨ys, hy, rfl⟩ := h
    obtain ⟨h1, h2, h3⟩ := namesOf_fs (M := M) (env := env) hy
    refine ⟨.cons (fun A E s v Q h => PyProof.Rows.assign_Name h) h1, by show (assignEach r env).length + 1 = ys.length + 1; rw [h2], ?_⟩
    show List.findIdx? (·.1) ((false, assign (.Name x p) env) :: assignEach r env) = none
    rw [List.findIdx?_cons, h3]; rfl
  | .Starred .. :: _, _, h | .Attribute .. :: _, _, h | .Subscript .. :: _, _, h | .Tuple .. :: _, _, h | .List .. :: _, _, h | .Constant .. :: _, _, h | .BinOp .. :: _, _, h | .UnaryOp .. :: _, _, h
  | .BoolOp .. :: _, _, h | .NamedExpr .. :: _, _, h | .Lambda .. :: _, _, h | .IfExp .. :: _, _, h | .Dict .. :: _, _, h | .Set .. :: _, _, h | .ListComp .. :: _, _, h | .SetComp .. :: _, _, h | .DictComp .. :: _, _, h
  | .GeneratorExp .. :: _, _, h | .Await .. :: _, _, h | .Yield .. :: _, _, h | .YieldFrom .. :: _, _, h | .Compare .. :: _, _, h | .Call .. :: _, _, h | .FormattedValue .. :: _, _, h | .JoinedStr .. :: _, _, h
  | .Slice .. :: _, _, h => by simp [namesOf] at h

theorem bind_fs {M : Model} {env : Env} : ∀ (xs : List Str), StFs M env (xs.map fun n => bindName env n) xs
  | [] => .nil
  | x :: r => .cons (fun A E s v Q h => bindName_ h) (bind_fs r)

theorem swaps_eq {e : Expr} {t : Option Expr} {l : Nat} {env : Env} {sc : Scope} (h : env.scope = sc) : swapsWith e t l env = swapsWith e t l (dEnv sc) := by subst h; rfl
theorem swapsS_eq {e : Expr} {t : Expr} {l : Nat} {env : Env} {sc : Scope} (h : env.scope = sc) : swapsWithSole [t] e l env = swapsWithSole [t] e l (dEnv sc) := by subst h; rfl
theorem swapped_eq {e : Expr} {t : List Expr} {env : Env} {sc : Scope} (h : env.scope = sc) : swappedStores t e env = swappedStores t e (dEnv sc) := by subst h; rfl

noncomputable def RgOk (P : Prm) (n : Nat) (c : Cfg) (sc : Scope) (x : Str) (b : List Stmt) (cnt i : Nat) (ρ : Rho) (o : Out) : Prop :=
  ∀ (env : Env) (A : Around) (h₀ : Heap) (m : Str → Option Value) (hid news : Led) (s : Shared) (Q : Flow → Shared → Prop) (I : Addr) (n₀ : Nat),
    SEnv env env.locals sc → Cx P n A h₀ env.locals → (∀ p ∈ news, ∀ q ∈ hid, p.1 ≠ q.1) → (∀ p ∈ hid ++ news, p.1 ≠ I) → NmS P.C env env.locals m hid news ρ → CloAt P n c.clo env env.locals m news →
    Post P n c env h₀ env.locals hid news s Q o → RangeRest P.prog P.w A (fun _ _ => False) h₀ env x b Q s I 0 n₀ cnt i m (hid ++ news)

theorem Post.weaken {env : Env} {h₀ : Heap} {L : Addr} {hid hid' news news' : Led} {s : Shared} {h' : Heap} {tk' : Nat} {Q : Flow → Shared → Prop} {o : Out} (B : Post P n c env h₀ L hid news s Q o) (sub : Sub news news') (kp : Keep env hid hid') :
    Post P n c env h₀ L hid' news' { s with heap := h', toks := tk' } Q o := by
  cases o with
  | next ρ => exact fun m2 hid2 news2 h2 tk2 S2 sub2 kp2 nm2 cl2 => B m2 hid2 news2 h2 tk2 S2 (sub.trans sub2) (kp.trans kp2) nm2 cl2
  | ret d => exact fun v m2 hid2 news2 h2 tk2 S2 sub2 kp2 rv => B v m2 hid2 news2 h2 tk2 S2 (sub.trans sub2) (kp.trans kp2) rv

theorem rangeGo_ok (R : RunOk P n c r) (hclo : c.clo = none) {sc : Scope} {x : Str} {b : List Stmt} (hx : sc.names.lookup x = some .local) {kn : Rho → Option V} {kr : Kon} : ∀ {cnt i : Nat} {ρ : Rho} {res : V}, rangeGo (fun ρ' => r.ex sc ρ' b) x kn kr cnt i ρ = some res →
    ∃ o, kont kn kr o = some res ∧ RgOk P n c sc x b cnt i ρ o
  | 0, i, ρ, res, h => ⟨.next ρ, h, fun env A h₀ m hid news s Q I n₀ G X ap hI nm cl back => RangeRest.zero fun h tk F N => back m hid news h tk ⟨F, N, ap⟩ .rfl .rfl nm cl⟩
  | cnt + 1, i, ρ, res, h => by
    unfold rangeGo at h
    split at h
    · rename_i hs
      obtain ⟨o, ho, E⟩ := R.ex _ _ _ _ _ _ h
      have turn : ∀ (env : Env) (A : Around) (h₀ : Heap) (m : Str → Option Value) (hid news : Led) (s : Shared) (Q : Flow → Shared → Prop) (I : Addr) (n₀ : Nat), SEnv env env.locals sc → Cx P n A h₀ env.locals → (∀ p ∈ news, ∀ q ∈ hid, p.1 ≠ q.1) → (∀ p ∈ hid ++ news, p.1 ≠ I) → NmS P.C env env.locals m hid news ρ →
          (∀ (it : Obj) (h : Heap) (tk : Nat), Post P n c env h₀ env.locals ((I, it) :: hid) news { s with heap := h, toks := tk } (UnrPost h₀ env.locals { s with heap := h, toks := tk } I it (RangeRest P.prog P.w A (fun _ _ => False) h₀ env x b Q s I 0 n₀ cnt (i + 1)) Q) o) →
          RangeRest P.prog P.w A (fun _ _ => False) h₀ env x b Q s I 0 n₀ (cnt + 1) i m (hid ++ news) := by
        intro env A h₀ m hid news s Q I n₀ G X ap hI nm back
        refine RangeRest.succ fun t h tk F N => ?_
        have hk' : env.kindOf x = some .local := by show env.scope.names.lookup x = _; rw [G.sc]; exact hx
        refine E env A h₀ env.locals _ ((I, _) :: hid) news _ _ G X ⟨F, N, fun p hp q hq => ?_⟩ ⟨fun y e he => ?_, fun y c2 h2 => ?_⟩ (fun y g e => by rw [hclo] at e; cases e) (back _ h tk)
        · rcases List.mem_cons.mp hq with rfl | hq
          · exact hI p (List.mem_append_right _ hp)
          · exact ap p hp q hq
        · rw [look_upd hs] at he
          split at he
          · rename_i q
            subst q
            cases he
            exact ⟨.int (0 + (i : Int)) t, .inl ⟨hk', rfl, by simp⟩, by rw [Int.zero_add]; exact .int ..⟩
          · rename_i q
            obtain ⟨u, hu, ru⟩ := nm.nm y e he
            refine ⟨u, ?_, ru⟩
            rcases hu with ⟨a1, a2, a3⟩ | ⟨c2, o2, a1, a2, a3, a4⟩ | ⟨o2, m₂, a1, a2, a3⟩
            · exact .inl ⟨a1, a2, by simp only [if_neg q]; exact a3⟩
            · exact .inr (.inl ⟨c2, o2, a1, a2, List.mem_cons_of_mem _ a3, a4⟩)
            · exact .inr (.inr ⟨o2, m₂, a1, List.mem_cons_of_mem _ a2, a3⟩)
        · obtain ⟨o2, w2, m2, d2⟩ := nm.ci y c2 h2
          exact ⟨o2, w2, List.mem_cons_of_mem _ m2, d2⟩
      cases o with
      | ret d =>
        refine ⟨.ret d, ho, fun env A h₀ m hid news s Q I n₀ G X ap hI nm cl back => turn env A h₀ m hid news s Q I n₀ G X ap hI nm fun it h tk => ?_⟩
        exact fun v m2 hid2 news2 h2 tk2 S2 sub2 kp2 rv => back v m2 hid2 news2 h2 tk2 S2 sub2 (fun p hp hn => kp2 p (List.mem_cons_of_mem _ hp) hn) rv
      | next ρ1 =>
        obtain ⟨o2, ho2, R2⟩ := rangeGo_ok R hclo hx ho
        refine ⟨o2, ho2, fun env A h₀ m hid news s Q I n₀ G X ap hI nm cl back => turn env A h₀ m hid news s Q I n₀ G X ap hI nm fun it h tk => ?_⟩
        intro m2 hid2 news2 h2 tk2 S2 sub2 kp2 nm2 cl2
        have hIc : ∀ y, env.cells.lookup y ≠ some I := fun y e => by
          obtain ⟨o3, w3, m3, d3⟩ := nm.ci y I e
          exact hI _ (List.mem_append_left _ m3) rfl
        have hIm : (I, it) ∈ hid2 := kp2 _ (.head _) fun x _ => hIc x
        have hf : ∀ p ∈ hid2, p.1 ≠ I → p ∈ hid2.filter (fun p => !(p.1 == I)) := fun p hp hne => List.mem_filter.mpr ⟨hp, by simpa using hne⟩
        show UnrEnd _ _ _ _ _ _ _
        refine ⟨h2, tk2, m2, hid2.filter (fun p => !(p.1 == I)) ++ news2, rfl, S2.F, fun p hp => ?_, fun p hp => ?_, ?_⟩
        · rcases List.mem_cons.mp hp with rfl | hp
          · exact S2.N _ (List.mem_append_left _ hIm)
          · rcases List.mem_append.mp hp with hp | hp
            · exact S2.N _ (List.mem_append_left _ (List.mem_filter.mp hp).1)
            · exact S2.N _ (List.mem_append_right _ hp)
        · rcases List.mem_append.mp hp with hp | hp
          · simpa using (List.mem_filter.mp hp).2
          · exact S2.ap p hp _ hIm
        · refine R2 env A h₀ m2 _ news2 s Q I n₀ G X (fun p hp q hq => S2.ap p hp q (List.mem_filter.mp hq).1) (fun p hp => ?_) ⟨fun y e he => ?_, fun y c2 h2 => ?_⟩ cl2 (Post.weaken (h' := s.heap) (tk' := s.toks) back sub2 fun p hp hn => hf p (kp2 p (List.mem_cons_of_mem _ hp) hn) (hI p (List.mem_append_left _ hp)))
          · rcases List.mem_append.mp hp with hp | hp
            · simpa using (List.mem_filter.mp hp).2
            · exact S2.ap p hp _ hIm
          · obtain ⟨u, hu, ru⟩ := nm2.nm y e he
            refine ⟨u, ?_, ru⟩
            rcases hu with hu | ⟨c2, o2, a1, a2, a3, a4⟩ | ⟨o2, m₂, a1, a2, a3⟩
            · exact .inl hu
            · exact .inr (.inl ⟨c2, o2, a1, a2, hf _ a3 fun q => hIc y (by rw [a2, ← q]), a4⟩)
            · exact absurd rfl (S2.N _ (List.mem_append_left _ a2)).2.1
          · obtain ⟨o2, w2, m2', d2⟩ := nm2.ci y c2 h2
            exact ⟨o2, w2, hf _ m2' fun q => hIc y (by rw [h2, ← q]), d2⟩
    · cases h

theorem range_ok (PO : PrmOk P) (R : RunOk P n c r) (hclo : c.clo = none) {sc : Scope} {ρ : Rho} {x : Str} {xp fp cp p : Pos} {e : Expr} {b : List Stmt} {k : Int} {o : Out} (hx : sc.names.lookup x = some .local) (hf : sc.names.lookup ("range" : Str) = some .globalImplicit) (he : isStar e = false) (hk : 0 ≤ k ∧ k ≤ 100000)
    (E : EvOk P n c sc ρ e (.int k)) (Rg : RgOk P n c sc x b k.toNat 0 ρ o) : StOk P n c sc ρ (.For (.Name x xp) (.Call (.Name "range" fp) [e] [] cp) b [] p) o := by
  intro env A h₀ L m hid news s Q G X S nm cl back
  obtain ⟨G, hl, cn, inj⟩ := G
  subst hl
  have hk' : env.kindOf x = some .local := by show env.scope.names.lookup x = _; rw [G.sc]; exact hx
  refine For_invVF S.F hk' (by rw [G.k]; rfl) ?_ (by intro _; rfl) (fun e s h => h.elim)
  refine Call_ (global_bi G X S hf (by decide) PO.rg PyProof.Rows.Boot.range (by decide) ?_)
  refine Pv.callWith_type1 (spliced_more (E env A h₀ env.locals m hid news s _ G X S nm.nm cl fun v news' h' tk' S' sub rv => spliced_none ?_) (starEach_cons he)) (starEach_cons he) rfl
  cases rv with
  | int i t =>
    refine range1_rows S'.F S'.N fun h2 tk2 t1 u1 v1 hr F2 N2 hkp => ?_
    have hsize : Builtin.Range.rangeSize 0 k 1 = ((k.toNat : Nat) : Int) := by
      unfold Builtin.Range.rangeSize
      simp only [show ((1 : Int) > 0) = True from by simp, if_true]
      split <;> omega
    refine iter_rangeUnr X.hh hr (small_one (by decide) (by decide) (by omega) (by omega)) hsize F2 N2 fun I hI => ?_
    exact Rg env A h₀ m hid news' _ Q I _ ⟨G, rfl, cn, inj⟩ X S'.ap (fun p hp => Nat.ne_of_lt (hI p hp)) (nm.mono sub) (cl.mono sub) (back.weaken sub .rfl)

theorem whGo_ok (R : RunOk P n c r) {sc : Scope} {t : Expr} {b : List Stmt} {kn : Rho → Option V} {kr : Kon} : ∀ {f : Nat} {ρ : Rho} {res : V}, whGo (fun ρ' => r.tr sc ρ' t) (fun ρ' => r.ex sc ρ' b) kn kr f ρ = some res → ∃ o, kont kn kr o = some res ∧ WhOk P n c sc ρ t b o
  | 0, ρ, res, h => by unfold whGo at h; cases h
  | f + 1, ρ, res, h => by
    unfold whGo at h
    obtain ⟨bb, hb, T⟩ := R.tr _ _ _ _ _ h
    cases bb with
    | false =>
      refine ⟨.next ρ, hb, fun env A h₀ L m hid news s Q k G X S nm cl back => ?_⟩
      refine whl_turn (k := k) (fun e s h => h.elim) (T env A h₀ L m hid news s _ _ (.inl rfl) G.toGEnv X S nm.nm cl fun news' h' tk' S' sub => ?_)
      exact WhlIf.no rfl (wpAny_execs_nil (back m hid news' h' tk' S' sub .rfl (nm.mono sub) (cl.mono sub)))
    | true =>
      obtain ⟨o, ho, E⟩ := R.ex _ _ _ _ _ _ hb
      cases o with
      | ret d =>
        refine ⟨.ret d, ho, fun env A h₀ L m hid news s Q k G X S nm cl back => ?_⟩
        refine whl_turn (k := k) (fun e s h => h.elim) (T env A h₀ L m hid news s _ _ (.inl rfl) G.toGEnv X S nm.nm cl fun news' h' tk' S' sub => WhlIf.yes rfl ?_)
        exact E env A h₀ L m hid news' _ _ G X S' (nm.mono sub) (cl.mono sub) fun v m2 hid2 news2 h2 tk2 S2 sub2 kp2 rv => back v m2 hid2 news2 h2 tk2 S2 (sub.trans sub2) kp2 rv
      | next ρ' =>
        obtain ⟨o2, ho2, W⟩ := whGo_ok R ho
        refine ⟨o2, ho2, fun env A h₀ L m hid news s Q k G X S nm cl back => ?_⟩
        refine whl_turn (k := k) (fun e s h => h.elim) (T env A h₀ L m hid news s _ _ (.inl rfl) G.toGEnv X S nm.nm cl fun news' h' tk' S' sub => WhlIf.yes rfl ?_)
        refine E env A h₀ L m hid news' _ _ G X S' (nm.mono sub) (cl.mono sub) fun m2 hid2 news2 h2 tk2 S2 sub2 kp2 nm2 cl2 => ?_
        exact W env A h₀ L m2 hid2 news2 _ Q k G X S2 nm2 cl2 (back.weaken (sub.trans sub2) kp2)

theorem stepSt_ok (PO : PrmOk P) (R : RunOk P n c r) {sc : Scope} {ρ : Rho} {st : Stmt} {kn : Rho → Option V} {kr : Kon} {res : V} (h : stepSt c r sc ρ kn kr st = some res) : ∃ o, kont kn kr o = some res ∧ StOk P n c sc ρ st o := by
  unfold stepSt at h
  cases st with
  | Return e p =>
    cases e with
    | none =>
      exact no h
    | some e =>
      dsimp only at h
      obtain ⟨d, hd, E⟩ := R.ev _ _ _ _ _ h
      exact ⟨.ret d, hd, fun env A h₀ L m hid news s Q G X S nm cl back => wpAny_Return_some (E env A h₀ L m hid news s _ G.toGEnv X S nm.nm cl fun v news' h' tk' S' sub rv => back v m hid news' h' tk' S' sub .rfl rv)⟩
  | Assign ts e sp =>
    cases ts with
    | nil =>
      exact no h
    | cons t ts =>
      cases t with
      | Name x p =>
        cases ts with
        | cons _ _ =>
          exact no h
        | nil =>
          dsimp only at h
          split at h
          · rename_i hsw
            obtain ⟨d, hd, E⟩ := R.ev _ _ _ _ _ h
            obtain ⟨ρ', hρ, S1⟩ := sto_ok (P := P) (n := n) hd
            refine ⟨.next ρ', hρ, fun env A h₀ L m hid news s Q G X S nm cl back => ?_⟩
            refine wpAny_Assign_Name (E env A h₀ L m hid news s _ G.toGEnv X S nm.nm cl fun v news' h' tk' S' sub rv => ?_) ((swaps_eq G.sc).trans hsw)
            exact S1 env A h₀ L m hid news' _ v _ G S' (nm.mono sub) (cl.mono sub) rv fun m' hid' h2 tk2 S2 kp nm' cl' => back m' hid' news' h2 tk2 S2 sub kp nm' cl'
          · cases h
      | Tuple ts2 kk tp =>
        cases ts with
        | cons _ _ =>
          exact no h
        | nil =>
          dsimp only at h
          split at h
          · rename_i xs hsw hxs
            obtain ⟨d, hd, E⟩ := R.ev _ _ _ _ _ h
            split at hd
            · split at hd
              · rename_i hns
                split at hd
                · rename_i hl
                  obtain ⟨ρ', hρ, S1⟩ := stos_ok (P := P) (n := n) hd
                  refine ⟨.next ρ', hρ, fun env A h₀ L m hid news s Q G X S nm cl back => ?_⟩
                  refine Assign_Tuple (E env A h₀ L m hid news s _ G.toGEnv X S nm.nm cl fun v news' h' tk' S' sub rv => ?_) ((swapsS_eq G.sc).trans hsw) ((swapped_eq G.sc).trans hns)
                  cases rv with
                  | @tup a us j _ hm hr =>
                    obtain ⟨f1, f2, f3⟩ := namesOf_fs (M := model P.prog P.w) (env := env) hxs
                    refine unpackN_ S'.F S'.N (S'.tupAt hm) X.hh (by rw [f2, ← Array.length_toList, hr.length]; exact (eq_of_beq hl).symm) f3 fun h2 F2 N2 => ?_
                    exact S1 env A h₀ L m hid news' _ _ _ _ G f1 (S'.same F2 N2) (nm.mono sub) (cl.mono sub) hr fun m' hid' h3 tk3 S3 kp nm' cl' => back m' hid' news' h3 tk3 S3 sub kp nm' cl'
                · cases hd
              · rename_i ns hns
                split at hd
                · rename_i hl
                  obtain ⟨ρ', hρ, S1⟩ := stos_ok (P := P) (n := n) hd
                  refine ⟨.next ρ', hρ, fun env A h₀ L m hid news s Q G X S nm cl back => ?_⟩
                  refine Assign_Tuple_swapped (names := ns) (E env A h₀ L m hid news s _ G.toGEnv X S nm.nm cl fun v news' h' tk' S' sub rv => ?_) ((swapsS_eq G.sc).trans hsw) ((swapped_eq G.sc).trans hns)
                  cases rv with
                  | @tup a us j _ hm hr =>
                    refine unpackItemsN_ S'.F S'.N (S'.tupAt hm) X.hh (by rw [← Array.length_toList, hr.length]; exact (eq_of_beq hl).symm) fun h2 F2 N2 => ?_
                    exact S1 env A h₀ L m hid news' _ _ _ _ G (bind_fs _) (S'.same F2 N2) (nm.mono sub) (cl.mono sub) hr.reverse fun m' hid' h3 tk3 S3 kp nm' cl' => back m' hid' news' h3 tk3 S3 sub kp nm' cl'
                · cases hd
              · cases hd
            · cases hd
          · cases h
      | _ => exact no h
  | If t b o p =>
    dsimp only at h
    obtain ⟨b, hb, T⟩ := R.tr _ _ _ _ _ h
    cases b with
    | true =>
      obtain ⟨o, ho, E⟩ := R.ex _ _ _ _ _ _ hb
      refine ⟨o, ho, fun env A h₀ L m hid news s Q G X S nm cl back => wpAny_If (T env A h₀ L m hid news s _ _ (.inl rfl) G.toGEnv X S nm.nm cl fun news' h' tk' S' sub => ?_)⟩
      rw [if_pos rfl]
      exact E env A h₀ L m hid news' _ _ G X S' (nm.mono sub) (cl.mono sub) (back.weaken sub .rfl)
    | false =>
      obtain ⟨o, ho, E⟩ := R.ex _ _ _ _ _ _ hb
      refine ⟨o, ho, fun env A h₀ L m hid news s Q G X S nm cl back => wpAny_If (T env A h₀ L m hid news s _ _ (.inl rfl) G.toGEnv X S nm.nm cl fun news' h' tk' S' sub => ?_)⟩
      rw [if_neg Bool.false_ne_true]
      exact E env A h₀ L m hid news' _ _ G X S' (nm.mono sub) (cl.mono sub) (back.weaken sub .rfl)
  | While t b o p =>
    cases o with
    | nil =>
      dsimp only at h
      obtain ⟨o, ho, W⟩ := whGo_ok R h
      exact ⟨o, ho, fun env A h₀ L m hid news s Q G X S nm cl back => whl_start 0 (W env A h₀ L m hid news s Q 0 G X S nm cl back)⟩
    | cons _ _ =>
      exact no h
  | Expr e p =>
    cases e with
    | Call f as ks p =>
      dsimp only at h
      obtain ⟨d, hd, E⟩ := R.ev _ _ _ _ _ h
      split at hd
      · exact ⟨.next ρ, hd, fun env A h₀ L m hid news s Q G X S nm cl back => wpAny_Expr (E env A h₀ L m hid news s _ G.toGEnv X S nm.nm cl fun v news' h' tk' S' sub rv => by
          cases rv
          exact back m hid news' h' tk' S' sub .rfl (nm.mono sub) (cl.mono sub)) (by unfold interactive; rw [G.k]; rfl) (by rfl)⟩
      · cases hd
    | _ => exact no h
  | For t it b o p =>
    cases t with
    | Name x xp =>
      cases it with
      | Call f as ks p =>
        cases f with
        | Name f fp =>
          cases as with
          | nil =>
            exact no h
          | cons e es =>
            cases es with
            | cons _ _ =>
              exact no h
            | nil =>
              cases ks with
              | cons _ _ =>
                exact no h
              | nil =>
                cases o with
                | cons _ _ =>
                  exact no h
                | nil =>
                  dsimp only at h
                  split at h
                  · rename_i q
                    simp only [Bool.and_eq_true, beq_iff_eq, Bool.not_eq_true'] at q
                    obtain ⟨⟨⟨⟨q1, q2⟩, q3⟩, q4⟩, q5⟩ := q
                    subst q1
                    have hclo : c.clo = none := by simpa using q4
                    obtain ⟨d, hd, E⟩ := R.ev _ _ _ _ _ h
                    split at hd
                    · split at hd
                      · rename_i hk
                        obtain ⟨o, ho, Rg⟩ := rangeGo_ok R hclo q3 hd
                        exact ⟨o, ho, range_ok PO R hclo q3 q2 q5 hk E Rg⟩
                      · cases hd
                    · cases hd
                  · cases h
        | _ => exact no h
      | _ => exact no h
    | _ => exact no h
  | _ => exact no h

theorem stepEx_ok (PO : PrmOk P) (R : RunOk P n c r) {sc : Scope} {ρ : Rho} {ss : List Stmt} {kn : Rho → Option V} {kr : Kon} {res : V} (h : stepEx c r sc ρ ss kn kr = some res) : ∃ o, kont kn kr o = some res ∧ ExOk P n c sc ρ ss o := by
  unfold stepEx at h
  split at h
  · exact ⟨.next ρ, h, fun env A h₀ L m hid news s Q G X S nm cl back => wpAny_execs_nil (back m hid news s.heap s.toks S .rfl .rfl nm cl)⟩
  · obtain ⟨o, ho, E⟩ := stepSt_ok PO R h
    cases o with
    | ret d =>
      exact ⟨.ret d, ho, fun env A h₀ L m hid news s Q G X S nm cl back => wpAny_execs_cons (E env A h₀ L m hid news s _ G X S nm cl fun v m' hid' news' h' tk' S' sub kp rv => back v m' hid' news' h' tk' S' sub kp rv)⟩
    | next ρ' =>
      obtain ⟨o2, ho2, E2⟩ := R.ex _ _ _ _ _ _ ho
      refine ⟨o2, ho2, fun env A h₀ L m hid news s Q G X S nm cl back => wpAny_execs_cons (E env A h₀ L m hid news s _ G X S nm cl fun m' hid' news' h' tk' S' sub kp nm' cl' => ?_)⟩
      exact E2 env A h₀ L m' hid' news' _ _ G X S' nm' cl' (back.weaken sub kp)

theorem run_ok (PO : PrmOk P) (PC : ConOk P c) (PH : PhiOk P n c.φ) : ∀ k, RunOk P n c (run c k)
  | 0 => ⟨fun _ _ _ _ _ h => (by cases h), fun _ _ _ _ _ h => (by cases h), fun _ _ _ _ _ _ h => (by cases h)⟩
  | k + 1 =>
    have R := run_ok PO PC PH k
    ⟨fun _ _ _ _ _ h => stepEv_ok PO PC PH R h, fun _ _ _ _ _ h => stepTr_ok R h, fun _ _ _ _ _ _ h => stepEx_ok PO R h⟩
end
end Mine

end
-- part E11
section
open PySem PySem.W PySem.Calls PyProof.Rows
set_option Elab.async false
set_option maxRecDepth 100000
set_option linter.unusedVariables false

namespace Mine

noncomputable def isLC (k : NameKind) : Bool := k == .local || k == .cell
noncomputable def rho0 (sc : Scope) (ps : List Str) (ds : List V) : Rho := (sc.names.filter fun y => isLC y.2).map fun y => (y.1, (ps.zip ds).lookup y.1)
noncomputable def runFn (c : Cfg) (k : Nat) (sc : Scope) (ps : List Str) (body : List Stmt) (ds : List V) : Option V := (run c k).ex sc (rho0 sc ps ds) body (fun _ => some .none) some

noncomputable def nodupS : List Str → Bool
  | [] => true
  | x :: r => !r.contains x && nodupS r
noncomputable def fnChk (sc : Scope) (ps : List Str) : Bool :=
  nodupS ps && ps.all (fun x => sc.names.lookup x == some .local || sc.names.lookup x == some .cell) && nodupS ((cellsFrom 0 sc.names []).map (·.1)) && !sc.isCoroutine && !sc.isGenerator && sc.kind == .function

theorem nodupS_spec : ∀ {l : List Str}, nodupS l = true → l.Nodup
  | [], _ => .nil
  | x :: r, h => by
    unfold nodupS at h
    rw [Bool.and_eq_true, Bool.not_eq_true'] at h
    refine List.nodup_cons.mpr ⟨fun hm => ?_, nodupS_spec h.2⟩
    have := List.contains_iff_mem.mpr hm
    rw [h.1] at this; cases this

theorem rho0_look {sc : Scope} {ps : List Str} {ds : List V} {x : Str} {d : V} (h : look (rho0 sc ps ds) x = some d) : (ps.zip ds).lookup x = some d := by
  unfold look rho0 at h
  generalize sc.names.filter (fun y => isLC y.2) = l at h
  induction l with
  | nil => cases h
  | cons y r ih =>
    rw [List.map_cons, List.lookup_cons] at h
    split at h
    · rename_i q
      rw [eq_of_beq q]
      simpa using h
    · exact ih h

theorem zip_mem {α : Type} : ∀ {ps : List Str} {ds : List α} {x : Str} {d : α}, (ps.zip ds).lookup x = some d → x ∈ ps
  | [], _, x, d, h => by cases h
  | p :: ps, [], x, d, h => by cases h
  | p :: ps, e :: ds, x, d, h => by
    rw [List.zip_cons_cons, List.lookup_cons] at h
    split at h
    · rename_i q; rw [eq_of_beq q]; exact .head _
    · exact List.mem_cons_of_mem _ (zip_mem h)
theorem zip_rep {C : Addr} {ns : Led} : ∀ {ps : List Str} {vs : List Value} {ds : List V} {x : Str} {d : V}, Reps C ns vs ds → (ps.zip ds).lookup x = some d → ∃ v, (ps.zip vs).lookup x = some v ∧ Rep C ns v d
  | [], _, _, x, d, _, h => by cases h
  | p :: ps, _, _, x, d, .nil, h => by cases h
  | p :: ps, _, _, x, d, .cons r rs, h => by
    rw [List.zip_cons_cons, List.lookup_cons] at h
    rw [List.zip_cons_cons, List.lookup_cons]
    split at h
    · cases h; exact ⟨_, rfl, r⟩
    · exact zip_rep rs h

theorem bindL_skip {kindOf : Str → Option NameKind} {x : Str} : ∀ {l : List (Str × Value)} {m : Str → Option Value}, (∀ p ∈ l, p.1 ≠ x) → bindL kindOf l m x = m x
  | [], _, _ => rfl
  | (n, v) :: r, m, h => by
    unfold bindL
    rw [bindL_skip fun p hp => h p (List.mem_cons_of_mem _ hp)]
    split
    · simp only [if_neg (Ne.symm (h _ (.head _)))]
    · rfl
theorem bindC_skip {kindOf : Str → Option NameKind} {x : Str} : ∀ {l : List (Str × Value)} {m : Str → Option Value}, (∀ p ∈ l, p.1 ≠ x) → bindC kindOf l m x = m x
  | [], _, _ => rfl
  | (n, v) :: r, m, h => by
    unfold bindC
    rw [bindC_skip fun p hp => h p (List.mem_cons_of_mem _ hp)]
    split
    · rfl
    · simp only [if_neg (Ne.symm (h _ (.head _)))]
theorem zip_fst {α : Type} : ∀ {ps : List Str} {vs : List α} {p : Str × α}, p ∈ ps.zip vs → p.1 ∈ ps
  | [], _, _, h => by cases h
  | a :: ps, [], _, h => by cases h
  | a :: ps, b :: vs, p, h => by
    rw [List.zip_cons_cons] at h
    rcases List.mem_cons.mp h with rfl | h
    · exact .head _
    · exact List.mem_cons_of_mem _ (zip_fst h)
theorem bindL_at {kindOf : Str → Option NameKind} {x : Str} {v : Value} (hk : kindOf x = some .local) : ∀ {ps : List Str} {vs : List Value} {m : Str → Option Value}, ps.Nodup → (ps.zip vs).lookup x = some v → bindL kindOf (ps.zip vs) m x = some v
  | [], _, _, _, h => by cases h
  | p :: ps, [], _, _, h => by cases h
  | p :: ps, u :: vs, m, hn, h => by
    rw [List.zip_cons_cons, List.lookup_cons] at h
    rw [List.zip_cons_cons]
    unfold bindL
    rw [List.nodup_cons] at hn
    split at h
    · rename_i q
      have q' := eq_of_beq q
      subst q'
      cases h
      rw [bindL_skip (fun y hy e => hn.1 (by rw [← e]; exact zip_fst hy)), if_pos hk]
      simp
    · exact bindL_at hk hn.2 h
theorem bindC_at {kindOf : Str → Option NameKind} {x : Str} {v : Value} (hk : kindOf x = some .cell) : ∀ {ps : List Str} {vs : List Value} {m : Str → Option Value}, ps.Nodup → (ps.zip vs).lookup x = some v → bindC kindOf (ps.zip vs) m x = some v
  | [], _, _, _, h => by cases h
  | p :: ps, [], _, _, h => by cases h
  | p :: ps, u :: vs, m, hn, h => by
    rw [List.zip_cons_cons, List.lookup_cons] at h
    rw [List.zip_cons_cons]
    unfold bindC
    rw [List.nodup_cons] at hn
    split at h
    · rename_i q
      have q' := eq_of_beq q
      subst q'
      cases h
      rw [bindC_skip (fun y hy e => hn.1 (by rw [← e]; exact zip_fst hy)), if_neg (by rw [hk]; intro e; cases e)]
      simp
    · exact bindC_at hk hn.2 h

theorem cellsFrom_ge {lo : Nat} : ∀ {names : List (Str × NameKind)} {n : Nat} {acc : List (Str × Addr)}, (∀ p ∈ acc, lo ≤ p.2) → lo ≤ n → ∀ p ∈ cellsFrom n names acc, lo ≤ p.2
  | [], _, _, h, _ => h
  | (y, k) :: r, n, acc, h, hn => by
    unfold cellsFrom
    split
    · exact cellsFrom_ge (fun p hp => by
        rcases List.mem_cons.mp hp with rfl | hp
        · exact hn
        · exact h p hp) (Nat.le_succ_of_le hn)
    · exact cellsFrom_ge h hn
theorem cellsFrom_nodup : ∀ {names : List (Str × NameKind)} {n : Nat} {acc : List (Str × Addr)}, (acc.map (·.2)).Nodup → (∀ p ∈ acc, p.2 < n) → ((cellsFrom n names acc).map (·.2)).Nodup
  | [], _, _, h, _ => h
  | (y, k) :: r, n, acc, h, hn => by
    unfold cellsFrom
    split
    · refine cellsFrom_nodup (List.nodup_cons.mpr ⟨fun hm => ?_, h⟩) fun p hp => ?_
      · obtain ⟨p, hp, e⟩ := List.mem_map.mp hm
        have := hn p hp
        rw [e] at this
        exact Nat.lt_irrefl _ this
      · rcases List.mem_cons.mp hp with rfl | hp
        · exact Nat.lt_succ_self _
        · exact Nat.lt_succ_of_lt (hn p hp)
    · exact cellsFrom_nodup h hn
theorem lookup_mem {x : Str} {cc : Addr} : ∀ {l : List (Str × Addr)}, l.lookup x = some cc → (x, cc) ∈ l
  | [], h => by cases h
  | (y, a) :: r, h => by
    rw [List.lookup_cons] at h
    split at h
    · rename_i q; cases h; rw [eq_of_beq q]; exact .head _
    · exact List.mem_cons_of_mem _ (lookup_mem h)
theorem snd_inj {x y : Str} {cc : Addr} : ∀ {l : List (Str × Addr)}, (l.map (·.2)).Nodup → (x, cc) ∈ l → (y, cc) ∈ l → x = y
  | [], _, h, _ => by cases h
  | (z, a) :: r, hn, hx, hy => by
    rw [List.map_cons, List.nodup_cons] at hn
    have off : ∀ w, (w, a) ∉ r := fun w hw => hn.1 (List.mem_map.mpr ⟨(w, a), hw, rfl⟩)
    rcases List.mem_cons.mp hx with e1 | hx1
    · rcases List.mem_cons.mp hy with e2 | hy1
      · cases e1; cases e2; rfl
      · cases e1; exact absurd hy1 (off _)
    · rcases List.mem_cons.mp hy with e2 | hy1
      · cases e2; exact absurd hx1 (off _)
      · exact snd_inj hn.2 hx1 hy1
theorem cellsAre_at {cm : Str → Option Value} {x : Str} {cc : Addr} : ∀ {cs : List (Str × Addr)} {cells : Led}, CellsAre cm cs cells → cs.lookup x = some cc → ∃ o, (cc, o) ∈ cells ∧ o.data = .cell (cm x)
  | _, _, .nil, h => by cases h
  | _, _, .cons h1 r, h => by
    rw [List.lookup_cons] at h
    split at h
    · rename_i q
      cases h
      rw [eq_of_beq q]
      exact ⟨_, .head _, h1⟩
    · obtain ⟨o, a, b⟩ := cellsAre_at r h
      exact ⟨o, List.mem_cons_of_mem _ a, b⟩
theorem cellsAre_addr {cm : Str → Option Value} : ∀ {cs : List (Str × Addr)} {cells : Led}, CellsAre cm cs cells → ∀ p ∈ cells, p.1 ∈ cs.map (·.2)
  | _, _, .nil, _, h => nomatch h
  | _, _, .cons h1 r, p, h => by
    rcases List.mem_cons.mp h with rfl | h
    · exact .head _
    · exact List.mem_cons_of_mem _ (cellsAre_addr r p h)

/-- what a body's frame stands on, at its entry -/
theorem entry_ok {P : Prm} {n : Nat} {A : Around} {h₀ : Heap} {L : Addr} {m : Str → Option Value} {hid news : Led} {s : Shared} {vs : List Value} {ds : List V} {Q : Value → Shared → Prop} {d : V}
    {name qual : Str} {params : Arguments} {body : List Stmt} {scope : Scope} {dV kV doc pm cdv ct oc : Value} {an od : Option Addr} {osl : Array (Option Value)} {a : Addr} {ps : List Str}
    (ho : P.K.lookup a = some ⟨oc, od, .func (fnOf name qual params body scope dV kV doc pm an cdv ct), osl⟩) (hcd : codeIn P.K cdv qual = true) (chk : fnChk scope ps = true) (hlen : ps.length = vs.length)
    (hb : ∀ us : List Value, us.length = ps.length → bindArgs (fnOf name qual params body scope dV kV doc pm an cdv ct) ⟨us, []⟩ = pure (ps.zip us))
    (X : Cx P (n + 1) A h₀ L) (S : St h₀ L s.heap m hid news) (rv : Reps P.C news vs ds)
    (back : ∀ v news' h' tk', St h₀ L h' m hid news' → Sub news news' → Rep P.C news' v d → Q v { s with heap := h', toks := tk' })
    (h : ∀ (c : Cfg), c.clo = none → ∀ (env : Env) (g : Heap) (L' : Addr) (m' : Str → Option Value) (hid' : Led) (s' : Shared) (Q' : Flow → Shared → Prop) (A' : Around), env.scope = scope → SEnv env L' scope → Cx P n A' g L' → St g L' s'.heap m' hid' news → NmS P.C env L' m' hid' news (rho0 scope ps ds) → CloAt P n c.clo env L' m' news → (∀ x v, (ps.zip vs).lookup x = some v → scope.names.lookup x = some .local → m' x = some v) → 
      (∀ v m2 hid2 news2 h2 tk2, St g L' h2 m2 hid2 news2 → Sub news news2 → Keep env hid' hid2 → Rep P.C news2 v d → Q' (.ret v) { s' with heap := h2, toks := tk2 }) →
      (d = .none → ∀ m2 hid2 news2 h2 tk2, St g L' h2 m2 hid2 news2 → Sub news news2 → Keep env hid' hid2 → Q' .next { s' with heap := h2, toks := tk2 }) →
      wpAny (model P.prog P.w) A' (execs body env) Q' (fun _ _ => False) s') :
    wpAny (model P.prog P.w) A (call (.ref a) vs) Q (fun _ _ => False) s := by
  obtain ⟨⟨env₀, outer, A₀, base, hA, hf, hke, B⟩, XX, T, hh, hd, hu⟩ := X
  unfold fnChk at chk
  simp only [Bool.and_eq_true, Bool.not_eq_true', beq_iff_eq] at chk
  obtain ⟨⟨⟨⟨⟨k1, k2⟩, k3⟩, k4⟩, k5⟩, k6⟩ := chk
  have k2' : ∀ x ∈ ps, scope.names.lookup x = some .local ∨ scope.names.lookup x = some .cell := fun x hx => by
    have := List.all_eq_true.mp k2 x hx
    simpa using this
  have hroom : A.depth < recursionLimit := by omega
  refine wpAny_call (code_defC B S.F XX S.N T hA hf hke ho hcd hroom (BindsTo.of_eq (hb vs hlen.symm)) ?_ (nodupS_spec k3) (fun g L' h₁ tk cells FG F' N' Y B' X' T' lt => ?_) k4 k5 k6)
  · rw [List.all_eq_true]
    intro y hy
    rcases k2' y.1 (zip_fst hy) with e | e <;> rw [e] <;> rfl
  · have hge : ∀ p ∈ cells, L' + 1 ≤ p.1 := fun p hp => by
      obtain ⟨q, hq, e⟩ := List.mem_map.mp (cellsAre_addr Y p hp)
      rw [← e]
      exact cellsFrom_ge (acc := []) (fun _ h => by cases h) (Nat.le_refl _) q hq
    have hsc : (envOfC qual scope L' a cdv).scope = scope := rfl
    have hid_off : ∀ p ∈ hid ++ news, ∀ x, (envOfC qual scope L' a cdv).cells.lookup x ≠ some p.1 := fun p hp x e => by
      have h1 : @LT.lt Nat _ p.1 L' := lt p hp
      have h2 := cellsFrom_ge (lo := L' + 1) (acc := []) (fun _ h => by cases h) (Nat.le_refl _) _ (lookup_mem e)
      have h3 : @LE.le Nat _ (L' + 1) p.1 := h2
      omega
    refine wpAny_mono (h ⟨fun _ _ _ => none, fun _ => none, none, opsR⟩ rfl (envOfC qual scope L' a cdv) g L' _ (cells ++ hid) _ (fun fl s' => LeaveK h₀ L m g _ (match fl with | .ret v => v | _ => .none) s') _ rfl ⟨⟨rfl, k6, rfl, rfl⟩, rfl, fun x hx => ?_, fun x y cc hx hy => ?_⟩
      ⟨⟨envOfC qual scope L' a cdv, env₀ :: outer, A, base, ?_, rfl, k6, B'⟩, X', T', hh, ?_, ?_⟩ ⟨F', by rw [List.append_assoc]; exact N', fun p hp q hq => ?_⟩ ⟨fun x e he => ?_, fun x cc hc => ?_⟩ (fun x g e => by cases e) (fun x v hx hk => bindL_at hk (nodupS_spec k1) hx) (fun v m2 hid2 news2 h2 tk2 S2 sub kp r2 => ?_) (fun e m2 hid2 news2 h2 tk2 S2 sub kp => ?_)) (fun _ _ q => q) (fun _ _ q => q.elim)
    · have z := cellsFrom_some scope.names (L' + 1) [] (.inl hx)
      exact Option.isSome_iff_exists.mp z
    · exact snd_inj (cellsFrom_nodup (acc := []) .nil fun _ h => by cases h) (lookup_mem hx) (lookup_mem hy)
    · show A.frames.map _ = _
      rw [hA]; rfl
    · show A.depth + 1 + n < _
      omega
    · show A.units + 3 + 8 * n + 64 < _
      omega
    · rcases List.mem_append.mp hq with hq | hq
      · have h1 : @LT.lt Nat _ p.1 L' := lt p (List.mem_append_right _ hp)
        have h2 : @LE.le Nat _ (L' + 1) q.1 := hge q hq
        exact fun e => by rw [e] at h1; omega
      · exact S.ap p hp q hq
    · have e1 := rho0_look he
      obtain ⟨v, hv, r1⟩ := zip_rep rv e1
      have hx := zip_mem e1
      refine ⟨v, ?_, r1⟩
      rcases k2' x hx with hk | hk
      · exact .inl ⟨hk, rfl, bindL_at hk (nodupS_spec k1) hv⟩
      · obtain ⟨cc, hcc⟩ := Option.isSome_iff_exists.mp (cellsFrom_some scope.names (L' + 1) [] (.inl hk))
        obtain ⟨o, hm, hd⟩ := cellsAre_at Y hcc
        refine .inr (.inl ⟨cc, o, .inl hk, hcc, List.mem_append_left _ hm, ?_⟩)
        rw [hd, bindC_at hk (nodupS_spec k1) hv]
    · obtain ⟨o, hm, hd⟩ := cellsAre_at Y hc
      exact ⟨o, _, List.mem_append_left _ hm, hd⟩
    · refine leaveK_ S2.F S2.N fun F3 N3 => ?_
      refine back v news2 h2 tk2 ⟨F3, fun p hp => ?_, fun p hp q hq => ?_⟩ sub r2
      · rcases List.mem_append.mp hp with hp | hp
        · exact N3 p (List.mem_append_left _ (kp p (List.mem_append_right _ hp) fun x _ => hid_off p (List.mem_append_left _ hp) x))
        · exact N3 p (List.mem_append_right _ hp)
      · exact S2.ap p hp q (kp q (List.mem_append_right _ hq) fun x _ => hid_off q (List.mem_append_left _ hq) x)
    · subst e
      refine leaveK_ S2.F S2.N fun F3 N3 => ?_
      refine back .none news2 h2 tk2 ⟨F3, fun p hp => ?_, fun p hp q hq => ?_⟩ sub .none
      · rcases List.mem_append.mp hp with hp | hp
        · exact N3 p (List.mem_append_left _ (kp p (List.mem_append_right _ hp) fun x _ => hid_off p (List.mem_append_left _ hp) x))
        · exact N3 p (List.mem_append_right _ hp)
      · exact S2.ap p hp q (kp q (List.mem_append_right _ hq) fun x _ => hid_off q (List.mem_append_left _ hq) x)

theorem fn_ok {P : Prm} {n : Nat} {c : Cfg} {k : Nat} {ds : List V} {d : V} {name qual : Str} {params : Arguments} {body : List Stmt} {scope : Scope} {dV kV doc pm cdv ct oc : Value} {an od : Option Addr} {osl : Array (Option Value)} {a : Addr} {ps : List Str}
    (PO : PrmOk P) (PC : ConOk P c) (PH : PhiOk P n c.φ) (hclo : c.clo = none)
    (ho : P.K.lookup a = some ⟨oc, od, .func (fnOf name qual params body scope dV kV doc pm an cdv ct), osl⟩) (hcd : codeIn P.K cdv qual = true) (chk : fnChk scope ps = true) (hlen : ps.length = ds.length)
    (hb : ∀ us : List Value, us.length = ps.length → bindArgs (fnOf name qual params body scope dV kV doc pm an cdv ct) ⟨us, []⟩ = pure (ps.zip us))
    (h : runFn c k scope ps body ds = some d) : CallOk P (n + 1) a ds d := by
  intro A h₀ L m hid news s vs Q X S _ rv back
  refine entry_ok ho hcd chk (hlen.trans rv.length.symm) hb X S rv back fun c' _ env g L' m' hid' s' Q' A' _ G X' S' nm _ _ hr hn => ?_
  obtain ⟨o, ho', E⟩ := (run_ok PO PC PH k).ex _ _ _ _ _ _ h
  refine E env A' g L' m' hid' news s' Q' G X' S' nm (fun x g e => by rw [hclo] at e; cases e) ?_
  cases o with
  | ret d' =>
    cases ho'
    exact hr
  | next ρ =>
    cases ho'
    exact fun m2 hid2 news2 h2 tk2 S2 sub kp _ _ => hn rfl m2 hid2 news2 h2 tk2 S2 sub kp
end Mine

end
-- part F1
section
open PySem PySem.W PySem.Calls PyProof.Rows
set_option Elab.async false
set_option maxRecDepth 100000
set_option linter.unusedVariables false
namespace Mine

noncomputable def fdef (nm : Str) : Scope × List Stmt := ((PySem.Challenge.pw_nt0171_01.main.body.findSome? fun st => match st with
  | .FunctionDef n _ b _ _ _ sc _ _ _ => if n == nm then some (sc, b) else none
  | _ => none)).getD (default, [])

noncomputable def ext (f : Str) (G : List V → Kon → Option V) (φ : Phi) : Phi := fun x vs k => if x == f then G vs k else φ x vs k
noncomputable def con0 (x : Str) : Option Int := if x == "REACH" then some 65536 else if x == "MORE" then some 12 else if x == "MOST_TURNS" then some 512 else none
noncomputable def cfg (o : Ops) (φ : Phi) : Cfg := ⟨φ, con0, none, o⟩
noncomputable def runF (o : Ops) (φ : Phi) (nm : Str) (ps : List Str) (ds : List V) : Option V := runFn (cfg o φ) 40 (fdef nm).1 ps (fdef nm).2 ds

noncomputable def callI (o : Option V) (k : Int → Option V) : Option V := match o with
  | some (.int i) => k i
  | _ => none
noncomputable def callP (o : Option V) (k : Int → Int → Option V) : Option V := match o with
  | some (.tup [.int a, .int b]) => k a b
  | _ => none
noncomputable def callR (o : Option V) (k : Int → Int → Option V) : Option V := match o with
  | some (.real a b) => k a b
  | _ => none
noncomputable def callB (o : Option V) (k : Bool → Option V) : Option V := match o with
  | some (.bool b) => k b
  | _ => none

noncomputable def absI (n : Int) : Int := if n < 0 then -n else n
noncomputable def pairV (a b : Int) : V := .tup [.int a, .int b]
noncomputable def callQ (o : Option V) (k : Int → Int → Int → Option V) : Option V := match o with
  | some (.tup [.int t, .tup [.int a, .int b]]) => k t a b
  | _ => none
noncomputable def callN (o : Option V) (k : Option V) : Option V := match o with
  | some .none => k
  | _ => none
noncomputable def callO (o : Option V) (kz : Option V) (k : Int → Int → Option V) : Option V := match o with
  | some .none => kz
  | some (.tup [.int a, .int b]) => k a b
  | _ => none
noncomputable def callM (o : Option V) (kz : Option V) (k : Int → Int → Int → Int → Option V) : Option V := match o with
  | some .none => kz
  | some (.list [.tup [.int a, .int b], .tup [.int c, .int d]]) => k a b c d
  | _ => none
noncomputable def callW (o : Option V) (k : Int → Int → Int → Int → Option V) : Option V := match o with
  | some (.tup [.int a, .int b, .int c, .int d]) => k a b c d
  | _ => none
noncomputable def whPart (nm : Str) (i : Nat) : Expr × List Stmt := match (fdef nm).2[i]? with
  | some (.While t b _ _) => (t, b)
  | some (.For _ _ b _ _) => (.Constant .none 0 default, b)
  | _ => (.Constant .none 0 default, [])
noncomputable def whT (o : Ops) (φ : Phi) (nm : Str) (i : Nat) : Rho → (Bool → Option V) → Option V := fun ρ => rTr (run (cfg o φ) (39 - i)) (fdef nm).1 ρ (whPart nm i).1
noncomputable def whR (o : Ops) (φ : Phi) (nm : Str) (i : Nat) : Rho → (Rho → Option V) → Kon → Option V := fun ρ => rEx (run (cfg o φ) (39 - i)) (fdef nm).1 ρ (whPart nm i).2
noncomputable def whK (o : Ops) (φ : Phi) (nm : Str) (i : Nat) : Rho → Option V := fun ρ => rEx (run (cfg o φ) (39 - i)) (fdef nm).1 ρ ((fdef nm).2.drop (i + 1)) (fun _ => some .none) some
noncomputable abbrev whF (o : Ops) (φ : Phi) (nm : Str) (i : Nat) : Rho → Option V := whGo (whT o φ nm i) (whR o φ nm i) (whK o φ nm i) some whFuel
theorem whGo_succ (t : Rho → (Bool → Option V) → Option V) (r : Rho → (Rho → Option V) → Kon → Option V) (kn : Rho → Option V) (kr : Kon) (n : Nat) (ρ : Rho) :
    whGo t r kn kr (n + 1) ρ = t ρ fun x => if x then r ρ (whGo t r kn kr n) kr else kn ρ := rfl

theorem rangeGo_succ (r : Rho → (Rho → Option V) → Kon → Option V) (x : Str) (kn : Rho → Option V) (kr : Kon) (n i : Nat) (ρ : Rho) (h : (ρ.lookup x).isSome = true) :
    rangeGo r x kn kr (n + 1) i ρ = r (upd x (.int i) ρ) (rangeGo r x kn kr n (i + 1)) kr := by
  show (if (ρ.lookup x).isSome = true then _ else _) = _
  rw [if_pos h]

variable (o : Ops)
noncomputable def φ0 (o : Ops) : Phi := ext "Real" (fun vs k => match vs with | [.int m, .int e] => k (.real m e) | _ => none) fun _ _ _ => none

noncomputable def F_size_of (o : Ops) (n : Int) : Option V := some (.int (Builtin.Int.intBits (if n < 0 then -n else n)))
noncomputable def G_size_of (o : Ops) (vs : List V) (k : Kon) : Option V := match vs with
  | [.int n] => callI ((F_size_of o) n) fun i => k (.int i)
  | _ => none
noncomputable def φ1 (o : Ops) : Phi := ext "size_of" (G_size_of o) (φ0 o)
theorem R_size_of (n : Int) : runF o (φ0 o) "size_of" ["number"] [.int n] = (F_size_of o) n := by kernel_rfl

noncomputable def F_sign_of_whole (o : Ops) (n : Int) : Option V := some (.int (bInt (decide (0 < n)) - bInt (decide (n < 0))))
theorem R_sign_of_whole (n : Int) : runF o (φ1 o) "sign_of_whole" ["number"] [.int n] = (F_sign_of_whole o) n := by kernel_rfl
noncomputable def G_sign_of_whole (o : Ops) (vs : List V) (k : Kon) : Option V := match vs with
  | [.int n] => callI ((F_sign_of_whole o) n) fun i => k (.int i)
  | _ => none
noncomputable def φ2 (o : Ops) : Phi := ext "sign_of_whole" (G_sign_of_whole o) (φ1 o)

noncomputable def F_zeros_below (o : Ops) (n : Int) : Option V := some (.int (Builtin.Int.intBits (Builtin.bitAnd n (0 - n)) - 1))
theorem R_zeros_below (n : Int) : runF o (φ2 o) "zeros_below" ["number"] [.int n] = (F_zeros_below o) n := by kernel_rfl
noncomputable def G_zeros_below (o : Ops) (vs : List V) (k : Kon) : Option V := match vs with
  | [.int n] => callI ((F_zeros_below o) n) fun i => k (.int i)
  | _ => none
noncomputable def φ3 (o : Ops) : Phi := ext "zeros_below" (G_zeros_below o) (φ2 o)

noncomputable def F_lean (o : Ops) (m e : Int) : Option V :=
  if (m == 0) = true then some (.real 0 0) else
  callI ((F_zeros_below o) m) fun g => callI ((F_size_of o) m) fun z =>
  if decide (65536 < (if z + e < 0 then -(z + e) else z + e)) = true then none else
  if 0 ≤ g then some (.real (m.fdiv (2 ^ g.toNat)) (e + g)) else none
theorem R_lean (m e : Int) : runF o (φ3 o) "lean" ["mantissa", "exponent"] [.int m, .int e] = (F_lean o) m e := by kernel_rfl
noncomputable def G_lean (o : Ops) (vs : List V) (k : Kon) : Option V := match vs with
  | [.int n, .int e] => callR ((F_lean o) n e) fun m e => k (.real m e)
  | _ => none
noncomputable def φ4 (o : Ops) : Phi := ext "lean" (G_lean o) (φ3 o)

noncomputable def F_nearest_shift (o : Ops) (n g : Int) : Option V :=
  if 0 ≤ g then if o.shlOk 1 g = true then if o.shlOk 1 (g - 1) = true then
    let kept := n.fdiv (2 ^ g.toNat)
    let rest := Builtin.bitAnd n (1 * 2 ^ g.toNat - 1)
    let half := 1 * 2 ^ (g - 1).toNat
    if decide (half < rest) = true then some (.int (kept + 1)) else if (rest == half) = true then (if (Builtin.bitAnd kept 1 == 1) = true then some (.int (kept + 1)) else some (.int kept)) else some (.int kept)
  else none else none else none
theorem R_nearest_shift (n g : Int) : runF o (φ4 o) "nearest_shift" ["number", "gone"] [.int n, .int g] = (F_nearest_shift o) n g := by kernel_rfl
end Mine

end
-- part F2
section
open PySem PySem.W PySem.Calls PyProof.Rows
set_option Elab.async false
set_option maxRecDepth 100000
set_option linter.unusedVariables false
namespace Mine
variable (o : Ops)
noncomputable def G_nearest_shift (o : Ops) (vs : List V) (k : Kon) : Option V := match vs with
  | [.int n, .int e] => callI ((F_nearest_shift o) n e) fun i => k (.int i)
  | _ => none
noncomputable def φ5 (o : Ops) : Phi := ext "nearest_shift" (G_nearest_shift o) (φ4 o)

noncomputable def F_shifted_round (o : Ops) (p m e : Int) : Option V :=
  callI ((F_size_of o) m) fun z =>
  if decide (z - p ≤ 0) = true then callR ((F_lean o) m e) fun a b => some (.real a b) else
  callI ((F_sign_of_whole o) m) fun s =>
  callI ((F_nearest_shift o) (absI m) (z - p)) fun r =>
  if o.mulOk s r = true then callR ((F_lean o) (s * r) (e + (z - p))) fun a b => some (.real a b) else none
theorem R_shifted_round (p m e : Int) : runF o (φ5 o) "shifted_round" ["precision", "mantissa", "exponent"] [.int p, .int m, .int e] = (F_shifted_round o) p m e := by kernel_rfl
noncomputable def G_shifted_round (o : Ops) (vs : List V) (k : Kon) : Option V := match vs with
  | [.int n, .int m, .int e] => callR ((F_shifted_round o) n m e) fun m e => k (.real m e)
  | _ => none
noncomputable def φ6 (o : Ops) : Phi := ext "shifted_round" (G_shifted_round o) (φ5 o)

noncomputable def F_with_sticky (o : Ops) (n : Int) (b : Bool) : Option V :=
  if o.mulOk 2 n = true then (match b with | true => some (.int (2 * n + 1)) | false => some (.int (2 * n + 0))) else none
theorem R_with_sticky (n : Int) (b : Bool) : runF o (φ6 o) "with_sticky" ["number", "is_more"] [.int n, .bool b] = (F_with_sticky o) n b := by cases b <;> kernel_rfl
noncomputable def G_with_sticky (o : Ops) (vs : List V) (k : Kon) : Option V := match vs with
  | [.int n, .bool b] => callI ((F_with_sticky o) n b) fun i => k (.int i)
  | _ => none
noncomputable def φ7 (o : Ops) : Phi := ext "with_sticky" (G_with_sticky o) (φ6 o)

noncomputable def F_rounded (o : Ops) (p t b : Int) : Option V :=
  if (t == 0) = true then some (.real 0 0) else
  callI ((F_size_of o) b) fun zb => callI ((F_size_of o) t) fun zt =>
  if decide (0 ≤ p + 2 + zb - zt) = true then
    if o.shlOk (absI t) (p + 2 + zb - zt) = true then
      if o.divOk (absI t * 2 ^ (p + 2 + zb - zt).toNat) b = true then
      let q := (absI t * 2 ^ (p + 2 + zb - zt).toNat).fdiv b
      let r := (absI t * 2 ^ (p + 2 + zb - zt).toNat).fmod b
      callI ((F_sign_of_whole o) t) fun s => callI ((F_with_sticky o) q (!(r == 0))) fun x =>
      if o.mulOk s x = true then callR ((F_shifted_round o) p (s * x) (0 - (p + 2 + zb - zt) - 1)) fun a b => some (.real a b) else none
      else none
    else none
  else
    if o.shlOk b (0 - (p + 2 + zb - zt)) = true then
      if o.divOk (absI t) (b * 2 ^ (0 - (p + 2 + zb - zt)).toNat) = true then
      let q := (absI t).fdiv (b * 2 ^ (0 - (p + 2 + zb - zt)).toNat)
      let r := (absI t).fmod (b * 2 ^ (0 - (p + 2 + zb - zt)).toNat)
      callI ((F_sign_of_whole o) t) fun s => callI ((F_with_sticky o) q (!(r == 0))) fun x =>
      if o.mulOk s x = true then callR ((F_shifted_round o) p (s * x) (0 - (p + 2 + zb - zt) - 1)) fun a b => some (.real a b) else none
      else none
    else none
theorem R_rounded (p t b : Int) : runF o (φ7 o) "rounded" ["precision", "top", "bottom"] [.int p, .int t, .int b] = (F_rounded o) p t b := by kernel_rfl
noncomputable def G_rounded (o : Ops) (vs : List V) (k : Kon) : Option V := match vs with
  | [.int n, .int m, .int e] => callR ((F_rounded o) n m e) fun m e => k (.real m e)
  | _ => none
noncomputable def φ8 (o : Ops) : Phi := ext "rounded" (G_rounded o) (φ7 o)

noncomputable def F_place_of (o : Ops) (m e : Int) : Option V := callI ((F_size_of o) m) fun z => some (.int (z + e))
theorem R_place_of (m e : Int) : runF o (φ8 o) "place_of" ["real"] [.real m e] = (F_place_of o) m e := by kernel_rfl
noncomputable def G_place_of (o : Ops) (vs : List V) (k : Kon) : Option V := match vs with
  | [.real m e] => callI ((F_place_of o) m e) fun i => k (.int i)
  | _ => none
noncomputable def φ9 (o : Ops) : Phi := ext "place_of" (G_place_of o) (φ8 o)

noncomputable def F_sign_of (o : Ops) (m e : Int) : Option V := callI ((F_sign_of_whole o) m) fun z => some (.int z)
theorem R_sign_of (m e : Int) : runF o (φ9 o) "sign_of" ["real"] [.real m e] = (F_sign_of o) m e := by kernel_rfl
noncomputable def G_sign_of (o : Ops) (vs : List V) (k : Kon) : Option V := match vs with
  | [.real m e] => callI ((F_sign_of o) m e) fun i => k (.int i)
  | _ => none
noncomputable def φ10 (o : Ops) : Phi := ext "sign_of" (G_sign_of o) (φ9 o)

noncomputable def F_same_real (o : Ops) (m e m' e' : Int) : Option V := match (m == m') with
  | true => some (.bool (e == e'))
  | false => some (.bool false)
theorem R_same_real (m e m' e' : Int) : runF o (φ10 o) "same_real" ["one", "other"] [.real m e, .real m' e'] = (F_same_real o) m e m' e' := by kernel_rfl
noncomputable def G_same_real (o : Ops) (vs : List V) (k : Kon) : Option V := match vs with
  | [.real m e, .real m' e'] => callB ((F_same_real o) m e m' e') fun i => k (.bool i)
  | _ => none
noncomputable def φ11 (o : Ops) : Phi := ext "same_real" (G_same_real o) (φ10 o)

noncomputable def F_up_shift (o : Ops) (n p : Int) : Option V := if 0 ≤ p then some (.int (0 - (0 - n).fdiv (2 ^ p.toNat))) else none
theorem R_up_shift (n p : Int) : runF o (φ11 o) "up_shift" ["number", "places"] [.int n, .int p] = (F_up_shift o) n p := by kernel_rfl
noncomputable def G_up_shift (o : Ops) (vs : List V) (k : Kon) : Option V := match vs with
  | [.int m, .int e] => callI ((F_up_shift o) m e) fun i => k (.int i)
  | _ => none
noncomputable def φ12 (o : Ops) : Phi := ext "up_shift" (G_up_shift o) (φ11 o)

noncomputable def F_up_over (o : Ops) (n p : Int) : Option V := if o.divOk (0 - n) p = true then some (.int (0 - (0 - n).fdiv p)) else none
theorem R_up_over (n p : Int) : runF o (φ12 o) "up_over" ["number", "bottom"] [.int n, .int p] = (F_up_over o) n p := by kernel_rfl
noncomputable def G_up_over (o : Ops) (vs : List V) (k : Kon) : Option V := match vs with
  | [.int m, .int e] => callI ((F_up_over o) m e) fun i => k (.int i)
  | _ => none
noncomputable def φ13 (o : Ops) : Phi := ext "up_over" (G_up_over o) (φ12 o)

noncomputable def F_fraction_bounds (o : Ops) (w t b : Int) : Option V :=
  if o.shlOk t w = true then if o.divOk (t * 2 ^ w.toNat) b = true then if o.shlOk t w = true then
  callI ((F_up_over o) (t * 2 ^ w.toNat) b) fun u => some (pairV ((t * 2 ^ w.toNat).fdiv b) u) else none else none else none
theorem R_fraction_bounds (w t b : Int) : runF o (φ13 o) "fraction_bounds" ["work", "top", "bottom"] [.int w, .int t, .int b] = (F_fraction_bounds o) w t b := by kernel_rfl
noncomputable def G_fraction_bounds (o : Ops) (vs : List V) (k : Kon) : Option V := match vs with
  | [.int w, .int t, .int b] => callP ((F_fraction_bounds o) w t b) fun i j => k (pairV i j)
  | _ => none
noncomputable def φ14 (o : Ops) : Phi := ext "fraction_bounds" (G_fraction_bounds o) (φ13 o)

noncomputable def F_more_of (o : Ops) (a b c d : Int) : Option V := some (pairV (a + c) (b + d))
theorem R_more_of (a b c d : Int) : runF o (φ14 o) "more_of" ["one", "other"] [pairV a b, pairV c d] = (F_more_of o) a b c d := by kernel_rfl
noncomputable def G_more_of (o : Ops) (vs : List V) (k : Kon) : Option V := match vs with
  | [.tup [.int a, .int b], .tup [.int c, .int d]] => callP ((F_more_of o) a b c d) fun i j => k (pairV i j)
  | _ => none
noncomputable def φ15 (o : Ops) : Phi := ext "more_of" (G_more_of o) (φ14 o)

noncomputable def F_less_of (o : Ops) (a b c d : Int) : Option V := some (pairV (a - d) (b - c))
theorem R_less_of (a b c d : Int) : runF o (φ15 o) "less_of" ["one", "other"] [pairV a b, pairV c d] = (F_less_of o) a b c d := by kernel_rfl
noncomputable def G_less_of (o : Ops) (vs : List V) (k : Kon) : Option V := match vs with
  | [.tup [.int a, .int b], .tup [.int c, .int d]] => callP ((F_less_of o) a b c d) fun i j => k (pairV i j)
  | _ => none
noncomputable def φ16 (o : Ops) : Phi := ext "less_of" (G_less_of o) (φ15 o)

noncomputable def F_contrary_of (o : Ops) (a b : Int) : Option V := some (pairV (0 - b) (0 - a))
theorem R_contrary_of (a b : Int) : runF o (φ16 o) "contrary_of" ["one"] [pairV a b] = (F_contrary_of o) a b := by kernel_rfl
noncomputable def G_contrary_of (o : Ops) (vs : List V) (k : Kon) : Option V := match vs with
  | [.tup [.int a, .int b]] => callP ((F_contrary_of o) a b) fun i j => k (pairV i j)
  | _ => none
noncomputable def φ17 (o : Ops) : Phi := ext "contrary_of" (G_contrary_of o) (φ16 o)

noncomputable def F_often (o : Ops) (a b t : Int) : Option V :=
  if o.mulOk a t = true then if o.mulOk b t = true then some (pairV (minL (a * t) [b * t]) (maxL (a * t) [b * t])) else none else none
theorem R_often (a b t : Int) : runF o (φ17 o) "often" ["one", "times"] [pairV a b, .int t] = (F_often o) a b t := by kernel_rfl
noncomputable def G_often (o : Ops) (vs : List V) (k : Kon) : Option V := match vs with
  | [.tup [.int a, .int b], .int t] => callP ((F_often o) a b t) fun i j => k (pairV i j)
  | _ => none
noncomputable def φ18 (o : Ops) : Phi := ext "often" (G_often o) (φ17 o)

noncomputable def F_product_of (o : Ops) (w a b c d : Int) : Option V :=
  if o.mulOk a c = true then if o.mulOk a d = true then if o.mulOk b c = true then if o.mulOk b d = true then
  if 0 ≤ w then callI ((F_up_shift o) (maxL (a * c) [a * d, b * c, b * d]) w) fun u => some (pairV ((minL (a * c) [a * d, b * c, b * d]).fdiv (2 ^ w.toNat)) u)
  else none else none else none else none else none
theorem R_product_of (w a b c d : Int) : runF o (φ18 o) "product_of" ["work", "one", "other"] [.int w, pairV a b, pairV c d] = (F_product_of o) w a b c d := by kernel_rfl
noncomputable def G_product_of (o : Ops) (vs : List V) (k : Kon) : Option V := match vs with
  | [.int w, .tup [.int a, .int b], .tup [.int c, .int d]] => callP ((F_product_of o) w a b c d) fun i j => k (pairV i j)
  | _ => none
noncomputable def φ19 (o : Ops) : Phi := ext "product_of" (G_product_of o) (φ18 o)

noncomputable def F_part_of (o : Ops) (a b n : Int) : Option V :=
  if o.divOk a n = true then callI ((F_up_over o) b n) fun u => some (pairV (a.fdiv n) u) else none
theorem R_part_of (a b t : Int) : runF o (φ19 o) "part_of" ["one", "bottom"] [pairV a b, .int t] = (F_part_of o) a b t := by kernel_rfl
noncomputable def G_part_of (o : Ops) (vs : List V) (k : Kon) : Option V := match vs with
  | [.tup [.int a, .int b], .int t] => callP ((F_part_of o) a b t) fun i j => k (pairV i j)
  | _ => none
noncomputable def φ20 (o : Ops) : Phi := ext "part_of" (G_part_of o) (φ19 o)

noncomputable def F_quotient_of (o : Ops) (w a b c d : Int) : Option V :=
  if o.shlOk a w = true then if o.shlOk b w = true then
  let lo := a * 2 ^ w.toNat
  let hi := b * 2 ^ w.toNat
  if o.divOk lo c = true then if o.divOk lo d = true then if o.divOk hi c = true then if o.divOk hi d = true then
  callI ((F_up_over o) lo c) fun u1 => callI ((F_up_over o) lo d) fun u2 => callI ((F_up_over o) hi c) fun u3 => callI ((F_up_over o) hi d) fun u4 =>
  some (pairV (minL (lo.fdiv c) [lo.fdiv d, hi.fdiv c, hi.fdiv d]) (maxL u1 [u2, u3, u4]))
  else none else none else none else none else none else none
theorem R_quotient_of (w a b c d : Int) : runF o (φ20 o) "quotient_of" ["work", "one", "other"] [.int w, pairV a b, pairV c d] = (F_quotient_of o) w a b c d := by kernel_rfl
noncomputable def G_quotient_of (o : Ops) (vs : List V) (k : Kon) : Option V := match vs with
  | [.int w, .tup [.int a, .int b], .tup [.int c, .int d]] => callP ((F_quotient_of o) w a b c d) fun i j => k (pairV i j)
  | _ => none
noncomputable def φ21 (o : Ops) : Phi := ext "quotient_of" (G_quotient_of o) (φ20 o)

noncomputable def F_widened (o : Ops) (a b n : Int) : Option V := some (pairV (a - n) (b + n))
theorem R_widened (a b t : Int) : runF o (φ21 o) "widened" ["one", "by"] [pairV a b, .int t] = (F_widened o) a b t := by kernel_rfl
noncomputable def G_widened (o : Ops) (vs : List V) (k : Kon) : Option V := match vs with
  | [.tup [.int a, .int b], .int t] => callP ((F_widened o) a b t) fun i j => k (pairV i j)
  | _ => none
noncomputable def φ22 (o : Ops) : Phi := ext "widened" (G_widened o) (φ21 o)

noncomputable def F_greatest_of (o : Ops) (a b : Int) : Option V := some (.int (if absI a < absI b then absI b else absI a))
theorem R_greatest_of (a b : Int) : runF o (φ22 o) "greatest_of" ["one"] [pairV a b] = (F_greatest_of o) a b := by kernel_rfl
noncomputable def G_greatest_of (o : Ops) (vs : List V) (k : Kon) : Option V := match vs with
  | [.tup [.int a, .int b]] => callI ((F_greatest_of o) a b) fun i => k (.int i)
  | _ => none
noncomputable def φ23 (o : Ops) : Phi := ext "greatest_of" (G_greatest_of o) (φ22 o)

noncomputable def F_fraction_of (o : Ops) (m e : Int) : Option V :=
  if decide (0 ≤ e) = true then (if o.shlOk m e = true then some (pairV (m * 2 ^ e.toNat) 1) else none) else
  if o.shlOk 1 (0 - e) = true then some (pairV m (1 * 2 ^ (0 - e).toNat)) else none
theorem R_fraction_of (m e : Int) : runF o (φ23 o) "fraction_of" ["real"] [.real m e] = (F_fraction_of o) m e := by kernel_rfl
noncomputable def G_fraction_of (o : Ops) (vs : List V) (k : Kon) : Option V := match vs with
  | [.real a b] => callP ((F_fraction_of o) a b) fun i j => k (pairV i j)
  | _ => none
noncomputable def φ24 (o : Ops) : Phi := ext "fraction_of" (G_fraction_of o) (φ23 o)
end Mine

end
-- part F3
section
open PySem PySem.W PySem.Calls PyProof.Rows
set_option Elab.async false
set_option maxRecDepth 100000
set_option linter.unusedVariables false
namespace Mine
variable (o : Ops)
noncomputable def ρ_is (w u s p t e n st : Int) : Rho := [("work", some (.int w)), ("number", some (.int u)), ("sign", some (.int s)), ("power", some (.int p)), ("total", some (.int t)), ("exponent", some (.int e)), ("now", some (.int n)), ("steps", some (.int st))]
noncomputable def L_is (o : Ops) (u s : Int) (k : Int → Int → Int → Int → Int → Option V) : Nat → Int → Int → Int → Int → Int → Option V
  | 0, _, _, _, _, _ => none
  | f + 1, p, t, e, n, st =>
    if decide (0 < p) = true then
      if o.divOk p e = true then if o.mulOk n (p.fdiv e) = true then
      if o.mulOk u u = true then if o.divOk p (u * u) = true then if o.mulOk n s = true then
        (L_is o) u s k f (p.fdiv (u * u)) (t + n * p.fdiv e) (e + 2) (n * s) (st + 1)
      else none else none else none else none else none
    else k p t e n st
theorem is_step (w u s p t e n st : Int) (rec kn : Rho → Option V) :
    (whT o (φ24 o) "inverse_series" 1 (ρ_is w u s p t e n st) fun x => if x then whR o (φ24 o) "inverse_series" 1 (ρ_is w u s p t e n st) rec some else kn (ρ_is w u s p t e n st)) =
    (if decide (0 < p) = true then
      if o.divOk p e = true then if o.mulOk n (p.fdiv e) = true then
      if o.mulOk u u = true then if o.divOk p (u * u) = true then if o.mulOk n s = true then
        rec (ρ_is w u s (p.fdiv (u * u)) (t + n * p.fdiv e) (e + 2) (n * s) (st + 1))
      else none else none else none else none else none
    else kn (ρ_is w u s p t e n st)) := by kernel_rfl

theorem is_loop (w u s : Int) (kn : Rho → Option V) : ∀ f p t e n st, whGo (whT o (φ24 o) "inverse_series" 1) (whR o (φ24 o) "inverse_series" 1) kn some f (ρ_is w u s p t e n st) = (L_is o) u s (fun p t e n st => kn (ρ_is w u s p t e n st)) f p t e n st := by
  intro f
  induction f with
  | zero => intros; rfl
  | succ f ih => intro p t e n st; rw [whGo_succ, (is_step o)]; simp only [ih]; rfl
noncomputable def F_inverse_series (o : Ops) (w u s : Int) : Option V :=
  if o.shlOk 1 w = true then if o.divOk (1 * 2 ^ w.toNat) u = true then
    (L_is o) u s (fun p t e n st => if o.mulOk 2 st = true then callP ((F_widened o) t t (2 * st + 4)) fun a b => some (pairV a b) else none) whFuel (((1 : Int) * 2 ^ w.toNat).fdiv u) 0 1 1 0
  else none else none
theorem is_post (w u s : Int) : (fun p t e n st => whK o (φ24 o) "inverse_series" 1 (ρ_is w u s p t e n st)) = fun p t e n st => if o.mulOk 2 st = true then callP ((F_widened o) t t (2 * st + 4)) fun a b => some (pairV a b) else none := by
  funext p t e n st
  kernel_rfl
theorem R_inverse_series (w u s : Int) : runF o (φ24 o) "inverse_series" ["work", "number", "sign"] [.int w, .int u, .int s] = (F_inverse_series o) w u s :=
  Eq.trans (b := if o.shlOk 1 w = true then if o.divOk (1 * 2 ^ w.toNat) u = true then whF o (φ24 o) "inverse_series" 1 (ρ_is w u s (((1 : Int) * 2 ^ w.toNat).fdiv u) 0 1 1 0) else none else none) (by kernel_rfl) (by
    rw [whF, (is_loop o), (is_post o)]; rfl)
noncomputable def G_inverse_series (o : Ops) (vs : List V) (k : Kon) : Option V := match vs with
  | [.int w, .int t, .int b] => callP ((F_inverse_series o) w t b) fun i j => k (pairV i j)
  | _ => none
noncomputable def φ25 (o : Ops) : Phi := ext "inverse_series" (G_inverse_series o) (φ24 o)

noncomputable def F_half_turn (o : Ops) (w : Int) : Option V :=
  callP ((F_inverse_series o) w 5 (-1)) fun a b => callP ((F_often o) a b 16) fun c d => callP ((F_inverse_series o) w 239 (-1)) fun a b => callP ((F_often o) a b 4) fun a b => callP ((F_less_of o) c d a b) fun a b => some (pairV a b)
theorem R_half_turn (w : Int) : runF o (φ25 o) "half_turn" ["work"] [.int w] = (F_half_turn o) w := by kernel_rfl
noncomputable def G_half_turn (o : Ops) (vs : List V) (k : Kon) : Option V := match vs with
  | [.int w] => callP ((F_half_turn o) w) fun i j => k (pairV i j)
  | _ => none
noncomputable def φ26 (o : Ops) : Phi := ext "half_turn" (G_half_turn o) (φ25 o)

noncomputable def ρ_ws (w r0 r1 f0 f1 c q0 q1 t0 t1 m0 m1 : Int) : Rho := [("work", some (.int w)), ("rest", some (pairV r0 r1)), ("first", some (pairV f0 f1)), ("count", some (.int c)), ("square", some (pairV q0 q1)), ("total", some (pairV t0 t1)), ("term", some (pairV m0 m1))]
noncomputable def L_ws (o : Ops) (w q0 q1 : Int) (k : Int → Int → Int → Int → Int → Option V) : Nat → Int → Int → Int → Int → Int → Option V
  | 0, _, _, _, _, _ => none
  | f + 1, c, t0, t1, m0, m1 => callI ((F_greatest_of o) m0 m1) fun g =>
    if decide (1 < g) = true then
      callP ((F_product_of o) w m0 m1 q0 q1) fun a b => if o.mulOk c (c + 1) = true then callP ((F_part_of o) a b (c * (c + 1))) fun a b => callP ((F_contrary_of o) a b) fun m0 m1 =>
      callP ((F_more_of o) t0 t1 m0 m1) fun t0 t1 => (L_ws o) w q0 q1 k f (c + 2) t0 t1 m0 m1
      else none
    else k c t0 t1 m0 m1
theorem ws_step (w r0 r1 f0 f1 c q0 q1 t0 t1 m0 m1 : Int) (rec kn : Rho → Option V) :
    (whT o (φ26 o) "wave_series" 1 (ρ_ws w r0 r1 f0 f1 c q0 q1 t0 t1 m0 m1) fun x => if x then whR o (φ26 o) "wave_series" 1 (ρ_ws w r0 r1 f0 f1 c q0 q1 t0 t1 m0 m1) rec some else kn (ρ_ws w r0 r1 f0 f1 c q0 q1 t0 t1 m0 m1)) =
    (callI ((F_greatest_of o) m0 m1) fun g =>
    if decide (1 < g) = true then
      callP ((F_product_of o) w m0 m1 q0 q1) fun a b => if o.mulOk c (c + 1) = true then callP ((F_part_of o) a b (c * (c + 1))) fun a b => callP ((F_contrary_of o) a b) fun m0 m1 =>
      callP ((F_more_of o) t0 t1 m0 m1) fun t0 t1 => rec (ρ_ws w r0 r1 f0 f1 (c + 2) q0 q1 t0 t1 m0 m1)
      else none
    else kn (ρ_ws w r0 r1 f0 f1 c q0 q1 t0 t1 m0 m1)) := by kernel_rfl
theorem ws_loop (w r0 r1 f0 f1 q0 q1 : Int) (kn : Rho → Option V) : ∀ f c t0 t1 m0 m1, whGo (whT o (φ26 o) "wave_series" 1) (whR o (φ26 o) "wave_series" 1) kn some f (ρ_ws w r0 r1 f0 f1 c q0 q1 t0 t1 m0 m1) = (L_ws o) w q0 q1 (fun c t0 t1 m0 m1 => kn (ρ_ws w r0 r1 f0 f1 c q0 q1 t0 t1 m0 m1)) f c t0 t1 m0 m1 := by
  intro f
  induction f with
  | zero => intros; rfl
  | succ f ih => intro c t0 t1 m0 m1; rw [whGo_succ, (ws_step o)]; simp only [ih]; rfl
noncomputable def F_wave_series (o : Ops) (w r0 r1 f0 f1 c : Int) : Option V :=
  callP ((F_product_of o) w r0 r1 r0 r1) fun q0 q1 =>
    (L_ws o) w q0 q1 (fun c t0 t1 m0 m1 => callI ((F_greatest_of o) m0 m1) fun g => if o.mulOk 2 g = true then callP ((F_widened o) t0 t1 (2 * g + 2)) fun a b => some (pairV a b) else none) whFuel c f0 f1 f0 f1
theorem ws_post (w r0 r1 f0 f1 q0 q1 : Int) : (fun c t0 t1 m0 m1 => whK o (φ26 o) "wave_series" 1 (ρ_ws w r0 r1 f0 f1 c q0 q1 t0 t1 m0 m1)) = fun c t0 t1 m0 m1 => callI ((F_greatest_of o) m0 m1) fun g => if o.mulOk 2 g = true then callP ((F_widened o) t0 t1 (2 * g + 2)) fun a b => some (pairV a b) else none := by
  funext c t0 t1 m0 m1
  kernel_rfl
theorem R_wave_series (w r0 r1 f0 f1 c : Int) : runF o (φ26 o) "wave_series" ["work", "rest", "first", "count"] [.int w, pairV r0 r1, pairV f0 f1, .int c] = (F_wave_series o) w r0 r1 f0 f1 c :=
  Eq.trans (b := callP ((F_product_of o) w r0 r1 r0 r1) fun q0 q1 => whF o (φ26 o) "wave_series" 1 (ρ_ws w r0 r1 f0 f1 c q0 q1 f0 f1 f0 f1)) (by kernel_rfl) (by
    simp only [whF, (ws_loop o), (ws_post o)]; rfl)
noncomputable def G_wave_series (o : Ops) (vs : List V) (k : Kon) : Option V := match vs with
  | [.int w, .tup [.int a, .int b], .tup [.int c, .int d], .int e] => callP ((F_wave_series o) w a b c d e) fun i j => k (pairV i j)
  | _ => none
noncomputable def φ27 (o : Ops) : Phi := ext "wave_series" (G_wave_series o) (φ26 o)

noncomputable def F_quarter_turns (o : Ops) (w m e : Int) : Option V :=
  callP ((F_fraction_of o) m e) fun t b => callP ((F_fraction_bounds o) w t b) fun g0 g1 => callP ((F_half_turn o) w) fun h0 h1 =>
  if o.mulOk 2 g0 = true then if o.divOk h0 2 = true then if o.divOk (2 * g0 + h0.fdiv 2) h0 = true then
    callP ((F_often o) h0 h1 ((2 * g0 + h0.fdiv 2).fdiv h0)) fun a b => callP ((F_part_of o) a b 2) fun a b => callP ((F_less_of o) g0 g1 a b) fun a b =>
    some (.tup [.int ((2 * g0 + h0.fdiv 2).fdiv h0), pairV a b])
  else none else none else none
theorem R_quarter_turns (w m e : Int) : runF o (φ27 o) "quarter_turns" ["work", "real"] [.int w, .real m e] = (F_quarter_turns o) w m e := by kernel_rfl
noncomputable def G_quarter_turns (o : Ops) (vs : List V) (k : Kon) : Option V := match vs with
  | [.int w, .real m e] => callQ ((F_quarter_turns o) w m e) fun t i j => k (.tup [.int t, pairV i j])
  | _ => none
noncomputable def φ28 (o : Ops) : Phi := ext "quarter_turns" (G_quarter_turns o) (φ27 o)

noncomputable def F_wave_bounds (o : Ops) (w r0 r1 t : Int) : Option V :=
  if (t.fmod 2 == 0) = true then
    callP ((F_wave_series o) w r0 r1 r0 r1 2) fun a b => if decide (t.fmod 4 < 2) = true then some (pairV a b) else callP ((F_contrary_of o) a b) fun a b => some (pairV a b)
  else if o.shlOk 1 w = true then if o.shlOk 1 w = true then
    callP ((F_wave_series o) w r0 r1 (1 * 2 ^ w.toNat) (1 * 2 ^ w.toNat) 1) fun a b => if decide (t.fmod 4 < 2) = true then some (pairV a b) else callP ((F_contrary_of o) a b) fun a b => some (pairV a b)
  else none else none
theorem R_wave_bounds (w r0 r1 t : Int) : runF o (φ28 o) "wave_bounds" ["work", "rest", "turns"] [.int w, pairV r0 r1, .int t] = (F_wave_bounds o) w r0 r1 t := by kernel_rfl
noncomputable def G_wave_bounds (o : Ops) (vs : List V) (k : Kon) : Option V := match vs with
  | [.int w, .tup [.int a, .int b], .int t] => callP ((F_wave_bounds o) w a b t) fun i j => k (pairV i j)
  | _ => none
noncomputable def φ29 (o : Ops) : Phi := ext "wave_bounds" (G_wave_bounds o) (φ28 o)

noncomputable def F_need_turns (o : Ops) (m e : Int) : Option V :=
  callI ((F_sign_of o) m e) fun s => if (!(s == 0)) = true then callI ((F_place_of o) m e) fun p => if decide (512 < p) = true then none else some .none else some .none
theorem R_need_turns (x : Str) (m e : Int) : runF o (φ29 o) "need_turns" ["name", "real"] [.str x, .real m e] = (F_need_turns o) m e := by kernel_rfl
noncomputable def G_need_turns (o : Ops) (vs : List V) (k : Kon) : Option V := match vs with
  | [.str x, .real m e] => callN ((F_need_turns o) m e) (k .none)
  | _ => none
noncomputable def φ30 (o : Ops) : Phi := ext "need_turns" (G_need_turns o) (φ29 o)

noncomputable def F_is_slight (o : Ops) (p m e : Int) : Option V := callI ((F_place_of o) m e) fun q => if o.mulOk 2 q = true then some (.bool (decide (2 * q < 0 - p - 4))) else none
theorem R_is_slight (p m e : Int) : runF o (φ30 o) "is_slight" ["precision", "real"] [.int p, .real m e] = (F_is_slight o) p m e := by kernel_rfl
noncomputable def G_is_slight (o : Ops) (vs : List V) (k : Kon) : Option V := match vs with
  | [.int p, .real m e] => callB ((F_is_slight o) p m e) fun b => k (.bool b)
  | _ => none
noncomputable def φ31 (o : Ops) : Phi := ext "is_slight" (G_is_slight o) (φ30 o)

noncomputable def F_angle_work (o : Ops) (p m e : Int) : Option V := if o.mulOk 2 p = true then callI ((F_place_of o) m e) fun q => some (.int (2 * p + 12 + absI q)) else none
theorem R_angle_work (p m e : Int) : runF o (φ31 o) "angle_work" ["precision", "real"] [.int p, .real m e] = (F_angle_work o) p m e := by kernel_rfl
noncomputable def G_angle_work (o : Ops) (vs : List V) (k : Kon) : Option V := match vs with
  | [.int p, .real m e] => callI ((F_angle_work o) p m e) fun b => k (.int b)
  | _ => none
noncomputable def φ32 (o : Ops) : Phi := ext "angle_work" (G_angle_work o) (φ31 o)

noncomputable def F_tan_bounds (o : Ops) (w m e : Int) : Option V :=
  callQ ((F_quarter_turns o) w m e) fun t r0 r1 => callP ((F_wave_bounds o) w r0 r1 t) fun h0 h1 => callP ((F_wave_bounds o) w r0 r1 (t + 1)) fun w0 w1 =>
  if decide (w1 < 0) = true then
    callP ((F_contrary_of o) h0 h1) fun h0 h1 => callP ((F_contrary_of o) w0 w1) fun w0 w1 =>
      if decide (0 < w0) = true then callP ((F_quotient_of o) w h0 h1 w0 w1) fun a b => some (pairV a b) else some .none
  else if decide (0 < w0) = true then callP ((F_quotient_of o) w h0 h1 w0 w1) fun a b => some (pairV a b) else some .none
theorem R_tan_bounds (w m e : Int) : runF o (φ32 o) "tan_bounds" ["work", "real"] [.int w, .real m e] = (F_tan_bounds o) w m e := by kernel_rfl
noncomputable def G_tan_bounds (o : Ops) (vs : List V) (k : Kon) : Option V := match vs with
  | [.int p, .real m e] => callO ((F_tan_bounds o) p m e) (k .none) fun a b => k (pairV a b)
  | _ => none
noncomputable def φ33 (o : Ops) : Phi := ext "tan_bounds" (G_tan_bounds o) (φ32 o)
end Mine

end
-- part F4
section
open PySem PySem.W PySem.Calls PyProof.Rows
set_option Elab.async false
set_option maxRecDepth 100000
set_option linter.unusedVariables false
namespace Mine
variable (o : Ops)
noncomputable def ρ_od (m e : Int) : Rho := [("mantissa", some (.int m)), ("exponent", some (.int e))]
noncomputable def L_od (o : Ops) (k : Int → Int → Option V) : Nat → Int → Int → Option V
  | 0, _, _ => none
  | f + 1, m, e => if (m.fmod 2 == 0) = true then if o.divOk m 2 = true then (L_od o) k f (m.fdiv 2) (e + 1) else none else k m e
theorem od_step (m e : Int) (rec kn : Rho → Option V) :
    (whT o (φ33 o) "_law_odd" 1 (ρ_od m e) fun x => if x then whR o (φ33 o) "_law_odd" 1 (ρ_od m e) rec some else kn (ρ_od m e)) =
    (if (m.fmod 2 == 0) = true then if o.divOk m 2 = true then rec (ρ_od (m.fdiv 2) (e + 1)) else none else kn (ρ_od m e)) := by kernel_rfl
theorem od_loop (kn : Rho → Option V) : ∀ f m e, whGo (whT o (φ33 o) "_law_odd" 1) (whR o (φ33 o) "_law_odd" 1) kn some f (ρ_od m e) = (L_od o) (fun m e => kn (ρ_od m e)) f m e := by
  intro f
  induction f with
  | zero => intros; rfl
  | succ f ih => intro m e; rw [whGo_succ, (od_step o)]; simp only [ih]; rfl
theorem od_post : (fun m e => whK o (φ33 o) "_law_odd" 1 (ρ_od m e)) = fun m e => some (pairV m e) := by
  funext m e
  kernel_rfl
noncomputable def F_law_odd (o : Ops) (m e : Int) : Option V := if (m == 0) = true then some (pairV 0 0) else (L_od o) (fun m e => some (pairV m e)) whFuel m e
theorem R_law_odd (m e : Int) : runF o (φ33 o) "_law_odd" ["mantissa", "exponent"] [.int m, .int e] = (F_law_odd o) m e :=
  Eq.trans (b := if (m == 0) = true then some (pairV 0 0) else whF o (φ33 o) "_law_odd" 1 (ρ_od m e)) (by kernel_rfl) (by rw [whF, (od_loop o), (od_post o)]; rfl)
noncomputable def G_law_odd (o : Ops) (vs : List V) (k : Kon) : Option V := match vs with
  | [.int m, .int e] => callP ((F_law_odd o) m e) fun i j => k (pairV i j)
  | _ => none
noncomputable def φ34 (o : Ops) : Phi := ext "_law_odd" (G_law_odd o) (φ33 o)

noncomputable def F_law_pair (o : Ops) (b c : Int) : Option V :=
  if o.powOk 2 b = true then if o.divOk c (2 ^ b.toNat) = true then if ((2 : Int) ^ b.toNat == 0) = true then none else
    if o.divOk (c.fdiv (2 ^ b.toNat)) 3 = true then
      if (((c.fdiv (2 ^ b.toNat)).fdiv 3).fmod 2 == 0) = true then
        callP ((F_law_odd o) (c.fmod (2 ^ b.toNat) + 1) ((c.fdiv (2 ^ b.toNat)).fmod 3 - b)) fun x y => some (pairV x y)
      else callP ((F_law_odd o) (0 - (c.fmod (2 ^ b.toNat) + 1)) ((c.fdiv (2 ^ b.toNat)).fmod 3 - b)) fun x y => some (pairV x y)
    else none
  else none else none
theorem R_law_pair (b c : Int) : runF o (φ34 o) "_law_pair" ["bits", "code"] [.int b, .int c] = (F_law_pair o) b c := by kernel_rfl
noncomputable def G_law_pair (o : Ops) (vs : List V) (k : Kon) : Option V := match vs with
  | [.int m, .int e] => callP ((F_law_pair o) m e) fun i j => k (pairV i j)
  | _ => none
noncomputable def φ35 (o : Ops) : Phi := ext "_law_pair" (G_law_pair o) (φ34 o)

noncomputable def F_law_fraction (o : Ops) (m e : Int) : Option V :=
  if decide (0 ≤ e) = true then (if o.powOk 2 e = true then if o.mulOk m (2 ^ e.toNat) = true then some (pairV (m * 2 ^ e.toNat) 1) else none else none)
  else if o.powOk 2 (0 - e) = true then some (pairV m (2 ^ (0 - e).toNat)) else none
theorem R_law_fraction (m e : Int) : runF o (φ35 o) "_law_fraction" ["mantissa", "exponent"] [.int m, .int e] = (F_law_fraction o) m e := by kernel_rfl
noncomputable def G_law_fraction (o : Ops) (vs : List V) (k : Kon) : Option V := match vs with
  | [.int m, .int e] => callP ((F_law_fraction o) m e) fun i j => k (pairV i j)
  | _ => none
noncomputable def φ36 (o : Ops) : Phi := ext "_law_fraction" (G_law_fraction o) (φ35 o)

noncomputable def ρ_mi (b rm re m e : Int) : Rho := [("bits", some (.int b)), ("real", some (.real rm re)), ("mantissa", some (.int m)), ("exponent", some (.int e)), ("near", none), ("ends", none)]
noncomputable def L_mi (o : Ops) (b : Int) (k : Int → Int → Option V) : Nat → Int → Int → Option V
  | 0, _, _ => none
  | f + 1, m, e => if o.powOk 2 (b - 1) = true then if decide (m < 2 ^ (b - 1).toNat) = true then if o.mulOk m 2 = true then (L_mi o) b k f (m * 2) (e - 1) else none else k m e else none
theorem mi_step (b rm re m e : Int) (rec kn : Rho → Option V) :
    (whT o (φ36 o) "_law_middles" 2 (ρ_mi b rm re m e) fun x => if x then whR o (φ36 o) "_law_middles" 2 (ρ_mi b rm re m e) rec some else kn (ρ_mi b rm re m e)) =
    (if o.powOk 2 (b - 1) = true then if decide (m < 2 ^ (b - 1).toNat) = true then if o.mulOk m 2 = true then rec (ρ_mi b rm re (m * 2) (e - 1)) else none else kn (ρ_mi b rm re m e) else none) := by kernel_rfl
theorem mi_loop (b rm re : Int) (kn : Rho → Option V) : ∀ f m e, whGo (whT o (φ36 o) "_law_middles" 2) (whR o (φ36 o) "_law_middles" 2) kn some f (ρ_mi b rm re m e) = (L_mi o) b (fun m e => kn (ρ_mi b rm re m e)) f m e := by
  intro f
  induction f with
  | zero => intros; rfl
  | succ f ih => intro m e; rw [whGo_succ, (mi_step o)]; simp only [ih]; rfl
noncomputable def Z_mi (o : Ops) (x y e : Int) : Option V :=
  callP ((F_law_fraction o) x (e - 2)) fun a b => callP ((F_law_fraction o) y (e - 2)) fun c d => some (.list [pairV a b, pairV c d])
noncomputable def Y_mi (o : Ops) (rm near m e : Int) : Option V :=
  if o.mulOk 4 m = true then if decide (rm < 0) = true then (Z_mi o) (0 - (4 * m + 2)) (0 - near) e else (Z_mi o) near (4 * m + 2) e else none
noncomputable def X_mi (o : Ops) (b rm m e : Int) : Option V :=
  if o.mulOk 4 m = true then if o.powOk 2 (b - 1) = true then if (m == 2 ^ (b - 1).toNat) = true then (Y_mi o) rm (4 * m - 1) m e else (Y_mi o) rm (4 * m - 2) m e else none else none
theorem mi_post (b rm re : Int) : (fun m e => whK o (φ36 o) "_law_middles" 2 (ρ_mi b rm re m e)) = fun m e => (X_mi o) b rm m e := by
  funext m e
  kernel_rfl
noncomputable def F_law_middles (o : Ops) (b rm re : Int) : Option V :=
  if ((absI rm).fmod 2 == 0) = true then some .none else if o.powOk 2 b = true then if decide (2 ^ b.toNat ≤ absI rm) = true then some .none else
    (L_mi o) b (fun m e => (X_mi o) b rm m e) whFuel (absI rm) re
  else none
theorem R_law_middles (b rm re : Int) : runF o (φ36 o) "_law_middles" ["bits", "real"] [.int b, .real rm re] = (F_law_middles o) b rm re :=
  Eq.trans (b := if ((absI rm).fmod 2 == 0) = true then some .none else if o.powOk 2 b = true then if decide (2 ^ b.toNat ≤ absI rm) = true then some .none else whF o (φ36 o) "_law_middles" 2 (ρ_mi b rm re (absI rm) re) else none) (by kernel_rfl) (by rw [whF, (mi_loop o), (mi_post o)]; rfl)
noncomputable def G_law_middles (o : Ops) (vs : List V) (k : Kon) : Option V := match vs with
  | [.int b, .real m e] => callM ((F_law_middles o) b m e) (k .none) fun a b c d => k (.list [pairV a b, pairV c d])
  | _ => none
noncomputable def φ37 (o : Ops) : Phi := ext "_law_middles" (G_law_middles o) (φ36 o)

noncomputable def ρ_wv (to bo pa t h w u c : Int) (tu no : Option V) : Rho := [("top", some (.int to)), ("bottom", some (.int bo)), ("pairs", some (.int pa)), ("term", some (.int t)), ("high", some (.int h)), ("wide", some (.int w)), ("under", some (.int u)), ("count", some (.int c)), ("turn", tu), ("now", no)]
noncomputable def L_wv (o : Ops) (to bo : Int) (k : Int → Int → Int → Int → Option V) : Nat → Int → Int → Int → Int → Int → Option V
  | 0, t, h, w, u, _ => k t h w u
  | f + 1, t, h, w, u, c =>
    if o.mulOk t to = true then if o.mulOk h bo = true then if o.mulOk (h * bo) (c + 1) = true then if o.mulOk w bo = true then if o.mulOk (w * bo) (c + 1) = true then if o.mulOk u bo = true then if o.mulOk (u * bo) (c + 1) = true then
      if (([0, 1] : List Int).any fun x => x == (c + 1).fmod 4) = true then
        if ((c + 1).fmod 2 == 1) = true then (L_wv o) to bo k f (t * to) (h * bo * (c + 1) + t * to) (w * bo * (c + 1)) (u * bo * (c + 1)) (c + 1)
        else (L_wv o) to bo k f (t * to) (h * bo * (c + 1)) (w * bo * (c + 1) + t * to) (u * bo * (c + 1)) (c + 1)
      else
        if ((c + 1).fmod 2 == 1) = true then (L_wv o) to bo k f (t * to) (h * bo * (c + 1) + (0 - t * to)) (w * bo * (c + 1)) (u * bo * (c + 1)) (c + 1)
        else (L_wv o) to bo k f (t * to) (h * bo * (c + 1)) (w * bo * (c + 1) + (0 - t * to)) (u * bo * (c + 1)) (c + 1)
    else none else none else none else none else none else none else none
theorem wv_step (to bo pa t h w u c : Int) (tu no : Option V) (i : Nat) (rec : Rho → Option V) :
    (whR o (φ37 o) "_law_waves" 1 (ρ_wv to bo pa t h w u c (some (.int i)) no) rec some) =
    (if o.mulOk t to = true then if o.mulOk h bo = true then if o.mulOk (h * bo) (c + 1) = true then if o.mulOk w bo = true then if o.mulOk (w * bo) (c + 1) = true then if o.mulOk u bo = true then if o.mulOk (u * bo) (c + 1) = true then
      if (([0, 1] : List Int).any fun x => x == (c + 1).fmod 4) = true then
        if ((c + 1).fmod 2 == 1) = true then rec (ρ_wv to bo pa (t * to) (h * bo * (c + 1) + t * to) (w * bo * (c + 1)) (u * bo * (c + 1)) (c + 1) (some (.int i)) (some (.int (t * to))))
        else rec (ρ_wv to bo pa (t * to) (h * bo * (c + 1)) (w * bo * (c + 1) + t * to) (u * bo * (c + 1)) (c + 1) (some (.int i)) (some (.int (t * to))))
      else
        if ((c + 1).fmod 2 == 1) = true then rec (ρ_wv to bo pa (t * to) (h * bo * (c + 1) + (0 - t * to)) (w * bo * (c + 1)) (u * bo * (c + 1)) (c + 1) (some (.int i)) (some (.int (0 - t * to))))
        else rec (ρ_wv to bo pa (t * to) (h * bo * (c + 1)) (w * bo * (c + 1) + (0 - t * to)) (u * bo * (c + 1)) (c + 1) (some (.int i)) (some (.int (0 - t * to))))
    else none else none else none else none else none else none else none) := by kernel_rfl
theorem wv_upd (to bo pa t h w u c : Int) (tu no : Option V) (i : Nat) : upd "turn" (.int i) (ρ_wv to bo pa t h w u c tu no) = ρ_wv to bo pa t h w u c (some (.int i)) no := by kernel_rfl
theorem wv_has (to bo pa t h w u c : Int) (tu no : Option V) : ((ρ_wv to bo pa t h w u c tu no).lookup ("turn" : Str)).isSome = true := by kernel_rfl
theorem wv_loop (to bo pa : Int) (kn : Rho → Option V) (k : Int → Int → Int → Int → Option V) (hk : ∀ t h w u c tu no, kn (ρ_wv to bo pa t h w u c tu no) = k t h w u) : ∀ f i t h w u c tu no, rangeGo (whR o (φ37 o) "_law_waves" 1) "turn" kn some f i (ρ_wv to bo pa t h w u c tu no) = (L_wv o) to bo k f t h w u c := by
  intro f
  induction f with
  | zero => intro i t h w u c tu no; exact hk ..
  | succ f ih => intro i t h w u c tu no; rw [rangeGo_succ _ _ _ _ _ _ _ (wv_has ..), wv_upd, (wv_step o) _ _ _ _ _ _ _ _ tu]; simp only [ih]; rfl
noncomputable def K_wv (o : Ops) (t h w u : Int) : Option V := some (.tup [.int h, .int w, .int (absI t), .int u])
theorem wv_post (to bo pa t h w u c : Int) (tu no : Option V) : whK o (φ37 o) "_law_waves" 1 (ρ_wv to bo pa t h w u c tu no) = (K_wv o) t h w u := by kernel_rfl
noncomputable def F_law_waves (o : Ops) (to bo pa : Int) : Option V :=
  if o.mulOk 2 pa = true then if 0 ≤ 2 * pa ∧ 2 * pa ≤ 100000 then (L_wv o) to bo (K_wv o) (2 * pa).toNat 1 0 1 1 0 else none else none
theorem R_law_waves (to bo pa : Int) : runF o (φ37 o) "_law_waves" ["top", "bottom", "pairs"] [.int to, .int bo, .int pa] = (F_law_waves o) to bo pa :=
  Eq.trans (b := if o.mulOk 2 pa = true then if 0 ≤ 2 * pa ∧ 2 * pa ≤ 100000 then rangeGo (whR o (φ37 o) "_law_waves" 1) "turn" (whK o (φ37 o) "_law_waves" 1) some (2 * pa).toNat 0 (ρ_wv to bo pa 1 0 1 1 0 none none) else none else none) (by kernel_rfl)
    (by rw [(wv_loop o) to bo pa _ (K_wv o) ((wv_post o) to bo pa)]; rfl)
noncomputable def G_law_waves (o : Ops) (vs : List V) (k : Kon) : Option V := match vs with
  | [.int b, .int m, .int e] => callW ((F_law_waves o) b m e) fun a b c d => k (.tup [.int a, .int b, .int c, .int d])
  | _ => none
noncomputable def φ38 (o : Ops) : Phi := ext "_law_waves" (G_law_waves o) (φ37 o)
end Mine

end
-- part F5
section
open PySem PySem.W PySem.Calls PyProof.Rows
set_option Elab.async false
set_option maxRecDepth 100000
set_option linter.unusedVariables false
namespace Mine
variable (o : Ops)
noncomputable def ρ_sd (g0 g1 a0 a1 b0 b1 pa : Int) (x1 x2 x3 x4 x5 x6 : Option V) : Rho := [("given", some (pairV g0 g1)), ("one", some (pairV a0 a1)), ("other", some (pairV b0 b1)), ("pairs", some (.int pa)), ("high", x1), ("wide", x2), ("last", x3), ("under", x4), ("found", x5), ("open_part", x6)]
noncomputable def L_sd (o : Ops) (g0 g1 a0 a1 b0 b1 : Int) : Nat → Int → Option V
  | 0, _ => none
  | f + 1, pa => callW (F_law_waves o g0 g1 pa) fun h w l u =>
    if o.mulOk a0 b1 = true then if o.mulOk (a0 * b1) h = true then if o.mulOk b0 a1 = true then if o.mulOk (b0 * a1) w = true then
    if o.mulOk (absI a0) b1 = true then if o.mulOk (absI b0) a1 = true then if o.mulOk (absI a0 * b1 + absI b0 * a1) l = true then
      if decide ((absI a0 * b1 + absI b0 * a1) * l < a0 * b1 * h - b0 * a1 * w) = true then some (.int 1) else
      if decide (a0 * b1 * h - b0 * a1 * w < 0 - (absI a0 * b1 + absI b0 * a1) * l) = true then some (.int (-1)) else L_sd o g0 g1 a0 a1 b0 b1 f (pa + 2)
    else none else none else none else none else none else none else none
theorem sd_step (g0 g1 a0 a1 b0 b1 pa : Int) (x1 x2 x3 x4 x5 x6 : Option V) (rec kn : Rho → Option V) :
    (whT o (φ38 o) "_law_side" 1 (ρ_sd g0 g1 a0 a1 b0 b1 pa x1 x2 x3 x4 x5 x6) fun x => if x then whR o (φ38 o) "_law_side" 1 (ρ_sd g0 g1 a0 a1 b0 b1 pa x1 x2 x3 x4 x5 x6) rec some else kn (ρ_sd g0 g1 a0 a1 b0 b1 pa x1 x2 x3 x4 x5 x6)) =
    (callW (F_law_waves o g0 g1 pa) fun h w l u =>
    if o.mulOk a0 b1 = true then if o.mulOk (a0 * b1) h = true then if o.mulOk b0 a1 = true then if o.mulOk (b0 * a1) w = true then
    if o.mulOk (absI a0) b1 = true then if o.mulOk (absI b0) a1 = true then if o.mulOk (absI a0 * b1 + absI b0 * a1) l = true then
      if decide ((absI a0 * b1 + absI b0 * a1) * l < a0 * b1 * h - b0 * a1 * w) = true then some (.int 1) else
      if decide (a0 * b1 * h - b0 * a1 * w < 0 - (absI a0 * b1 + absI b0 * a1) * l) = true then some (.int (-1)) else
        rec (ρ_sd g0 g1 a0 a1 b0 b1 (pa + 2) (some (.int h)) (some (.int w)) (some (.int l)) (some (.int u)) (some (.int (a0 * b1 * h - b0 * a1 * w))) (some (.int ((absI a0 * b1 + absI b0 * a1) * l))))
    else none else none else none else none else none else none else none) := by kernel_rfl
theorem sd_loop (g0 g1 a0 a1 b0 b1 : Int) (kn : Rho → Option V) : ∀ f pa x1 x2 x3 x4 x5 x6, whGo (whT o (φ38 o) "_law_side" 1) (whR o (φ38 o) "_law_side" 1) kn some f (ρ_sd g0 g1 a0 a1 b0 b1 pa x1 x2 x3 x4 x5 x6) = L_sd o g0 g1 a0 a1 b0 b1 f pa := by
  intro f
  induction f with
  | zero => intros; rfl
  | succ f ih => intro pa x1 x2 x3 x4 x5 x6; rw [whGo_succ, sd_step]; simp only [ih]; rfl
noncomputable def F_law_side (o : Ops) (g0 g1 a0 a1 b0 b1 : Int) : Option V := if o.divOk (absI g0) g1 = true then L_sd o g0 g1 a0 a1 b0 b1 whFuel ((absI g0).fdiv g1 + 3) else none
theorem R_law_side (g0 g1 a0 a1 b0 b1 : Int) : runF o (φ38 o) "_law_side" ["given", "one", "other"] [pairV g0 g1, pairV a0 a1, pairV b0 b1] = F_law_side o g0 g1 a0 a1 b0 b1 :=
  Eq.trans (b := if o.divOk (absI g0) g1 = true then whF o (φ38 o) "_law_side" 1 (ρ_sd g0 g1 a0 a1 b0 b1 ((absI g0).fdiv g1 + 3) none none none none none none) else none) (by kernel_rfl) (by rw [whF, sd_loop]; rfl)
noncomputable def G_law_side (o : Ops) (vs : List V) (k : Kon) : Option V := match vs with
  | [.tup [.int a, .int b], .tup [.int c, .int d], .tup [.int e, .int f]] => callI (F_law_side o a b c d e f) fun i => k (.int i)
  | _ => none
noncomputable def φ39 (o : Ops) : Phi := ext "_law_side" (G_law_side o) (φ38 o)

noncomputable def ρ_ls (g0 g1 k0 k1 : Int) (ic : Bool) (pa : Int) (x1 x2 x3 x4 x5 : Option V) : Rho := [("given", some (pairV g0 g1)), ("mark", some (pairV k0 k1)), ("is_cosine", some (.bool ic)), ("pairs", some (.int pa)), ("high", x1), ("wide", x2), ("last", x3), ("under", x4), ("found", x5)]
noncomputable def L_ls (o : Ops) (g0 g1 k0 k1 : Int) (ic : Bool) : Nat → Int → Option V
  | 0, _ => none
  | f + 1, pa => callW (F_law_waves o g0 g1 pa) fun h w l u =>
    if ic = true then
      if o.mulOk w k1 = true then if o.mulOk k0 u = true then if o.mulOk l k1 = true then
        if decide (l * k1 < absI (w * k1 - k0 * u)) = true then (if decide (0 < w * k1 - k0 * u) = true then some (.int 1) else some (.int (-1))) else L_ls o g0 g1 k0 k1 ic f (pa + 2)
      else none else none else none
    else
      if o.mulOk h k1 = true then if o.mulOk k0 u = true then if o.mulOk l k1 = true then
        if decide (l * k1 < absI (h * k1 - k0 * u)) = true then (if decide (0 < h * k1 - k0 * u) = true then some (.int 1) else some (.int (-1))) else L_ls o g0 g1 k0 k1 ic f (pa + 2)
      else none else none else none
theorem ls_step (g0 g1 k0 k1 : Int) (ic : Bool) (pa : Int) (x1 x2 x3 x4 x5 : Option V) (rec kn : Rho → Option V) :
    (whT o (φ39 o) "_law_least_side" 1 (ρ_ls g0 g1 k0 k1 ic pa x1 x2 x3 x4 x5) fun x => if x then whR o (φ39 o) "_law_least_side" 1 (ρ_ls g0 g1 k0 k1 ic pa x1 x2 x3 x4 x5) rec some else kn (ρ_ls g0 g1 k0 k1 ic pa x1 x2 x3 x4 x5)) =
    (callW (F_law_waves o g0 g1 pa) fun h w l u =>
    if ic = true then
      if o.mulOk w k1 = true then if o.mulOk k0 u = true then if o.mulOk l k1 = true then
        if decide (l * k1 < absI (w * k1 - k0 * u)) = true then (if decide (0 < w * k1 - k0 * u) = true then some (.int 1) else some (.int (-1))) else
          rec (ρ_ls g0 g1 k0 k1 ic (pa + 2) (some (.int h)) (some (.int w)) (some (.int l)) (some (.int u)) (some (.int (w * k1 - k0 * u))))
      else none else none else none
    else
      if o.mulOk h k1 = true then if o.mulOk k0 u = true then if o.mulOk l k1 = true then
        if decide (l * k1 < absI (h * k1 - k0 * u)) = true then (if decide (0 < h * k1 - k0 * u) = true then some (.int 1) else some (.int (-1))) else
          rec (ρ_ls g0 g1 k0 k1 ic (pa + 2) (some (.int h)) (some (.int w)) (some (.int l)) (some (.int u)) (some (.int (h * k1 - k0 * u))))
      else none else none else none) := by cases ic <;> kernel_rfl
theorem ls_loop (g0 g1 k0 k1 : Int) (ic : Bool) (kn : Rho → Option V) : ∀ f pa x1 x2 x3 x4 x5, whGo (whT o (φ39 o) "_law_least_side" 1) (whR o (φ39 o) "_law_least_side" 1) kn some f (ρ_ls g0 g1 k0 k1 ic pa x1 x2 x3 x4 x5) = L_ls o g0 g1 k0 k1 ic f pa := by
  intro f
  induction f with
  | zero => intros; rfl
  | succ f ih => intro pa x1 x2 x3 x4 x5; rw [whGo_succ, ls_step]; simp only [ih]; rfl
noncomputable def F_law_least_side (o : Ops) (g0 g1 k0 k1 : Int) (ic : Bool) : Option V := if o.divOk (absI g0) g1 = true then L_ls o g0 g1 k0 k1 ic whFuel ((absI g0).fdiv g1 + 3) else none
theorem R_law_least_side (g0 g1 k0 k1 : Int) (ic : Bool) : runF o (φ39 o) "_law_least_side" ["given", "mark", "is_cosine"] [pairV g0 g1, pairV k0 k1, .bool ic] = F_law_least_side o g0 g1 k0 k1 ic :=
  Eq.trans (b := if o.divOk (absI g0) g1 = true then whF o (φ39 o) "_law_least_side" 1 (ρ_ls g0 g1 k0 k1 ic ((absI g0).fdiv g1 + 3) none none none none none) else none) (by kernel_rfl) (by rw [whF, ls_loop]; rfl)
noncomputable def G_law_least_side (o : Ops) (vs : List V) (k : Kon) : Option V := match vs with
  | [.tup [.int a, .int b], .tup [.int c, .int d], .bool ic] => callI (F_law_least_side o a b c d ic) fun i => k (.int i)
  | _ => none
noncomputable def φ40 (o : Ops) : Phi := ext "_law_least_side" (G_law_least_side o) (φ39 o)

noncomputable def F_law_is_wave_right (o : Ops) (b g0 g1 m e : Int) (ic : Bool) : Option V :=
  callM (F_law_middles o b m e) (some (.bool false)) fun a1 b1 a2 b2 =>
    callI (F_law_least_side o g0 g1 a1 b1 ic) fun x => callI (F_law_least_side o g0 g1 a2 b2 ic) fun y => some (.bool (decide ([x, y] = [1, -1])))
theorem R_law_is_wave_right (b g0 g1 m e : Int) (ic : Bool) : runF o (φ40 o) "_law_is_wave_right" ["bits", "given", "found", "is_cosine"] [.int b, pairV g0 g1, .real m e, .bool ic] = F_law_is_wave_right o b g0 g1 m e ic := by kernel_rfl
noncomputable def G_law_is_wave_right (o : Ops) (vs : List V) (k : Kon) : Option V := match vs with
  | [.int b, .tup [.int c, .int d], .real m e, .bool ic] => callB (F_law_is_wave_right o b c d m e ic) fun i => k (.bool i)
  | _ => none
noncomputable def φ41 (o : Ops) : Phi := ext "_law_is_wave_right" (G_law_is_wave_right o) (φ40 o)

noncomputable def F_law_is_tangent_right (o : Ops) (b g0 g1 m e : Int) : Option V :=
  callM (F_law_middles o b m e) (some (.bool false)) fun a1 b1 a2 b2 => callI (F_law_least_side o g0 g1 0 1 true) fun t =>
    callI (F_law_side o g0 g1 1 1 a1 b1) fun x => if o.mulOk t x = true then callI (F_law_side o g0 g1 1 1 a2 b2) fun y => if o.mulOk t y = true then some (.bool (decide ([t * x, t * y] = [1, -1]))) else none else none
theorem R_law_is_tangent_right (b g0 g1 m e : Int) : runF o (φ41 o) "_law_is_tangent_right" ["bits", "given", "found"] [.int b, pairV g0 g1, .real m e] = F_law_is_tangent_right o b g0 g1 m e := by kernel_rfl
noncomputable def G_law_is_tangent_right (o : Ops) (vs : List V) (k : Kon) : Option V := match vs with
  | [.int b, .tup [.int c, .int d], .real m e] => callB (F_law_is_tangent_right o b c d m e) fun i => k (.bool i)
  | _ => none
noncomputable def φ42 (o : Ops) : Phi := ext "_law_is_tangent_right" (G_law_is_tangent_right o) (φ41 o)
end Mine

end
-- part F6
section
open PySem PySem.W PySem.Calls PyProof.Rows
set_option Elab.async false
set_option maxRecDepth 100000
set_option linter.unusedVariables false
namespace Mine
variable (o : Ops)
noncomputable def gOf (B : Int → Option V) (vs : List V) : Option V := match vs with
  | [.int w] => B w
  | _ => none
noncomputable def cfgB (o : Ops) (φ : Phi) (B : Int → Option V) : Cfg := ⟨φ, con0, some ("bounds_at", gOf B), o⟩
noncomputable def ρ_de (p w : Int) (a : Addr) (x1 x2 x3 : Option V) : Rho := [("precision", some (.int p)), ("work", some (.int w)), ("bounds_at", some (.fn a)), ("found", x1), ("one", x2), ("other", x3)]
noncomputable def T_de (o : Ops) (B : Int → Option V) : Rho → (Bool → Option V) → Option V := fun ρ => rTr (run (cfgB o (φ33 o) B) 39) (fdef "decided").1 ρ (whPart "decided" 0).1
noncomputable def R_de (o : Ops) (B : Int → Option V) : Rho → (Rho → Option V) → Kon → Option V := fun ρ => rEx (run (cfgB o (φ33 o) B) 39) (fdef "decided").1 ρ (whPart "decided" 0).2
noncomputable def K_de (o : Ops) (B : Int → Option V) : Rho → Option V := fun ρ => rEx (run (cfgB o (φ33 o) B) 39) (fdef "decided").1 ρ ((fdef "decided").2.drop 1) (fun _ => some .none) some
noncomputable def M_de (o : Ops) (B : Int → Option V) (rec : Rho → Option V) (ρ : Rho) : Option V := rEx (run (cfgB o (φ33 o) B) 38) (fdef "decided").1 ρ ((whPart "decided" 0).2.drop 1) rec some
noncomputable def L_de (o : Ops) (B : Int → Option V) (p : Int) : Nat → Int → Option V
  | 0, _ => none
  | f + 1, w => callO (B w) (if o.mulOk 2 w = true then L_de o B p f (2 * w) else none) fun x y =>
    if o.shlOk 1 w = true then callR (F_rounded o p x (1 * 2 ^ w.toNat)) fun m e => if o.shlOk 1 w = true then callR (F_rounded o p y (1 * 2 ^ w.toNat)) fun m' e' =>
      callB (F_same_real o m e m' e') fun b => if b = true then some (.real m e) else if o.mulOk 2 w = true then L_de o B p f (2 * w) else none
    else none else none
theorem de_step (B : Int → Option V) (p w : Int) (a : Addr) (x1 x2 x3 : Option V) (rec kn : Rho → Option V) :
    (T_de o B (ρ_de p w a x1 x2 x3) fun x => if x then R_de o B (ρ_de p w a x1 x2 x3) rec some else kn (ρ_de p w a x1 x2 x3)) =
    match B w with | some d => M_de o B rec (ρ_de p w a (some d) x2 x3) | none => none := by kernel_rfl
theorem de_none (B : Int → Option V) (p w : Int) (a : Addr) (x2 x3 : Option V) (rec : Rho → Option V) :
    M_de o B rec (ρ_de p w a (some .none) x2 x3) = if o.mulOk 2 w = true then rec (ρ_de p (2 * w) a (some .none) x2 x3) else none := by kernel_rfl
theorem de_pair (B : Int → Option V) (p w x y : Int) (a : Addr) (x2 x3 : Option V) (rec : Rho → Option V) :
    M_de o B rec (ρ_de p w a (some (pairV x y)) x2 x3) = if o.shlOk 1 w = true then callR (F_rounded o p x (1 * 2 ^ w.toNat)) fun m e => if o.shlOk 1 w = true then callR (F_rounded o p y (1 * 2 ^ w.toNat)) fun m' e' =>
      callB (F_same_real o m e m' e') fun b => if b = true then some (.real m e) else if o.mulOk 2 w = true then rec (ρ_de p (2 * w) a (some (pairV x y)) (some (.real m e)) (some (.real m' e'))) else none
    else none else none := by kernel_rfl
theorem callI_inv {x : Option V} {k : Int → Option V} {r : V} (h : callI x k = some r) : ∃ i, x = some (.int i) ∧ k i = some r := by
  unfold callI at h; split at h
  · exact ⟨_, rfl, h⟩
  · cases h
theorem callB_inv {x : Option V} {k : Bool → Option V} {r : V} (h : callB x k = some r) : ∃ i, x = some (.bool i) ∧ k i = some r := by
  unfold callB at h; split at h
  · exact ⟨_, rfl, h⟩
  · cases h
theorem callP_inv {x : Option V} {k : Int → Int → Option V} {r : V} (h : callP x k = some r) : ∃ i j, x = some (pairV i j) ∧ k i j = some r := by
  unfold callP at h; split at h
  · exact ⟨_, _, rfl, h⟩
  · cases h
theorem callR_inv {x : Option V} {k : Int → Int → Option V} {r : V} (h : callR x k = some r) : ∃ i j, x = some (.real i j) ∧ k i j = some r := by
  unfold callR at h; split at h
  · exact ⟨_, _, rfl, h⟩
  · cases h
theorem callQ_inv {x : Option V} {k : Int → Int → Int → Option V} {r : V} (h : callQ x k = some r) : ∃ t i j, x = some (.tup [.int t, pairV i j]) ∧ k t i j = some r := by
  unfold callQ at h; split at h
  · exact ⟨_, _, _, rfl, h⟩
  · cases h
theorem callW_inv {x : Option V} {k : Int → Int → Int → Int → Option V} {r : V} (h : callW x k = some r) : ∃ a b c d, x = some (.tup [.int a, .int b, .int c, .int d]) ∧ k a b c d = some r := by
  unfold callW at h; split at h
  · exact ⟨_, _, _, _, rfl, h⟩
  · cases h
theorem callN_inv {x : Option V} {k : Option V} {r : V} (h : callN x k = some r) : x = some .none ∧ k = some r := by
  unfold callN at h; split at h
  · exact ⟨rfl, h⟩
  · cases h
theorem callO_inv {x : Option V} {kz : Option V} {k : Int → Int → Option V} {r : V} (h : callO x kz k = some r) : (x = some .none ∧ kz = some r) ∨ ∃ i j, x = some (pairV i j) ∧ k i j = some r := by
  unfold callO at h; split at h
  · exact .inl ⟨rfl, h⟩
  · exact .inr ⟨_, _, rfl, h⟩
  · cases h
theorem callM_inv {x : Option V} {kz : Option V} {k : Int → Int → Int → Int → Option V} {r : V} (h : callM x kz k = some r) : (x = some .none ∧ kz = some r) ∨ ∃ a b c d, x = some (.list [pairV a b, pairV c d]) ∧ k a b c d = some r := by
  unfold callM at h; split at h
  · exact .inl ⟨rfl, h⟩
  · exact .inr ⟨_, _, _, _, rfl, h⟩
  · cases h
theorem ite_inv {p : Bool} {x : Option V} {r : V} (h : (if p = true then x else none) = some r) : p = true ∧ x = some r := by
  split at h
  · rename_i q; exact ⟨q, h⟩
  · cases h
theorem de_loop (B : Int → Option V) (p : Int) (a : Addr) (kn : Rho → Option V) (d : V) : ∀ f w x1 x2 x3, L_de o B p f w = some d → whGo (T_de o B) (R_de o B) kn some f (ρ_de p w a x1 x2 x3) = some d := by
  intro f
  induction f with
  | zero => intro w x1 x2 x3 h; cases h
  | succ f ih =>
    intro w x1 x2 x3 h
    rw [whGo_succ, de_step]
    rcases callO_inv h with ⟨hB, h⟩ | ⟨x, y, hB, h⟩
    · obtain ⟨hm, h⟩ := ite_inv h
      rw [hB]
      show M_de o B _ _ = _
      rw [de_none, if_pos hm]
      exact ih _ _ _ _ h
    · obtain ⟨h1, h⟩ := ite_inv h
      obtain ⟨m, e, q1, h⟩ := callR_inv h
      obtain ⟨_, h⟩ := ite_inv h
      obtain ⟨m', e', q2, h⟩ := callR_inv h
      obtain ⟨b, q3, h⟩ := callB_inv h
      rw [hB]
      show M_de o B _ (ρ_de p w a (some (pairV x y)) x2 x3) = _
      rw [de_pair, if_pos h1, q1, callR, if_pos h1, q2, callR, q3, callB]
      split at h
      · rename_i hb; rw [if_pos hb]; exact h
      · rename_i hb
        obtain ⟨hm, h⟩ := ite_inv h
        rw [if_neg hb, if_pos hm]
        exact ih _ _ _ _ h
noncomputable def F_decided (o : Ops) (B : Int → Option V) (p w : Int) : Option V := L_de o B p whFuel w
theorem R_decided (B : Int → Option V) (p w : Int) (a : Addr) {d : V} (h : F_decided o B p w = some d) :
    runFn (cfgB o (φ33 o) B) 40 (fdef "decided").1 ["precision", "work", "bounds_at"] (fdef "decided").2 [.int p, .int w, .fn a] = some d :=
  Eq.trans (b := whGo (T_de o B) (R_de o B) (K_de o B) some whFuel (ρ_de p w a none none none)) (by kernel_rfl) (de_loop o B p a _ d _ _ _ _ _ h)

/-- the nested functions' texts -/
noncomputable def inner (nm : Str) : Scope × List Stmt := (((fdef nm).2.findSome? fun st => match st with
  | .FunctionDef _ _ b _ _ _ sc _ _ _ => some (sc, b)
  | _ => none)).getD (default, [])
noncomputable def B_sin (o : Ops) (m e w : Int) : Option V := callQ (F_quarter_turns o w m e) fun t r0 r1 => callP (F_wave_bounds o w r0 r1 t) fun a b => some (pairV a b)
noncomputable def B_cos (o : Ops) (m e w : Int) : Option V := callQ (F_quarter_turns o w m e) fun t r0 r1 => callP (F_wave_bounds o w r0 r1 (t + 1)) fun a b => some (pairV a b)
noncomputable def B_tan (o : Ops) (m e w : Int) : Option V := callO (F_tan_bounds o w m e) (some .none) fun a b => some (pairV a b)
noncomputable def ρ_in (sc : Scope) (m e w : Int) : Rho := List.append (rho0 sc ["work"] [V.int w]) [("real", some (V.real m e))]
noncomputable def rEv (r : Run) (sc : Scope) (ρ : Rho) (e : Expr) (k : Kon) : Option V := r.ev sc ρ e k
theorem R_sinB (m e w : Int) : rEx (run (cfg o (φ33 o)) 40) (inner "sin_real").1 (ρ_in (inner "sin_real").1 m e w) (inner "sin_real").2 (fun _ => some .none) some = B_sin o m e w := by kernel_rfl
theorem R_cosB (m e w : Int) : rEx (run (cfg o (φ33 o)) 40) (inner "cos_real").1 (ρ_in (inner "cos_real").1 m e w) (inner "cos_real").2 (fun _ => some .none) some = B_cos o m e w := by kernel_rfl
noncomputable def tanL : Scope × Expr := match ((fdef "tan_real").2[2]? : Option Stmt) with
  | some (Stmt.Return (some (Expr.Call _ [_, _, Expr.Lambda _ e sc _] _ _)) _) => (sc, e)
  | _ => (default, Expr.Constant .none 0 default)
theorem R_tanB (m e w : Int) : rEv (run (cfg o (φ33 o)) 40) tanL.1 (ρ_in tanL.1 m e w) tanL.2 some = B_tan o m e w := by kernel_rfl

noncomputable def F_head (o : Ops) (p m e : Int) (z : Option V) (k : Int → Option V) : Option V :=
  callN (F_need_turns o m e) (callI (F_sign_of o m e) fun s => if (s == 0) = true then z else callB (F_is_slight o p m e) fun b => if b = true then z else callI (F_angle_work o p m e) k)
noncomputable def F_sin_real (o : Ops) (p m e : Int) : Option V := F_head o p m e (some (.real m e)) fun w => callR (F_decided o (B_sin o m e) p w) fun a b => some (.real a b)
noncomputable def F_cos_real (o : Ops) (p m e : Int) : Option V := F_head o p m e (some (.real 1 0)) fun w => callR (F_decided o (B_cos o m e) p w) fun a b => some (.real a b)
noncomputable def F_tan_real (o : Ops) (p m e : Int) : Option V := F_head o p m e (some (.real m e)) fun w => callR (F_decided o (B_tan o m e) p w) fun a b => some (.real a b)
noncomputable def G_sin_real (o : Ops) (vs : List V) (k : Kon) : Option V := match vs with
  | [.int p, .real m e] => callR (F_sin_real o p m e) fun a b => k (.real a b)
  | _ => none
noncomputable def φ43 (o : Ops) : Phi := ext "sin_real" (G_sin_real o) (φ42 o)
noncomputable def G_cos_real (o : Ops) (vs : List V) (k : Kon) : Option V := match vs with
  | [.int p, .real m e] => callR (F_cos_real o p m e) fun a b => k (.real a b)
  | _ => none
noncomputable def φ44 (o : Ops) : Phi := ext "cos_real" (G_cos_real o) (φ43 o)
noncomputable def G_tan_real (o : Ops) (vs : List V) (k : Kon) : Option V := match vs with
  | [.int p, .real m e] => callR (F_tan_real o p m e) fun a b => k (.real a b)
  | _ => none
noncomputable def φ45 (o : Ops) : Phi := ext "tan_real" (G_tan_real o) (φ44 o)
/-- one round of the law's loop -/
noncomputable def F_round (o : Ops) (b c : Int) : Option V :=
  callP (F_law_pair o b c) fun m e => callP (F_law_fraction o m e) fun g0 g1 =>
  callR (F_sin_real o b m e) fun x y => callB (F_law_is_wave_right o b g0 g1 x y false) fun q => if q = true then
  callR (F_cos_real o b m e) fun x y => callB (F_law_is_wave_right o b g0 g1 x y true) fun q => if q = true then
  callR (F_tan_real o b m e) fun x y => callB (F_law_is_tangent_right o b g0 g1 x y) fun q => if q = true then some .none else none else none else none
noncomputable def isOk : Option V → Bool
  | some .none => true
  | _ => false
noncomputable def okRange (b : Int) (i n : Nat) : Bool := (List.range' i n).all fun c => isOk (F_round opsR b c)
end Mine

end
-- part F7
section
open PySem PySem.W PySem.Calls PyProof.Rows
set_option Elab.async false
set_option maxRecDepth 100000
namespace Mine
theorem ok_2_0 : okRange 2 0 24 = true := by decide +kernel
theorem ok_3_0 : okRange 3 0 24 = true := by decide +kernel
theorem ok_3_24 : okRange 3 24 24 = true := by decide +kernel
theorem ok_4_0 : okRange 4 0 24 = true := by decide +kernel
theorem ok_4_24 : okRange 4 24 24 = true := by decide +kernel
theorem ok_4_48 : okRange 4 48 24 = true := by decide +kernel
theorem ok_4_72 : okRange 4 72 24 = true := by decide +kernel
theorem ok_5_0 : okRange 5 0 24 = true := by decide +kernel
theorem ok_5_24 : okRange 5 24 24 = true := by decide +kernel
theorem ok_5_48 : okRange 5 48 24 = true := by decide +kernel
theorem ok_5_72 : okRange 5 72 24 = true := by decide +kernel
theorem ok_5_96 : okRange 5 96 24 = true := by decide +kernel
theorem ok_5_120 : okRange 5 120 24 = true := by decide +kernel
theorem ok_5_144 : okRange 5 144 24 = true := by decide +kernel
theorem ok_5_168 : okRange 5 168 24 = true := by decide +kernel
end Mine

end
-- part H0
section
open PySem PySem.W PySem.Calls PyProof.Rows
set_option maxRecDepth 100000
set_option maxHeartbeats 8000000
set_option Elab.async false
namespace Mine
section
local macro_rules | `(tactic| o_head $_) => `(tactic| assumption)
theorem hk (h : PySem.Challenge.rw_nt0171_01.row.Holds) : PySem.Challenge.rw_nt0171_01.row.Holds := by
  k_head
end
noncomputable def keeps (l : List Stmt) : List Stmt := (l.drop 1).take 2 ++ ((l.drop 4).take 13 ++ ((l.drop 18).take 28 ++ l.drop 47))
noncomputable def view : Program := { PySem.Challenge.rw_nt0171_01.prog with main := { PySem.Challenge.rw_nt0171_01.prog.main with body := keeps PySem.Challenge.rw_nt0171_01.prog.main.body } }
noncomputable def kas : List Addr := [2, 3, 15, 22, 24, 25, 27, 28, 29, 30, 31, 32, 35, 42, 44, 45, 47, 48, 49, 50, 51, 61, 63, 64, 66, 67, 68, 69, 70, 71, 72, 75, 77, 78, 80, 81, 82, 84, 85, 87, 88, 89, 91, 92, 94, 95, 96, 98, 99, 101, 102, 103, 105, 106, 108, 109, 110, 112, 113, 115, 116, 117, 119, 120, 122, 123, 124, 126, 127, 129, 130, 131, 133, 134, 136, 137, 138, 140, 141, 143, 144, 145, 147, 148, 150, 151, 152, 154, 155, 157, 158, 159, 161, 162, 164, 165, 166, 168, 169, 171, 172, 173, 175, 176, 178, 179, 180, 182, 183, 185, 186, 187, 189, 190, 192, 193, 194, 196, 197, 199, 200, 201, 203, 204, 206, 207, 208, 210, 211, 213, 214, 215, 218, 219, 220, 222, 223, 225, 226, 227, 229, 230, 232, 233, 234, 236, 237, 239, 240, 241, 243, 244, 246, 247, 248, 250, 251, 253, 254, 255, 257, 258, 260, 261, 262, 264, 265, 267, 268, 269, 271, 272, 274, 275, 276, 278, 279, 281, 282, 283, 285, 286, 288, 289, 290, 292, 293, 295, 296, 297, 299, 300, 302, 303, 304, 306, 307, 309, 310, 311, 313, 314, 316, 317, 318, 320, 321, 323, 324, 325, 327, 328, 330, 331, 332, 334, 335, 337, 338, 339, 341, 342, 344, 345, 346, 348, 349, 351, 352, 353, 356, 357, 358, 360, 361, 363, 364, 365, 367, 368, 370, 371, 372, 374, 375, 377, 378, 379, 382, 383, 384, 387, 388, 389, 392, 393]
theorem kas_is (P : Params) : kas = (hk.heap_1 P).map (·.1) := by kernel_rfl

theorem walk_of {d kwd} (h₀ : defOf view PySem.Challenge.rw_nt0171_01.row.name = some (d, kwd)) (H : WalkO view ["REACH"] (XL view [("REACH", .int 65536)]) (kmHook hk.heap_1 kas kas_is [326, 312, 305]).says PySem.Challenge.rw_nt0171_01.row.toRowW d kwd fun f vs => PySem.call f vs) : ∀ d kwd, defOf view PySem.Challenge.rw_nt0171_01.row.name = some (d, kwd) → WalkO view ["REACH"] (XL view [("REACH", .int 65536)]) (kmHook hk.heap_1 kas kas_is [326, 312, 305]).says PySem.Challenge.rw_nt0171_01.row.toRowW d kwd fun f vs => PySem.call f vs := fun d kwd h => by
  have e := Option.some.inj (h₀.symm.trans h)
  cases e
  exact H
end Mine

end
-- part K0
section
open PySem PySem.W PySem.Calls PyProof.Rows
set_option Elab.async false
set_option maxRecDepth 100000
set_option maxHeartbeats 8000000
namespace Mine
noncomputable def FnAt (K : Frag) (nm : Str) (ps : List Str) : Prop := ∃ a oc od osl name qual params body scope dV kV doc pm an cdv ct,
  nsIn K mainGlobals nm = some (some (.ref a)) ∧ keepIn K (.ref a) = true ∧ K.lookup a = some ⟨oc, od, .func (fnOf name qual params body scope dV kV doc pm an cdv ct), osl⟩ ∧ codeIn K cdv qual = true ∧ body = (fdef nm).2 ∧ scope = (fdef nm).1 ∧ (∀ us : List Value, us.length = ps.length → bindArgs (fnOf name qual params body scope dV kV doc pm an cdv ct) ⟨us, []⟩ = pure (ps.zip us))
theorem fnAt_of {K : Frag} {nm : Str} {ps : List Str} {a oc od osl name qual params body scope dV kV doc pm an cdv ct}
  (h1 : nsIn K mainGlobals nm = some (some (.ref a))) (h2 : keepIn K (.ref a) = true) (h3 : K.lookup a = some ⟨oc, od, .func (fnOf name qual params body scope dV kV doc pm an cdv ct), osl⟩) (h4 : codeIn K cdv qual = true) (h5 : body = (fdef nm).2) (h6 : scope = (fdef nm).1)
  (h7 : ∀ us : List Value, us.length = ps.length → bindArgs (fnOf name qual params body scope dV kV doc pm an cdv ct) ⟨us, []⟩ = pure (ps.zip us)) : FnAt K nm ps := ⟨_, _, _, _, _, _, _, _, _, _, _, _, _, _, _, _, h1, h2, h3, h4, h5, h6, h7⟩
theorem len1 {us : List Value} (h : us.length = 1) : ∃ a, us = [a] := List.length_eq_one_iff.mp h
theorem at_size_of (w : World) : FnAt (Mine.hk.heap_1 w.params) "size_of" ["number"] ∧ PySem.Challenge.rw_nt0171_01.Holds = PySem.Challenge.rw_nt0171_01.Holds := by
  k_fill
  refine ⟨?_, rfl⟩
  refine' fnAt_of ?h1 ?h2 ?h3 ?h4 ?h5 ?h6 ?h7
  case h1 => k_is
  case h2 => k_is
  case h3 => k_is
  case h4 => k_is
  case h5 => kernel_rfl
  case h6 => kernel_rfl
  case h7 =>
    intro us h
    obtain ⟨a, rfl⟩ := len1 h
    rfl
end Mine

end
-- part K2
section
open PySem PySem.W PySem.Calls PyProof.Rows
set_option Elab.async false
set_option maxRecDepth 100000
set_option maxHeartbeats 8000000
namespace Mine
noncomputable def P0 (w : World) (loose : List Str) (mean : ExcName → Option Value) (mg mb : Str → Option Value) : Prm := ⟨PySem.Challenge.rw_nt0171_01.row.prog, w, Mine.hk.heap_1 w.params, topProg, loose, mean, mg, mb, 70⟩
variable {w : World} {loose : List Str} {mean : ExcName → Option Value} {mg mb : Str → Option Value}
local macro_rules | `(tactic| k_all) => `(tactic| assumption)
theorem fill2 (w : World) : Mine.hk.heap_1 w.params = Mine.hk.heap_1 w.params ∧ PySem.Challenge.rw_nt0171_01.Holds = PySem.Challenge.rw_nt0171_01.Holds := by
  k_fill
  exact ⟨rfl, rfl⟩
theorem real_call {A : Around} {h₀ : Heap} {L : Addr} {m : Str → Option Value} {tl : Led} {s : Shared} {i e : Int} {t u : Tok} {Q : Value → Shared → Prop} {env₀ : Env} {outer : List Env} {A₀ : Around} {base : Heap}
   (hA : A.frames = some (env₀ :: outer)) (hf : env₀.frame = some L) (hk : env₀.scope.kind = .function) (B : Below A₀ base outer h₀) (X : (Mine.hk.heap_1 w.params).In h₀) (T : Top topProg loose mean mg mb h₀) (hroom : A.depth + 4 < recursionLimit) (hu : A.units + 64 < cLine)
   (F : Fr h₀ L s.heap m) (N : News h₀ L s.heap tl) 
   (back : ∀ x dx es n h' tk, (∀ p ∈ tl, p.1 < dx) → dx < x → Fr h₀ L h' m → News h₀ L h' ((x, instObj 70 dx) :: (dx, dictOf es n) :: tl) → getL "mantissa" es = some (some (.int i t)) → getL "exponent" es = some (some (.int e u)) → Q (.ref x) { s with heap := h', toks := tk }) :
   wpAny (model PySem.Challenge.rw_nt0171_01.row.prog w) A (call (.ref 70) [.int i t, .int e u]) Q (fun _ _ => False) s := by
  refine' call_cls F X N ?h1 ?h2 ?h3 fun x dx h' F1 N1 off lt => ?_
  case h1 => k_is
  case h2 => k_is
  case h3 => k_is
  refine' code_def (binds := [("self", .ref x), ("mantissa", .int i t), ("exponent", .int e u)]) B F1 X N1 T hA hf hk ?k6 ?k7 ?k8 ?k9 ?kB ?_ ?c2 ?c3 ?c4 ?c5
  case k6 => k_is
  case k7 => k_is
  case k8 => 
    show A.depth + 1 < recursionLimit
    omega
  case k9 => exact BindsTo.of_eq rfl
  case c5 => decide
  case kB => exact locs rfl
  case c2 => exact rfl
  case c3 => exact rfl
  case c4 => exact rfl
  intro g' L' h'' FG' F' N' B' X' T'
  have off' : ∀ p ∈ tl, p.1 ≠ dx := fun p hp => Nat.ne_of_lt (off p hp)
  dsimp only
  clear F N F1 N1 X T B
  k_steps
  refine' set_dict F' X' N' (InstAt.of_news N' (.head _) (.tail _ (.head _))) rfl ?k6 ?k7 ?k8 ?k9 ?k10 ?k11 (Upd.tail (Nat.ne_of_gt lt) (Upd.head off')) ?k13 ?_
  case k6 => k_is
  case k7 => k_is
  case k8 => k_is
  case k9 => k_is
  case k10 => k_get
  case k11 => k_put
  case k13 => exact Nat.le_of_ble_eq_true rfl
  intro h2 F2 N2
  clear F' N'
  dsimp only
  k_steps
  refine' set_dict F2 X' N2 (InstAt.of_news N2 (.head _) (.tail _ (.head _))) rfl ?k6 ?k7 ?k8 ?k9 ?k10 ?k11 (Upd.tail (Nat.ne_of_gt lt) (Upd.head off')) ?k13 ?_
  case k6 => k_is
  case k7 => k_is
  case k8 => k_is
  case k9 => k_is
  case k10 => k_get
  case k11 => k_put
  case k13 => exact Nat.le_of_ble_eq_true rfl
  intro h3 F3 N3
  clear F2 N2
  dsimp only
  refine wpAny_execs_nil ?_
  refine leaveK_ F3 N3 fun F4 N4 => ?_
  exact ⟨rfl, back _ _ _ _ _ _ off lt F4 N4 rfl rfl⟩
end Mine

end
-- part K3
section
open PySem PySem.W PySem.Calls PyProof.Rows
set_option Elab.async false
set_option maxRecDepth 100000
set_option maxHeartbeats 8000000
set_option linter.unusedVariables false
namespace Mine
variable {w : World} {loose : List Str} {mean : ExcName → Option Value} {mg mb : Str → Option Value}
theorem fill3 (w : World) : Mine.hk.heap_1 w.params = Mine.hk.heap_1 w.params ∧ PySem.Challenge.rw_nt0171_01.Holds = PySem.Challenge.rw_nt0171_01.Holds := by
  k_fill
  exact ⟨rfl, rfl⟩
theorem con_of {K : Frag} {x : Str} {i : Int} {t : Tok} (h : nsIn K mainGlobals x = some (some (.int i t))) : ∃ t, nsIn K mainGlobals x = some (some (.int i t)) := ⟨t, h⟩
theorem con_REACH (w : World) : ∃ t, nsIn (Mine.hk.heap_1 w.params) mainGlobals "REACH" = some (some (.int 65536 t)) := by
  refine' con_of ?h
  case h => k_is
theorem con_MORE (w : World) : ∃ t, nsIn (Mine.hk.heap_1 w.params) mainGlobals "MORE" = some (some (.int 12 t)) := by
  refine' con_of ?h
  case h => k_is
theorem con_MOST (w : World) : ∃ t, nsIn (Mine.hk.heap_1 w.params) mainGlobals "MOST_TURNS" = some (some (.int 512 t)) := by
  refine' con_of ?h
  case h => k_is
theorem con_all (x : Str) (i : Int) (h : con0 x = some i) : ∃ t, nsIn (Mine.hk.heap_1 w.params) mainGlobals x = some (some (.int i t)) := by
  unfold con0 at h
  split at h
  · rename_i q; cases h; rw [eq_of_beq q]; exact con_REACH w
  · split at h
    · rename_i q; cases h; rw [eq_of_beq q]; exact con_MORE w
    · split at h
      · rename_i q; cases h; rw [eq_of_beq q]; exact con_MOST w
      · cases h
theorem conOk (φ : Phi) (clo : Option (Str × (List V → Option V))) : ConOk (P0 w loose mean mg mb) ⟨φ, con0, clo, opsR⟩ := ⟨con_all, rfl⟩
theorem prm_get (w : World) : plainGet (Mine.hk.heap_1 w.params) 70 "mantissa" = true := by k_is
theorem prm_hd (w : World) : hasDictIn (Mine.hk.heap_1 w.params) 70 = true := by k_is
theorem prm_fm (w : World) : findIn (Mine.hk.heap_1 w.params) (.ref 70) "mantissa" = some none := by k_is
theorem prm_fe (w : World) : findIn (Mine.hk.heap_1 w.params) (.ref 70) "exponent" = some none := by k_is
theorem prm_abs (w : World) : nsIn (Mine.hk.heap_1 w.params) mainGlobals "abs" = some none := by k_is
theorem prm_min (w : World) : nsIn (Mine.hk.heap_1 w.params) mainGlobals "min" = some none := by k_is
theorem prm_max (w : World) : nsIn (Mine.hk.heap_1 w.params) mainGlobals "max" = some none := by k_is
theorem prm_dm (w : World) : nsIn (Mine.hk.heap_1 w.params) mainGlobals "divmod" = some none := by k_is
theorem prm_rg (w : World) : nsIn (Mine.hk.heap_1 w.params) mainGlobals "range" = some none := by k_is
theorem prmOk : PrmOk (P0 w loose mean mg mb) where
  get _ := prm_get w
  hd := prm_hd w
  fm := prm_fm w
  fe := prm_fe w
  rg := prm_rg w
  bi f b h := by
    show nsIn (Mine.hk.heap_1 w.params) mainGlobals f = _ ∧ _
    unfold biOf at h
    split at h
    · rename_i q; cases h; rw [eq_of_beq q]; exact ⟨prm_abs w, by boot_by_name, by decide⟩
    · split at h
      · rename_i q; cases h; rw [eq_of_beq q]; exact ⟨prm_min w, by boot_by_name, by decide⟩
      · split at h
        · rename_i q; cases h; rw [eq_of_beq q]; exact ⟨prm_max w, by boot_by_name, by decide⟩
        · split at h
          · rename_i q; cases h; rw [eq_of_beq q]; exact ⟨prm_dm w, by boot_by_name, by decide⟩
          · cases h
theorem Cx.mono {P : Prm} {n k : Nat} (hk : n ≤ k) {A : Around} {h₀ : Heap} {L : Addr} (X : Cx P k A h₀ L) : Cx P n A h₀ L := ⟨X.fr, X.X, X.T, X.hh, Nat.lt_of_le_of_lt (Nat.add_le_add_left hk _) X.hd, by have := X.hu; omega⟩
theorem CallOkW.mono {P : Prm} {n k : Nat} (hk : n ≤ k) {a : Addr} {W : Led} {ds : List V} {d : V} (h : CallOkW P n a W ds d) : CallOkW P k a W ds d :=
  fun A h₀ L m hid news s vs Q X => h A h₀ L m hid news s vs Q (X.mono hk)
theorem PhiOk.mono {P : Prm} {n k : Nat} (hk : n ≤ k) {φ : Phi} (h : PhiOk P n φ) : PhiOk P k φ := fun f vs kk r e =>
  let ⟨d, a, h1, h2, h3, h4⟩ := h f vs kk r e; ⟨d, a, h1, h2, h3, h4.mono hk⟩
theorem real_ns (w : World) : nsIn (Mine.hk.heap_1 w.params) mainGlobals "Real" = some (some (.ref 70)) := by k_is
theorem real_keep (w : World) : keepIn (Mine.hk.heap_1 w.params) (.ref 70) = true := by k_is
theorem real_ok (i e : Int) : CallOk (P0 w loose mean mg mb) 4 70 [.int i, .int e] (.real i e) := by
  intro A h₀ L m hid news s vs Q X S _ rv back
  cases rv; rename_i r1 rv; cases rv; rename_i r2 rv; cases rv; cases r1; cases r2
  obtain ⟨⟨env₀, outer, A₀, base, hA, hf, hk, B⟩, XX, T, hh, hdp, hu⟩ := X
  refine real_call hA hf hk B XX T hdp (by omega) S.F S.N fun x dx es n h' tk off lt F N g1 g2 => ?_
  refine back _ ((x, instObj 70 dx) :: (dx, dictOf es n) :: news) _ _ ⟨F, fun p hp => N p ?_, fun p hp q hq => ?_⟩ (fun p hp => .tail _ (.tail _ hp)) (.real (.head _) (.tail _ (.head _)) g1 g2)
  · rcases List.mem_append.mp hp with hp | hp
    · exact .tail _ (.tail _ (List.mem_append_left _ hp))
    · rcases List.mem_cons.mp hp with rfl | hp
      · exact .head _
      · rcases List.mem_cons.mp hp with rfl | hp
        · exact .tail _ (.head _)
        · exact .tail _ (.tail _ (List.mem_append_right _ hp))
  · have hq' := off q (List.mem_append_left _ hq)
    rcases List.mem_cons.mp hp with rfl | hp
    · exact Nat.ne_of_gt (Nat.lt_trans hq' lt)
    · rcases List.mem_cons.mp hp with rfl | hp
      · exact Nat.ne_of_gt hq'
      · exact S.ap p hp q hq
theorem phi0 : PhiOk (P0 w loose mean mg mb) 4 (φ0 opsR) := by
  intro f vs k r h
  unfold φ0 ext at h
  split at h
  · rename_i q
    rw [eq_of_beq q]
    dsimp only at h
    split at h
    · exact ⟨_, 70, h, real_ns w, real_keep w, real_ok _ _⟩
    · cases h
  · cases h
theorem phi_ext {n : Nat} {φ : Phi} {nm : Str} {ps : List Str} {G : List V → Kon → Option V} (AT : FnAt (Mine.hk.heap_1 w.params) nm ps) (chk : fnChk (fdef nm).1 ps = true)
    (H : ∀ vs k r, G vs k = some r → ∃ d, k d = some r ∧ ps.length = vs.length ∧ runF opsR φ nm ps vs = some d) (PH : PhiOk (P0 w loose mean mg mb) n φ) : PhiOk (P0 w loose mean mg mb) (n + 1) (ext nm G φ) := by
  intro f vs k r h
  unfold ext at h
  split at h
  · rename_i q
    rw [eq_of_beq q]
    obtain ⟨d, hk, hl, hr⟩ := H _ _ _ h
    obtain ⟨a, oc, od, osl, name, qual, params, body, scope, dV, kV, doc, pm, an, cdv, ct, h1, h2, h3, h4, rfl, rfl, h7⟩ := AT
    exact ⟨d, a, hk, h1, h2, fn_ok (P := P0 w loose mean mg mb) (c := cfg opsR φ) (k := 40) prmOk (conOk φ none) PH rfl h3 h4 chk hl h7 hr⟩
  · exact (PH.mono (Nat.le_succ n)) f vs k r h
theorem len2 {us : List Value} (h : us.length = 2) : ∃ a b, us = [a, b] := by
  match us, h with
  | [a, b], _ => exact ⟨a, b, rfl⟩
theorem len3 {us : List Value} (h : us.length = 3) : ∃ a b c, us = [a, b, c] := by
  match us, h with
  | [a, b, c], _ => exact ⟨a, b, c, rfl⟩
theorem len4 {us : List Value} (h : us.length = 4) : ∃ a b c d, us = [a, b, c, d] := by
  match us, h with
  | [a, b, c, d], _ => exact ⟨a, b, c, d, rfl⟩
theorem at_size_of_ (w : World) : FnAt (Mine.hk.heap_1 w.params) "size_of" ["number"] := by
  refine' fnAt_of ?h1 ?h2 ?h3 ?h4 ?h5 ?h6 ?h7
  case h1 => k_is
  case h2 => k_is
  case h3 => k_is
  case h4 => k_is
  case h5 => kernel_rfl
  case h6 => kernel_rfl
  case h7 =>
    intro us h
    obtain ⟨a, rfl⟩ := len1 h
    rfl
theorem H_size_of : ∀ vs k r, G_size_of opsR vs k = some r → ∃ d, k d = some r ∧ (["number"] : List Str).length = vs.length ∧ runF opsR (φ0 opsR) "size_of" ["number"] vs = some d := by
  intro vs k r h
  unfold G_size_of at h
  split at h
  · obtain ⟨_, e, h⟩ := callI_inv h
    exact ⟨_, h, rfl, (R_size_of ..).trans e⟩
  · cases h
theorem phi1 : PhiOk (P0 w loose mean mg mb) 5 (φ1 opsR) := phi_ext (at_size_of_ w) (by decide +kernel) H_size_of phi0
theorem at_sign_of_whole_ (w : World) : FnAt (Mine.hk.heap_1 w.params) "sign_of_whole" ["number"] := by
  refine' fnAt_of ?h1 ?h2 ?h3 ?h4 ?h5 ?h6 ?h7
  case h1 => k_is
  case h2 => k_is
  case h3 => k_is
  case h4 => k_is
  case h5 => kernel_rfl
  case h6 => kernel_rfl
  case h7 =>
    intro us h
    obtain ⟨a, rfl⟩ := len1 h
    rfl
theorem H_sign_of_whole : ∀ vs k r, G_sign_of_whole opsR vs k = some r → ∃ d, k d = some r ∧ (["number"] : List Str).length = vs.length ∧ runF opsR (φ1 opsR) "sign_of_whole" ["number"] vs = some d := by
  intro vs k r h
  unfold G_sign_of_whole at h
  split at h
  · obtain ⟨_, e, h⟩ := callI_inv h
    exact ⟨_, h, rfl, (R_sign_of_whole ..).trans e⟩
  · cases h
theorem phi2 : PhiOk (P0 w loose mean mg mb) 6 (φ2 opsR) := phi_ext (at_sign_of_whole_ w) (by decide +kernel) H_sign_of_whole phi1
theorem at_zeros_below_ (w : World) : FnAt (Mine.hk.heap_1 w.params) "zeros_below" ["number"] := by
  refine' fnAt_of ?h1 ?h2 ?h3 ?h4 ?h5 ?h6 ?h7
  case h1 => k_is
  case h2 => k_is
  case h3 => k_is
  case h4 => k_is
  case h5 => kernel_rfl
  case h6 => kernel_rfl
  case h7 =>
    intro us h
    obtain ⟨a, rfl⟩ := len1 h
    rfl
theorem H_zeros_below : ∀ vs k r, G_zeros_below opsR vs k = some r → ∃ d, k d = some r ∧ (["number"] : List Str).length = vs.length ∧ runF opsR (φ2 opsR) "zeros_below" ["number"] vs = some d := by
  intro vs k r h
  unfold G_zeros_below at h
  split at h
  · obtain ⟨_, e, h⟩ := callI_inv h
    exact ⟨_, h, rfl, (R_zeros_below ..).trans e⟩
  · cases h
theorem phi3 : PhiOk (P0 w loose mean mg mb) 7 (φ3 opsR) := phi_ext (at_zeros_below_ w) (by decide +kernel) H_zeros_below phi2
theorem at_lean_ (w : World) : FnAt (Mine.hk.heap_1 w.params) "lean" ["mantissa", "exponent"] := by
  refine' fnAt_of ?h1 ?h2 ?h3 ?h4 ?h5 ?h6 ?h7
  case h1 => k_is
  case h2 => k_is
  case h3 => k_is
  case h4 => k_is
  case h5 => kernel_rfl
  case h6 => kernel_rfl
  case h7 =>
    intro us h
    obtain ⟨a, b, rfl⟩ := len2 h
    rfl
theorem H_lean : ∀ vs k r, G_lean opsR vs k = some r → ∃ d, k d = some r ∧ (["mantissa", "exponent"] : List Str).length = vs.length ∧ runF opsR (φ3 opsR) "lean" ["mantissa", "exponent"] vs = some d := by
  intro vs k r h
  unfold G_lean at h
  split at h
  · obtain ⟨_, _, e, h⟩ := callR_inv h
    exact ⟨_, h, rfl, (R_lean ..).trans e⟩
  · cases h
theorem phi4 : PhiOk (P0 w loose mean mg mb) 8 (φ4 opsR) := phi_ext (at_lean_ w) (by decide +kernel) H_lean phi3
theorem at_nearest_shift_ (w : World) : FnAt (Mine.hk.heap_1 w.params) "nearest_shift" ["number", "gone"] := by
  refine' fnAt_of ?h1 ?h2 ?h3 ?h4 ?h5 ?h6 ?h7
  case h1 => k_is
  case h2 => k_is
  case h3 => k_is
  case h4 => k_is
  case h5 => kernel_rfl
  case h6 => kernel_rfl
  case h7 =>
    intro us h
    obtain ⟨a, b, rfl⟩ := len2 h
    rfl
theorem H_nearest_shift : ∀ vs k r, G_nearest_shift opsR vs k = some r → ∃ d, k d = some r ∧ (["number", "gone"] : List Str).length = vs.length ∧ runF opsR (φ4 opsR) "nearest_shift" ["number", "gone"] vs = some d := by
  intro vs k r h
  unfold G_nearest_shift at h
  split at h
  · obtain ⟨_, e, h⟩ := callI_inv h
    exact ⟨_, h, rfl, (R_nearest_shift ..).trans e⟩
  · cases h
theorem phi5 : PhiOk (P0 w loose mean mg mb) 9 (φ5 opsR) := phi_ext (at_nearest_shift_ w) (by decide +kernel) H_nearest_shift phi4
theorem at_shifted_round_ (w : World) : FnAt (Mine.hk.heap_1 w.params) "shifted_round" ["precision", "mantissa", "exponent"] := by
  refine' fnAt_of ?h1 ?h2 ?h3 ?h4 ?h5 ?h6 ?h7
  case h1 => k_is
  case h2 => k_is
  case h3 => k_is
  case h4 => k_is
  case h5 => kernel_rfl
  case h6 => kernel_rfl
  case h7 =>
    intro us h
    obtain ⟨a, b, c, rfl⟩ := len3 h
    rfl
theorem H_shifted_round : ∀ vs k r, G_shifted_round opsR vs k = some r → ∃ d, k d = some r ∧ (["precision", "mantissa", "exponent"] : List Str).length = vs.length ∧ runF opsR (φ5 opsR) "shifted_round" ["precision", "mantissa", "exponent"] vs = some d := by
  intro vs k r h
  unfold G_shifted_round at h
  split at h
  · obtain ⟨_, _, e, h⟩ := callR_inv h
    exact ⟨_, h, rfl, (R_shifted_round ..).trans e⟩
  · cases h
theorem phi6 : PhiOk (P0 w loose mean mg mb) 10 (φ6 opsR) := phi_ext (at_shifted_round_ w) (by decide +kernel) H_shifted_round phi5
theorem at_with_sticky_ (w : World) : FnAt (Mine.hk.heap_1 w.params) "with_sticky" ["number", "is_more"] := by
  refine' fnAt_of ?h1 ?h2 ?h3 ?h4 ?h5 ?h6 ?h7
  case h1 => k_is
  case h2 => k_is
  case h3 => k_is
  case h4 => k_is
  case h5 => kernel_rfl
  case h6 => kernel_rfl
  case h7 =>
    intro us h
    obtain ⟨a, b, rfl⟩ := len2 h
    rfl
theorem H_with_sticky : ∀ vs k r, G_with_sticky opsR vs k = some r → ∃ d, k d = some r ∧ (["number", "is_more"] : List Str).length = vs.length ∧ runF opsR (φ6 opsR) "with_sticky" ["number", "is_more"] vs = some d := by
  intro vs k r h
  unfold G_with_sticky at h
  split at h
  · obtain ⟨_, e, h⟩ := callI_inv h
    exact ⟨_, h, rfl, (R_with_sticky ..).trans e⟩
  · cases h
theorem phi7 : PhiOk (P0 w loose mean mg mb) 11 (φ7 opsR) := phi_ext (at_with_sticky_ w) (by decide +kernel) H_with_sticky phi6
theorem at_rounded_ (w : World) : FnAt (Mine.hk.heap_1 w.params) "rounded" ["precision", "top", "bottom"] := by
  refine' fnAt_of ?h1 ?h2 ?h3 ?h4 ?h5 ?h6 ?h7
  case h1 => k_is
  case h2 => k_is
  case h3 => k_is
  case h4 => k_is
  case h5 => kernel_rfl
  case h6 => kernel_rfl
  case h7 =>
    intro us h
    obtain ⟨a, b, c, rfl⟩ := len3 h
    rfl
theorem H_rounded : ∀ vs k r, G_rounded opsR vs k = some r → ∃ d, k d = some r ∧ (["precision", "top", "bottom"] : List Str).length = vs.length ∧ runF opsR (φ7 opsR) "rounded" ["precision", "top", "bottom"] vs = some d := by
  intro vs k r h
  unfold G_rounded at h
  split at h
  · obtain ⟨_, _, e, h⟩ := callR_inv h
    exact ⟨_, h, rfl, (R_rounded ..).trans e⟩
  · cases h
theorem phi8 : PhiOk (P0 w loose mean mg mb) 12 (φ8 opsR) := phi_ext (at_rounded_ w) (by decide +kernel) H_rounded phi7
theorem at_place_of_ (w : World) : FnAt (Mine.hk.heap_1 w.params) "place_of" ["real"] := by
  refine' fnAt_of ?h1 ?h2 ?h3 ?h4 ?h5 ?h6 ?h7
  case h1 => k_is
  case h2 => k_is
  case h3 => k_is
  case h4 => k_is
  case h5 => kernel_rfl
  case h6 => kernel_rfl
  case h7 =>
    intro us h
    obtain ⟨a, rfl⟩ := len1 h
    rfl
theorem H_place_of : ∀ vs k r, G_place_of opsR vs k = some r → ∃ d, k d = some r ∧ (["real"] : List Str).length = vs.length ∧ runF opsR (φ8 opsR) "place_of" ["real"] vs = some d := by
  intro vs k r h
  unfold G_place_of at h
  split at h
  · obtain ⟨_, e, h⟩ := callI_inv h
    exact ⟨_, h, rfl, (R_place_of ..).trans e⟩
  · cases h
theorem phi9 : PhiOk (P0 w loose mean mg mb) 13 (φ9 opsR) := phi_ext (at_place_of_ w) (by decide +kernel) H_place_of phi8
theorem at_sign_of_ (w : World) : FnAt (Mine.hk.heap_1 w.params) "sign_of" ["real"] := by
  refine' fnAt_of ?h1 ?h2 ?h3 ?h4 ?h5 ?h6 ?h7
  case h1 => k_is
  case h2 => k_is
  case h3 => k_is
  case h4 => k_is
  case h5 => kernel_rfl
  case h6 => kernel_rfl
  case h7 =>
    intro us h
    obtain ⟨a, rfl⟩ := len1 h
    rfl
theorem H_sign_of : ∀ vs k r, G_sign_of opsR vs k = some r → ∃ d, k d = some r ∧ (["real"] : List Str).length = vs.length ∧ runF opsR (φ9 opsR) "sign_of" ["real"] vs = some d := by
  intro vs k r h
  unfold G_sign_of at h
  split at h
  · obtain ⟨_, e, h⟩ := callI_inv h
    exact ⟨_, h, rfl, (R_sign_of ..).trans e⟩
  · cases h
theorem phi10 : PhiOk (P0 w loose mean mg mb) 14 (φ10 opsR) := phi_ext (at_sign_of_ w) (by decide +kernel) H_sign_of phi9
theorem at_same_real_ (w : World) : FnAt (Mine.hk.heap_1 w.params) "same_real" ["one", "other"] := by
  refine' fnAt_of ?h1 ?h2 ?h3 ?h4 ?h5 ?h6 ?h7
  case h1 => k_is
  case h2 => k_is
  case h3 => k_is
  case h4 => k_is
  case h5 => kernel_rfl
  case h6 => kernel_rfl
  case h7 =>
    intro us h
    obtain ⟨a, b, rfl⟩ := len2 h
    rfl
theorem H_same_real : ∀ vs k r, G_same_real opsR vs k = some r → ∃ d, k d = some r ∧ (["one", "other"] : List Str).length = vs.length ∧ runF opsR (φ10 opsR) "same_real" ["one", "other"] vs = some d := by
  intro vs k r h
  unfold G_same_real at h
  split at h
  · obtain ⟨_, e, h⟩ := callB_inv h
    exact ⟨_, h, rfl, (R_same_real ..).trans e⟩
  · cases h
theorem phi11 : PhiOk (P0 w loose mean mg mb) 15 (φ11 opsR) := phi_ext (at_same_real_ w) (by decide +kernel) H_same_real phi10
theorem at_up_shift_ (w : World) : FnAt (Mine.hk.heap_1 w.params) "up_shift" ["number", "places"] := by
  refine' fnAt_of ?h1 ?h2 ?h3 ?h4 ?h5 ?h6 ?h7
  case h1 => k_is
  case h2 => k_is
  case h3 => k_is
  case h4 => k_is
  case h5 => kernel_rfl
  case h6 => kernel_rfl
  case h7 =>
    intro us h
    obtain ⟨a, b, rfl⟩ := len2 h
    rfl
theorem H_up_shift : ∀ vs k r, G_up_shift opsR vs k = some r → ∃ d, k d = some r ∧ (["number", "places"] : List Str).length = vs.length ∧ runF opsR (φ11 opsR) "up_shift" ["number", "places"] vs = some d := by
  intro vs k r h
  unfold G_up_shift at h
  split at h
  · obtain ⟨_, e, h⟩ := callI_inv h
    exact ⟨_, h, rfl, (R_up_shift ..).trans e⟩
  · cases h
theorem phi12 : PhiOk (P0 w loose mean mg mb) 16 (φ12 opsR) := phi_ext (at_up_shift_ w) (by decide +kernel) H_up_shift phi11
theorem at_up_over_ (w : World) : FnAt (Mine.hk.heap_1 w.params) "up_over" ["number", "bottom"] := by
  refine' fnAt_of ?h1 ?h2 ?h3 ?h4 ?h5 ?h6 ?h7
  case h1 => k_is
  case h2 => k_is
  case h3 => k_is
  case h4 => k_is
  case h5 => kernel_rfl
  case h6 => kernel_rfl
  case h7 =>
    intro us h
    obtain ⟨a, b, rfl⟩ := len2 h
    rfl
theorem H_up_over : ∀ vs k r, G_up_over opsR vs k = some r → ∃ d, k d = some r ∧ (["number", "bottom"] : List Str).length = vs.length ∧ runF opsR (φ12 opsR) "up_over" ["number", "bottom"] vs = some d := by
  intro vs k r h
  unfold G_up_over at h
  split at h
  · obtain ⟨_, e, h⟩ := callI_inv h
    exact ⟨_, h, rfl, (R_up_over ..).trans e⟩
  · cases h
theorem phi13 : PhiOk (P0 w loose mean mg mb) 17 (φ13 opsR) := phi_ext (at_up_over_ w) (by decide +kernel) H_up_over phi12
theorem at_fraction_bounds_ (w : World) : FnAt (Mine.hk.heap_1 w.params) "fraction_bounds" ["work", "top", "bottom"] := by
  refine' fnAt_of ?h1 ?h2 ?h3 ?h4 ?h5 ?h6 ?h7
  case h1 => k_is
  case h2 => k_is
  case h3 => k_is
  case h4 => k_is
  case h5 => kernel_rfl
  case h6 => kernel_rfl
  case h7 =>
    intro us h
    obtain ⟨a, b, c, rfl⟩ := len3 h
    rfl
theorem H_fraction_bounds : ∀ vs k r, G_fraction_bounds opsR vs k = some r → ∃ d, k d = some r ∧ (["work", "top", "bottom"] : List Str).length = vs.length ∧ runF opsR (φ13 opsR) "fraction_bounds" ["work", "top", "bottom"] vs = some d := by
  intro vs k r h
  unfold G_fraction_bounds at h
  split at h
  · obtain ⟨_, _, e, h⟩ := callP_inv h
    exact ⟨_, h, rfl, (R_fraction_bounds ..).trans e⟩
  · cases h
theorem phi14 : PhiOk (P0 w loose mean mg mb) 18 (φ14 opsR) := phi_ext (at_fraction_bounds_ w) (by decide +kernel) H_fraction_bounds phi13
theorem at_more_of_ (w : World) : FnAt (Mine.hk.heap_1 w.params) "more_of" ["one", "other"] := by
  refine' fnAt_of ?h1 ?h2 ?h3 ?h4 ?h5 ?h6 ?h7
  case h1 => k_is
  case h2 => k_is
  case h3 => k_is
  case h4 => k_is
  case h5 => kernel_rfl
  case h6 => kernel_rfl
  case h7 =>
    intro us h
    obtain ⟨a, b, rfl⟩ := len2 h
    rfl
theorem H_more_of : ∀ vs k r, G_more_of opsR vs k = some r → ∃ d, k d = some r ∧ (["one", "other"] : List Str).length = vs.length ∧ runF opsR (φ14 opsR) "more_of" ["one", "other"] vs = some d := by
  intro vs k r h
  unfold G_more_of at h
  split at h
  · obtain ⟨_, _, e, h⟩ := callP_inv h
    exact ⟨_, h, rfl, (R_more_of ..).trans e⟩
  · cases h
theorem phi15 : PhiOk (P0 w loose mean mg mb) 19 (φ15 opsR) := phi_ext (at_more_of_ w) (by decide +kernel) H_more_of phi14
theorem at_less_of_ (w : World) : FnAt (Mine.hk.heap_1 w.params) "less_of" ["one", "other"] := by
  refine' fnAt_of ?h1 ?h2 ?h3 ?h4 ?h5 ?h6 ?h7
  case h1 => k_is
  case h2 => k_is
  case h3 => k_is
  case h4 => k_is
  case h5 => kernel_rfl
  case h6 => kernel_rfl
  case h7 =>
    intro us h
    obtain ⟨a, b, rfl⟩ := len2 h
    rfl
theorem H_less_of : ∀ vs k r, G_less_of opsR vs k = some r → ∃ d, k d = some r ∧ (["one", "other"] : List Str).length = vs.length ∧ runF opsR (φ15 opsR) "less_of" ["one", "other"] vs = some d := by
  intro vs k r h
  unfold G_less_of at h
  split at h
  · obtain ⟨_, _, e, h⟩ := callP_inv h
    exact ⟨_, h, rfl, (R_less_of ..).trans e⟩
  · cases h
theorem phi16 : PhiOk (P0 w loose mean mg mb) 20 (φ16 opsR) := phi_ext (at_less_of_ w) (by decide +kernel) H_less_of phi15
theorem at_contrary_of_ (w : World) : FnAt (Mine.hk.heap_1 w.params) "contrary_of" ["one"] := by
  refine' fnAt_of ?h1 ?h2 ?h3 ?h4 ?h5 ?h6 ?h7
  case h1 => k_is
  case h2 => k_is
  case h3 => k_is
  case h4 => k_is
  case h5 => kernel_rfl
  case h6 => kernel_rfl
  case h7 =>
    intro us h
    obtain ⟨a, rfl⟩ := len1 h
    rfl
theorem H_contrary_of : ∀ vs k r, G_contrary_of opsR vs k = some r → ∃ d, k d = some r ∧ (["one"] : List Str).length = vs.length ∧ runF opsR (φ16 opsR) "contrary_of" ["one"] vs = some d := by
  intro vs k r h
  unfold G_contrary_of at h
  split at h
  · obtain ⟨_, _, e, h⟩ := callP_inv h
    exact ⟨_, h, rfl, (R_contrary_of ..).trans e⟩
  · cases h
theorem phi17 : PhiOk (P0 w loose mean mg mb) 21 (φ17 opsR) := phi_ext (at_contrary_of_ w) (by decide +kernel) H_contrary_of phi16
theorem at_often_ (w : World) : FnAt (Mine.hk.heap_1 w.params) "often" ["one", "times"] := by
  refine' fnAt_of ?h1 ?h2 ?h3 ?h4 ?h5 ?h6 ?h7
  case h1 => k_is
  case h2 => k_is
  case h3 => k_is
  case h4 => k_is
  case h5 => kernel_rfl
  case h6 => kernel_rfl
  case h7 =>
    intro us h
    obtain ⟨a, b, rfl⟩ := len2 h
    rfl
theorem H_often : ∀ vs k r, G_often opsR vs k = some r → ∃ d, k d = some r ∧ (["one", "times"] : List Str).length = vs.length ∧ runF opsR (φ17 opsR) "often" ["one", "times"] vs = some d := by
  intro vs k r h
  unfold G_often at h
  split at h
  · obtain ⟨_, _, e, h⟩ := callP_inv h
    exact ⟨_, h, rfl, (R_often ..).trans e⟩
  · cases h
theorem phi18 : PhiOk (P0 w loose mean mg mb) 22 (φ18 opsR) := phi_ext (at_often_ w) (by decide +kernel) H_often phi17
theorem at_product_of_ (w : World) : FnAt (Mine.hk.heap_1 w.params) "product_of" ["work", "one", "other"] := by
  refine' fnAt_of ?h1 ?h2 ?h3 ?h4 ?h5 ?h6 ?h7
  case h1 => k_is
  case h2 => k_is
  case h3 => k_is
  case h4 => k_is
  case h5 => kernel_rfl
  case h6 => kernel_rfl
  case h7 =>
    intro us h
    obtain ⟨a, b, c, rfl⟩ := len3 h
    rfl
theorem H_product_of : ∀ vs k r, G_product_of opsR vs k = some r → ∃ d, k d = some r ∧ (["work", "one", "other"] : List Str).length = vs.length ∧ runF opsR (φ18 opsR) "product_of" ["work", "one", "other"] vs = some d := by
  intro vs k r h
  unfold G_product_of at h
  split at h
  · obtain ⟨_, _, e, h⟩ := callP_inv h
    exact ⟨_, h, rfl, (R_product_of ..).trans e⟩
  · cases h
theorem phi19 : PhiOk (P0 w loose mean mg mb) 23 (φ19 opsR) := phi_ext (at_product_of_ w) (by decide +kernel) H_product_of phi18
theorem at_part_of_ (w : World) : FnAt (Mine.hk.heap_1 w.params) "part_of" ["one", "bottom"] := by
  refine' fnAt_of ?h1 ?h2 ?h3 ?h4 ?h5 ?h6 ?h7
  case h1 => k_is
  case h2 => k_is
  case h3 => k_is
  case h4 => k_is
  case h5 => kernel_rfl
  case h6 => kernel_rfl
  case h7 =>
    intro us h
    obtain ⟨a, b, rfl⟩ := len2 h
    rfl
theorem H_part_of : ∀ vs k r, G_part_of opsR vs k = some r → ∃ d, k d = some r ∧ (["one", "bottom"] : List Str).length = vs.length ∧ runF opsR (φ19 opsR) "part_of" ["one", "bottom"] vs = some d := by
  intro vs k r h
  unfold G_part_of at h
  split at h
  · obtain ⟨_, _, e, h⟩ := callP_inv h
    exact ⟨_, h, rfl, (R_part_of ..).trans e⟩
  · cases h
theorem phi20 : PhiOk (P0 w loose mean mg mb) 24 (φ20 opsR) := phi_ext (at_part_of_ w) (by decide +kernel) H_part_of phi19
theorem at_quotient_of_ (w : World) : FnAt (Mine.hk.heap_1 w.params) "quotient_of" ["work", "one", "other"] := by
  refine' fnAt_of ?h1 ?h2 ?h3 ?h4 ?h5 ?h6 ?h7
  case h1 => k_is
  case h2 => k_is
  case h3 => k_is
  case h4 => k_is
  case h5 => kernel_rfl
  case h6 => kernel_rfl
  case h7 =>
    intro us h
    obtain ⟨a, b, c, rfl⟩ := len3 h
    rfl
theorem H_quotient_of : ∀ vs k r, G_quotient_of opsR vs k = some r → ∃ d, k d = some r ∧ (["work", "one", "other"] : List Str).length = vs.length ∧ runF opsR (φ20 opsR) "quotient_of" ["work", "one", "other"] vs = some d := by
  intro vs k r h
  unfold G_quotient_of at h
  split at h
  · obtain ⟨_, _, e, h⟩ := callP_inv h
    exact ⟨_, h, rfl, (R_quotient_of ..).trans e⟩
  · cases h
theorem phi21 : PhiOk (P0 w loose mean mg mb) 25 (φ21 opsR) := phi_ext (at_quotient_of_ w) (by decide +kernel) H_quotient_of phi20
theorem at_widened_ (w : World) : FnAt (Mine.hk.heap_1 w.params) "widened" ["one", "by"] := by
  refine' fnAt_of ?h1 ?h2 ?h3 ?h4 ?h5 ?h6 ?h7
  case h1 => k_is
  case h2 => k_is
  case h3 => k_is
  case h4 => k_is
  case h5 => kernel_rfl
  case h6 => kernel_rfl
  case h7 =>
    intro us h
    obtain ⟨a, b, rfl⟩ := len2 h
    rfl
theorem H_widened : ∀ vs k r, G_widened opsR vs k = some r → ∃ d, k d = some r ∧ (["one", "by"] : List Str).length = vs.length ∧ runF opsR (φ21 opsR) "widened" ["one", "by"] vs = some d := by
  intro vs k r h
  unfold G_widened at h
  split at h
  · obtain ⟨_, _, e, h⟩ := callP_inv h
    exact ⟨_, h, rfl, (R_widened ..).trans e⟩
  · cases h
theorem phi22 : PhiOk (P0 w loose mean mg mb) 26 (φ22 opsR) := phi_ext (at_widened_ w) (by decide +kernel) H_widened phi21
theorem at_greatest_of_ (w : World) : FnAt (Mine.hk.heap_1 w.params) "greatest_of" ["one"] := by
  refine' fnAt_of ?h1 ?h2 ?h3 ?h4 ?h5 ?h6 ?h7
  case h1 => k_is
  case h2 => k_is
  case h3 => k_is
  case h4 => k_is
  case h5 => kernel_rfl
  case h6 => kernel_rfl
  case h7 =>
    intro us h
    obtain ⟨a, rfl⟩ := len1 h
    rfl
theorem H_greatest_of : ∀ vs k r, G_greatest_of opsR vs k = some r → ∃ d, k d = some r ∧ (["one"] : List Str).length = vs.length ∧ runF opsR (φ22 opsR) "greatest_of" ["one"] vs = some d := by
  intro vs k r h
  unfold G_greatest_of at h
  split at h
  · obtain ⟨_, e, h⟩ := callI_inv h
    exact ⟨_, h, rfl, (R_greatest_of ..).trans e⟩
  · cases h
theorem phi23 : PhiOk (P0 w loose mean mg mb) 27 (φ23 opsR) := phi_ext (at_greatest_of_ w) (by decide +kernel) H_greatest_of phi22
theorem at_fraction_of_ (w : World) : FnAt (Mine.hk.heap_1 w.params) "fraction_of" ["real"] := by
  refine' fnAt_of ?h1 ?h2 ?h3 ?h4 ?h5 ?h6 ?h7
  case h1 => k_is
  case h2 => k_is
  case h3 => k_is
  case h4 => k_is
  case h5 => kernel_rfl
  case h6 => kernel_rfl
  case h7 =>
    intro us h
    obtain ⟨a, rfl⟩ := len1 h
    rfl
theorem H_fraction_of : ∀ vs k r, G_fraction_of opsR vs k = some r → ∃ d, k d = some r ∧ (["real"] : List Str).length = vs.length ∧ runF opsR (φ23 opsR) "fraction_of" ["real"] vs = some d := by
  intro vs k r h
  unfold G_fraction_of at h
  split at h
  · obtain ⟨_, _, e, h⟩ := callP_inv h
    exact ⟨_, h, rfl, (R_fraction_of ..).trans e⟩
  · cases h
theorem phi24 : PhiOk (P0 w loose mean mg mb) 28 (φ24 opsR) := phi_ext (at_fraction_of_ w) (by decide +kernel) H_fraction_of phi23
theorem at_inverse_series_ (w : World) : FnAt (Mine.hk.heap_1 w.params) "inverse_series" ["work", "number", "sign"] := by
  refine' fnAt_of ?h1 ?h2 ?h3 ?h4 ?h5 ?h6 ?h7
  case h1 => k_is
  case h2 => k_is
  case h3 => k_is
  case h4 => k_is
  case h5 => kernel_rfl
  case h6 => kernel_rfl
  case h7 =>
    intro us h
    obtain ⟨a, b, c, rfl⟩ := len3 h
    rfl
theorem H_inverse_series : ∀ vs k r, G_inverse_series opsR vs k = some r → ∃ d, k d = some r ∧ (["work", "number", "sign"] : List Str).length = vs.length ∧ runF opsR (φ24 opsR) "inverse_series" ["work", "number", "sign"] vs = some d := by
  intro vs k r h
  unfold G_inverse_series at h
  split at h
  · obtain ⟨_, _, e, h⟩ := callP_inv h
    exact ⟨_, h, rfl, (R_inverse_series ..).trans e⟩
  · cases h
theorem phi25 : PhiOk (P0 w loose mean mg mb) 29 (φ25 opsR) := phi_ext (at_inverse_series_ w) (by decide +kernel) H_inverse_series phi24
theorem at_half_turn_ (w : World) : FnAt (Mine.hk.heap_1 w.params) "half_turn" ["work"] := by
  refine' fnAt_of ?h1 ?h2 ?h3 ?h4 ?h5 ?h6 ?h7
  case h1 => k_is
  case h2 => k_is
  case h3 => k_is
  case h4 => k_is
  case h5 => kernel_rfl
  case h6 => kernel_rfl
  case h7 =>
    intro us h
    obtain ⟨a, rfl⟩ := len1 h
    rfl
theorem H_half_turn : ∀ vs k r, G_half_turn opsR vs k = some r → ∃ d, k d = some r ∧ (["work"] : List Str).length = vs.length ∧ runF opsR (φ25 opsR) "half_turn" ["work"] vs = some d := by
  intro vs k r h
  unfold G_half_turn at h
  split at h
  · obtain ⟨_, _, e, h⟩ := callP_inv h
    exact ⟨_, h, rfl, (R_half_turn ..).trans e⟩
  · cases h
theorem phi26 : PhiOk (P0 w loose mean mg mb) 30 (φ26 opsR) := phi_ext (at_half_turn_ w) (by decide +kernel) H_half_turn phi25
theorem at_wave_series_ (w : World) : FnAt (Mine.hk.heap_1 w.params) "wave_series" ["work", "rest", "first", "count"] := by
  refine' fnAt_of ?h1 ?h2 ?h3 ?h4 ?h5 ?h6 ?h7
  case h1 => k_is
  case h2 => k_is
  case h3 => k_is
  case h4 => k_is
  case h5 => kernel_rfl
  case h6 => kernel_rfl
  case h7 =>
    intro us h
    obtain ⟨a, b, c, d, rfl⟩ := len4 h
    rfl
theorem H_wave_series : ∀ vs k r, G_wave_series opsR vs k = some r → ∃ d, k d = some r ∧ (["work", "rest", "first", "count"] : List Str).length = vs.length ∧ runF opsR (φ26 opsR) "wave_series" ["work", "rest", "first", "count"] vs = some d := by
  intro vs k r h
  unfold G_wave_series at h
  split at h
  · obtain ⟨_, _, e, h⟩ := callP_inv h
    exact ⟨_, h, rfl, (R_wave_series ..).trans e⟩
  · cases h
theorem phi27 : PhiOk (P0 w loose mean mg mb) 31 (φ27 opsR) := phi_ext (at_wave_series_ w) (by decide +kernel) H_wave_series phi26
theorem at_quarter_turns_ (w : World) : FnAt (Mine.hk.heap_1 w.params) "quarter_turns" ["work", "real"] := by
  refine' fnAt_of ?h1 ?h2 ?h3 ?h4 ?h5 ?h6 ?h7
  case h1 => k_is
  case h2 => k_is
  case h3 => k_is
  case h4 => k_is
  case h5 => kernel_rfl
  case h6 => kernel_rfl
  case h7 =>
    intro us h
    obtain ⟨a, b, rfl⟩ := len2 h
    rfl
theorem H_quarter_turns : ∀ vs k r, G_quarter_turns opsR vs k = some r → ∃ d, k d = some r ∧ (["work", "real"] : List Str).length = vs.length ∧ runF opsR (φ27 opsR) "quarter_turns" ["work", "real"] vs = some d := by
  intro vs k r h
  unfold G_quarter_turns at h
  split at h
  · obtain ⟨_, _, _, e, h⟩ := callQ_inv h
    exact ⟨_, h, rfl, (R_quarter_turns ..).trans e⟩
  · cases h
theorem phi28 : PhiOk (P0 w loose mean mg mb) 32 (φ28 opsR) := phi_ext (at_quarter_turns_ w) (by decide +kernel) H_quarter_turns phi27
theorem at_wave_bounds_ (w : World) : FnAt (Mine.hk.heap_1 w.params) "wave_bounds" ["work", "rest", "turns"] := by
  refine' fnAt_of ?h1 ?h2 ?h3 ?h4 ?h5 ?h6 ?h7
  case h1 => k_is
  case h2 => k_is
  case h3 => k_is
  case h4 => k_is
  case h5 => kernel_rfl
  case h6 => kernel_rfl
  case h7 =>
    intro us h
    obtain ⟨a, b, c, rfl⟩ := len3 h
    rfl
theorem H_wave_bounds : ∀ vs k r, G_wave_bounds opsR vs k = some r → ∃ d, k d = some r ∧ (["work", "rest", "turns"] : List Str).length = vs.length ∧ runF opsR (φ28 opsR) "wave_bounds" ["work", "rest", "turns"] vs = some d := by
  intro vs k r h
  unfold G_wave_bounds at h
  split at h
  · obtain ⟨_, _, e, h⟩ := callP_inv h
    exact ⟨_, h, rfl, (R_wave_bounds ..).trans e⟩
  · cases h
theorem phi29 : PhiOk (P0 w loose mean mg mb) 33 (φ29 opsR) := phi_ext (at_wave_bounds_ w) (by decide +kernel) H_wave_bounds phi28
theorem at_need_turns_ (w : World) : FnAt (Mine.hk.heap_1 w.params) "need_turns" ["name", "real"] := by
  refine' fnAt_of ?h1 ?h2 ?h3 ?h4 ?h5 ?h6 ?h7
  case h1 => k_is
  case h2 => k_is
  case h3 => k_is
  case h4 => k_is
  case h5 => kernel_rfl
  case h6 => kernel_rfl
  case h7 =>
    intro us h
    obtain ⟨a, b, rfl⟩ := len2 h
    rfl
theorem H_need_turns : ∀ vs k r, G_need_turns opsR vs k = some r → ∃ d, k d = some r ∧ (["name", "real"] : List Str).length = vs.length ∧ runF opsR (φ29 opsR) "need_turns" ["name", "real"] vs = some d := by
  intro vs k r h
  unfold G_need_turns at h
  split at h
  · obtain ⟨e, h⟩ := callN_inv h
    exact ⟨_, h, rfl, (R_need_turns ..).trans e⟩
  · cases h
theorem phi30 : PhiOk (P0 w loose mean mg mb) 34 (φ30 opsR) := phi_ext (at_need_turns_ w) (by decide +kernel) H_need_turns phi29
theorem at_is_slight_ (w : World) : FnAt (Mine.hk.heap_1 w.params) "is_slight" ["precision", "real"] := by
  refine' fnAt_of ?h1 ?h2 ?h3 ?h4 ?h5 ?h6 ?h7
  case h1 => k_is
  case h2 => k_is
  case h3 => k_is
  case h4 => k_is
  case h5 => kernel_rfl
  case h6 => kernel_rfl
  case h7 =>
    intro us h
    obtain ⟨a, b, rfl⟩ := len2 h
    rfl
theorem H_is_slight : ∀ vs k r, G_is_slight opsR vs k = some r → ∃ d, k d = some r ∧ (["precision", "real"] : List Str).length = vs.length ∧ runF opsR (φ30 opsR) "is_slight" ["precision", "real"] vs = some d := by
  intro vs k r h
  unfold G_is_slight at h
  split at h
  · obtain ⟨_, e, h⟩ := callB_inv h
    exact ⟨_, h, rfl, (R_is_slight ..).trans e⟩
  · cases h
theorem phi31 : PhiOk (P0 w loose mean mg mb) 35 (φ31 opsR) := phi_ext (at_is_slight_ w) (by decide +kernel) H_is_slight phi30
theorem at_angle_work_ (w : World) : FnAt (Mine.hk.heap_1 w.params) "angle_work" ["precision", "real"] := by
  refine' fnAt_of ?h1 ?h2 ?h3 ?h4 ?h5 ?h6 ?h7
  case h1 => k_is
  case h2 => k_is
  case h3 => k_is
  case h4 => k_is
  case h5 => kernel_rfl
  case h6 => kernel_rfl
  case h7 =>
    intro us h
    obtain ⟨a, b, rfl⟩ := len2 h
    rfl
theorem H_angle_work : ∀ vs k r, G_angle_work opsR vs k = some r → ∃ d, k d = some r ∧ (["precision", "real"] : List Str).length = vs.length ∧ runF opsR (φ31 opsR) "angle_work" ["precision", "real"] vs = some d := by
  intro vs k r h
  unfold G_angle_work at h
  split at h
  · obtain ⟨_, e, h⟩ := callI_inv h
    exact ⟨_, h, rfl, (R_angle_work ..).trans e⟩
  · cases h
theorem phi32 : PhiOk (P0 w loose mean mg mb) 36 (φ32 opsR) := phi_ext (at_angle_work_ w) (by decide +kernel) H_angle_work phi31
theorem at_tan_bounds_ (w : World) : FnAt (Mine.hk.heap_1 w.params) "tan_bounds" ["work", "real"] := by
  refine' fnAt_of ?h1 ?h2 ?h3 ?h4 ?h5 ?h6 ?h7
  case h1 => k_is
  case h2 => k_is
  case h3 => k_is
  case h4 => k_is
  case h5 => kernel_rfl
  case h6 => kernel_rfl
  case h7 =>
    intro us h
    obtain ⟨a, b, rfl⟩ := len2 h
    rfl
theorem H_tan_bounds : ∀ vs k r, G_tan_bounds opsR vs k = some r → ∃ d, k d = some r ∧ (["work", "real"] : List Str).length = vs.length ∧ runF opsR (φ32 opsR) "tan_bounds" ["work", "real"] vs = some d := by
  intro vs k r h
  unfold G_tan_bounds at h
  split at h
  · rcases callO_inv h with ⟨e, h⟩ | ⟨_, _, e, h⟩
    · exact ⟨_, h, rfl, (R_tan_bounds ..).trans e⟩
    · exact ⟨_, h, rfl, (R_tan_bounds ..).trans e⟩
  · cases h
theorem phi33 : PhiOk (P0 w loose mean mg mb) 37 (φ33 opsR) := phi_ext (at_tan_bounds_ w) (by decide +kernel) H_tan_bounds phi32
theorem at_law_odd_ (w : World) : FnAt (Mine.hk.heap_1 w.params) "_law_odd" ["mantissa", "exponent"] := by
  refine' fnAt_of ?h1 ?h2 ?h3 ?h4 ?h5 ?h6 ?h7
  case h1 => k_is
  case h2 => k_is
  case h3 => k_is
  case h4 => k_is
  case h5 => kernel_rfl
  case h6 => kernel_rfl
  case h7 =>
    intro us h
    obtain ⟨a, b, rfl⟩ := len2 h
    rfl
theorem H_law_odd : ∀ vs k r, G_law_odd opsR vs k = some r → ∃ d, k d = some r ∧ (["mantissa", "exponent"] : List Str).length = vs.length ∧ runF opsR (φ33 opsR) "_law_odd" ["mantissa", "exponent"] vs = some d := by
  intro vs k r h
  unfold G_law_odd at h
  split at h
  · obtain ⟨_, _, e, h⟩ := callP_inv h
    exact ⟨_, h, rfl, (R_law_odd ..).trans e⟩
  · cases h
theorem phi34 : PhiOk (P0 w loose mean mg mb) 38 (φ34 opsR) := phi_ext (at_law_odd_ w) (by decide +kernel) H_law_odd phi33
theorem at_law_pair_ (w : World) : FnAt (Mine.hk.heap_1 w.params) "_law_pair" ["bits", "code"] := by
  refine' fnAt_of ?h1 ?h2 ?h3 ?h4 ?h5 ?h6 ?h7
  case h1 => k_is
  case h2 => k_is
  case h3 => k_is
  case h4 => k_is
  case h5 => kernel_rfl
  case h6 => kernel_rfl
  case h7 =>
    intro us h
    obtain ⟨a, b, rfl⟩ := len2 h
    rfl
theorem H_law_pair : ∀ vs k r, G_law_pair opsR vs k = some r → ∃ d, k d = some r ∧ (["bits", "code"] : List Str).length = vs.length ∧ runF opsR (φ34 opsR) "_law_pair" ["bits", "code"] vs = some d := by
  intro vs k r h
  unfold G_law_pair at h
  split at h
  · obtain ⟨_, _, e, h⟩ := callP_inv h
    exact ⟨_, h, rfl, (R_law_pair ..).trans e⟩
  · cases h
theorem phi35 : PhiOk (P0 w loose mean mg mb) 39 (φ35 opsR) := phi_ext (at_law_pair_ w) (by decide +kernel) H_law_pair phi34
theorem at_law_fraction_ (w : World) : FnAt (Mine.hk.heap_1 w.params) "_law_fraction" ["mantissa", "exponent"] := by
  refine' fnAt_of ?h1 ?h2 ?h3 ?h4 ?h5 ?h6 ?h7
  case h1 => k_is
  case h2 => k_is
  case h3 => k_is
  case h4 => k_is
  case h5 => kernel_rfl
  case h6 => kernel_rfl
  case h7 =>
    intro us h
    obtain ⟨a, b, rfl⟩ := len2 h
    rfl
theorem H_law_fraction : ∀ vs k r, G_law_fraction opsR vs k = some r → ∃ d, k d = some r ∧ (["mantissa", "exponent"] : List Str).length = vs.length ∧ runF opsR (φ35 opsR) "_law_fraction" ["mantissa", "exponent"] vs = some d := by
  intro vs k r h
  unfold G_law_fraction at h
  split at h
  · obtain ⟨_, _, e, h⟩ := callP_inv h
    exact ⟨_, h, rfl, (R_law_fraction ..).trans e⟩
  · cases h
theorem phi36 : PhiOk (P0 w loose mean mg mb) 40 (φ36 opsR) := phi_ext (at_law_fraction_ w) (by decide +kernel) H_law_fraction phi35
theorem at_law_middles_ (w : World) : FnAt (Mine.hk.heap_1 w.params) "_law_middles" ["bits", "real"] := by
  refine' fnAt_of ?h1 ?h2 ?h3 ?h4 ?h5 ?h6 ?h7
  case h1 => k_is
  case h2 => k_is
  case h3 => k_is
  case h4 => k_is
  case h5 => kernel_rfl
  case h6 => kernel_rfl
  case h7 =>
    intro us h
    obtain ⟨a, b, rfl⟩ := len2 h
    rfl
theorem H_law_middles : ∀ vs k r, G_law_middles opsR vs k = some r → ∃ d, k d = some r ∧ (["bits", "real"] : List Str).length = vs.length ∧ runF opsR (φ36 opsR) "_law_middles" ["bits", "real"] vs = some d := by
  intro vs k r h
  unfold G_law_middles at h
  split at h
  · rcases callM_inv h with ⟨e, h⟩ | ⟨_, _, _, _, e, h⟩
    · exact ⟨_, h, rfl, (R_law_middles ..).trans e⟩
    · exact ⟨_, h, rfl, (R_law_middles ..).trans e⟩
  · cases h
theorem phi37 : PhiOk (P0 w loose mean mg mb) 41 (φ37 opsR) := phi_ext (at_law_middles_ w) (by decide +kernel) H_law_middles phi36
theorem at_law_waves_ (w : World) : FnAt (Mine.hk.heap_1 w.params) "_law_waves" ["top", "bottom", "pairs"] := by
  refine' fnAt_of ?h1 ?h2 ?h3 ?h4 ?h5 ?h6 ?h7
  case h1 => k_is
  case h2 => k_is
  case h3 => k_is
  case h4 => k_is
  case h5 => kernel_rfl
  case h6 => kernel_rfl
  case h7 =>
    intro us h
    obtain ⟨a, b, c, rfl⟩ := len3 h
    rfl
theorem H_law_waves : ∀ vs k r, G_law_waves opsR vs k = some r → ∃ d, k d = some r ∧ (["top", "bottom", "pairs"] : List Str).length = vs.length ∧ runF opsR (φ37 opsR) "_law_waves" ["top", "bottom", "pairs"] vs = some d := by
  intro vs k r h
  unfold G_law_waves at h
  split at h
  · obtain ⟨_, _, _, _, e, h⟩ := callW_inv h
    exact ⟨_, h, rfl, (R_law_waves ..).trans e⟩
  · cases h
theorem phi38 : PhiOk (P0 w loose mean mg mb) 42 (φ38 opsR) := phi_ext (at_law_waves_ w) (by decide +kernel) H_law_waves phi37
theorem at_law_side_ (w : World) : FnAt (Mine.hk.heap_1 w.params) "_law_side" ["given", "one", "other"] := by
  refine' fnAt_of ?h1 ?h2 ?h3 ?h4 ?h5 ?h6 ?h7
  case h1 => k_is
  case h2 => k_is
  case h3 => k_is
  case h4 => k_is
  case h5 => kernel_rfl
  case h6 => kernel_rfl
  case h7 =>
    intro us h
    obtain ⟨a, b, c, rfl⟩ := len3 h
    rfl
theorem H_law_side : ∀ vs k r, G_law_side opsR vs k = some r → ∃ d, k d = some r ∧ (["given", "one", "other"] : List Str).length = vs.length ∧ runF opsR (φ38 opsR) "_law_side" ["given", "one", "other"] vs = some d := by
  intro vs k r h
  unfold G_law_side at h
  split at h
  · obtain ⟨_, e, h⟩ := callI_inv h
    exact ⟨_, h, rfl, (R_law_side ..).trans e⟩
  · cases h
theorem phi39 : PhiOk (P0 w loose mean mg mb) 43 (φ39 opsR) := phi_ext (at_law_side_ w) (by decide +kernel) H_law_side phi38
theorem at_law_least_side_ (w : World) : FnAt (Mine.hk.heap_1 w.params) "_law_least_side" ["given", "mark", "is_cosine"] := by
  refine' fnAt_of ?h1 ?h2 ?h3 ?h4 ?h5 ?h6 ?h7
  case h1 => k_is
  case h2 => k_is
  case h3 => k_is
  case h4 => k_is
  case h5 => kernel_rfl
  case h6 => kernel_rfl
  case h7 =>
    intro us h
    obtain ⟨a, b, c, rfl⟩ := len3 h
    rfl
theorem H_law_least_side : ∀ vs k r, G_law_least_side opsR vs k = some r → ∃ d, k d = some r ∧ (["given", "mark", "is_cosine"] : List Str).length = vs.length ∧ runF opsR (φ39 opsR) "_law_least_side" ["given", "mark", "is_cosine"] vs = some d := by
  intro vs k r h
  unfold G_law_least_side at h
  split at h
  · obtain ⟨_, e, h⟩ := callI_inv h
    exact ⟨_, h, rfl, (R_law_least_side ..).trans e⟩
  · cases h
theorem phi40 : PhiOk (P0 w loose mean mg mb) 44 (φ40 opsR) := phi_ext (at_law_least_side_ w) (by decide +kernel) H_law_least_side phi39
theorem at_law_is_wave_right_ (w : World) : FnAt (Mine.hk.heap_1 w.params) "_law_is_wave_right" ["bits", "given", "found", "is_cosine"] := by
  refine' fnAt_of ?h1 ?h2 ?h3 ?h4 ?h5 ?h6 ?h7
  case h1 => k_is
  case h2 => k_is
  case h3 => k_is
  case h4 => k_is
  case h5 => kernel_rfl
  case h6 => kernel_rfl
  case h7 =>
    intro us h
    obtain ⟨a, b, c, d, rfl⟩ := len4 h
    rfl
theorem H_law_is_wave_right : ∀ vs k r, G_law_is_wave_right opsR vs k = some r → ∃ d, k d = some r ∧ (["bits", "given", "found", "is_cosine"] : List Str).length = vs.length ∧ runF opsR (φ40 opsR) "_law_is_wave_right" ["bits", "given", "found", "is_cosine"] vs = some d := by
  intro vs k r h
  unfold G_law_is_wave_right at h
  split at h
  · obtain ⟨_, e, h⟩ := callB_inv h
    exact ⟨_, h, rfl, (R_law_is_wave_right ..).trans e⟩
  · cases h
theorem phi41 : PhiOk (P0 w loose mean mg mb) 45 (φ41 opsR) := phi_ext (at_law_is_wave_right_ w) (by decide +kernel) H_law_is_wave_right phi40
theorem at_law_is_tangent_right_ (w : World) : FnAt (Mine.hk.heap_1 w.params) "_law_is_tangent_right" ["bits", "given", "found"] := by
  refine' fnAt_of ?h1 ?h2 ?h3 ?h4 ?h5 ?h6 ?h7
  case h1 => k_is
  case h2 => k_is
  case h3 => k_is
  case h4 => k_is
  case h5 => kernel_rfl
  case h6 => kernel_rfl
  case h7 =>
    intro us h
    obtain ⟨a, b, c, rfl⟩ := len3 h
    rfl
theorem H_law_is_tangent_right : ∀ vs k r, G_law_is_tangent_right opsR vs k = some r → ∃ d, k d = some r ∧ (["bits", "given", "found"] : List Str).length = vs.length ∧ runF opsR (φ41 opsR) "_law_is_tangent_right" ["bits", "given", "found"] vs = some d := by
  intro vs k r h
  unfold G_law_is_tangent_right at h
  split at h
  · obtain ⟨_, e, h⟩ := callB_inv h
    exact ⟨_, h, rfl, (R_law_is_tangent_right ..).trans e⟩
  · cases h
theorem phi42 : PhiOk (P0 w loose mean mg mb) 46 (φ42 opsR) := phi_ext (at_law_is_tangent_right_ w) (by decide +kernel) H_law_is_tangent_right phi41
end Mine

end
-- part K4
section
open PySem PySem.W PySem.Calls PyProof.Rows
set_option Elab.async false
set_option maxRecDepth 100000
set_option maxHeartbeats 8000000
set_option linter.unusedVariables false
namespace Mine
variable {w : World} {loose : List Str} {mean : ExcName → Option Value} {mg mb : Str → Option Value}
theorem fill4 (w : World) : Mine.hk.heap_1 w.params = Mine.hk.heap_1 w.params ∧ PySem.Challenge.rw_nt0171_01.Holds = PySem.Challenge.rw_nt0171_01.Holds := by
  k_fill
  exact ⟨rfl, rfl⟩
theorem at_decided_ (w : World) : FnAt (Mine.hk.heap_1 w.params) "decided" ["precision", "work", "bounds_at"] := by
  refine' fnAt_of ?h1 ?h2 ?h3 ?h4 ?h5 ?h6 ?h7
  case h1 => k_is
  case h2 => k_is
  case h3 => k_is
  case h4 => k_is
  case h5 => kernel_rfl
  case h6 => kernel_rfl
  case h7 =>
    intro us h
    obtain ⟨a, b, c, rfl⟩ := len3 h
    rfl
noncomputable def DecOk (P : Prm) (n : Nat) (a : Addr) (W : Led) (p wk : Int) (d : V) : Prop := ∃ ad, nsIn P.K mainGlobals "decided" = some (some (.ref ad)) ∧ keepIn P.K (.ref ad) = true ∧ CallOkW P n ad W [.int p, .int wk, .fn a] d
theorem decided_ok {n : Nat} (PH : PhiOk (P0 w loose mean mg mb) n (φ33 opsR)) {B : Int → Option V} {a : Addr} {W : Led} {oa : Obj} (hoa : (a, oa) ∈ W) (hfd : ∃ fd, oa.data = .func fd)
    (hB : ∀ wk d, B wk = some d → CallOkW (P0 w loose mean mg mb) n a W [.int wk] d) {p wk : Int} {d : V} (h : F_decided opsR B p wk = some d) : DecOk (P0 w loose mean mg mb) (n + 1) a W p wk d := by
  obtain ⟨ad, oc, od, osl, name, qual, params, body, scope, dV, kV, doc, pm, an, cdv, ct, h1, h2, h3, h4, rfl, rfl, h7⟩ := at_decided_ w
  refine ⟨ad, h1, h2, fun A h₀ L m hid news s vs Q X S sW rv back => ?_⟩
  have rv' := rv
  cases rv; rename_i r1 rv; cases rv; rename_i r2 rv; cases rv; rename_i r3 rv; cases rv; cases r3
  refine entry_ok (P := P0 w loose mean mg mb) h3 h4 (by decide +kernel : fnChk (fdef "decided").1 ["precision", "work", "bounds_at"] = true) rfl h7 X S rv' back fun c' _ env g L' m' hid' s' Q' A' he G X' S' nm _ hm hr hn => ?_
  obtain ⟨o', ho', E⟩ := (run_ok (P := P0 w loose mean mg mb) prmOk (conOk (φ33 opsR) (some ("bounds_at", gOf B))) PH 40).ex _ _ _ _ _ _ (R_decided opsR B p wk a h)
  refine E env A' g L' m' hid' news s' Q' G X' S' nm (fun x g e => ?_) ?_
  · cases e
    refine ⟨a, oa, hm "bounds_at" _ rfl (by decide +kernel), G.l, sW _ hoa, hfd, W, sW, fun vs d hd => ?_⟩
    unfold gOf at hd
    split at hd
    · exact hB _ _ hd
    · cases hd
  · cases o' with
    | ret d' => cases ho'; exact fun v m2 hid2 news2 h2 tk2 S2 sub kp r2 => hr v m2 hid2 news2 h2 tk2 S2 sub kp r2
    | next ρ => cases ho'; exact fun m2 hid2 news2 h2 tk2 S2 sub kp _ _ => hn rfl m2 hid2 news2 h2 tk2 S2 sub kp
end Mine

end
-- part K5
section
open PySem PySem.W PySem.Calls PyProof.Rows
set_option Elab.async false
set_option maxRecDepth 100000
set_option maxHeartbeats 8000000
set_option linter.unusedVariables false
namespace Mine
variable {w : World} {loose : List Str} {mean : ExcName → Option Value} {mg mb : Str → Option Value}

noncomputable def dropA (cc : Addr) (l : Led) : Led := l.filter fun p => !(p.1 == cc)
theorem mem_dropA {cc : Addr} {l : Led} {p : Addr × Obj} : p ∈ dropA cc l ↔ p ∈ l ∧ p.1 ≠ cc := by
  unfold dropA
  rw [List.mem_filter]
  simp
/-- what a made function needs on the ledger: its cell, and the value in it -/
structure CloLed (P : Prm) (W R : Led) (f c' cc : Addr) (fo : Obj) (qual : Str) (m e : Int) : Prop where
  hf : (f, fo) ∈ W
  hc : ∃ oc vs t, (c', oc) ∈ W ∧ oc.data = .fields vs ∧ vs[1]? = some (.str qual t)
  hcell : ∃ oc v, (cc, oc) ∈ W ∧ oc.data = .cell (some v) ∧ Rep P.C R v (.real m e)
  hR : Sub R W
  off : ∀ p ∈ R, p.1 ≠ cc

theorem lookup_memN {x : Str} {k : NameKind} : ∀ {l : List (Str × NameKind)}, l.lookup x = some k → (x, k) ∈ l
  | [], h => by cases h
  | (y, a) :: r, h => by
    rw [List.lookup_cons] at h
    split at h
    · rename_i q; cases h; rw [eq_of_beq q]; exact .head _
    · exact List.mem_cons_of_mem _ (lookup_memN h)
theorem cells_nil {sc : Scope} (h : sc.names.all (fun x => x.2 != .cell) = true) : ∀ x, sc.names.lookup x ≠ some .cell := fun x hx => by
  have := List.all_eq_true.mp h _ (lookup_memN hx)
  simp at this
theorem cells_nil' {sc : Scope} (h : sc.names.all (fun x => x.2 != .cell) = true) : ∀ x ∈ sc.names, x.2 ≠ .cell := fun x hx => by
  have := List.all_eq_true.mp h _ hx
  simpa using this

section
variable {n : Nat} {A : Around} {h₀ : Heap} {L : Addr} {m₀ : Str → Option Value} {hid news : Led} {s : Shared} {sc : Scope} {f c' cc : Addr} {qual : Str} {m e wk : Int} {P : Prm} {W R : Led} {fo : Obj} {t : Tok}

/-- the frame of a made function, as the evaluator wants it -/
theorem clo_frame {g h₁ : Heap} {L' : Addr} {oc : Obj} {v : Value} (hl : (cc, oc) ∈ W) (hd : oc.data = .cell (some v)) (rv : Rep P.C R v (.real m e)) (hR : Sub R W) (off : ∀ p ∈ R, p.1 ≠ cc) (sW : Sub W news)
    (hk : sc.kind = .function) (hcs : sc.names.all (fun x => x.2 != .cell) = true) (hw : sc.names.lookup ("work" : Str) = some .local) (hr : sc.names.lookup ("real" : Str) = some .free) (S0 : ∀ p ∈ news, ∀ q ∈ hid, p.1 ≠ q.1)
    (F' : Fr g L' h₁ (fun y => ([(("work" : Str), Value.int wk t)] : List (Str × Value)).reverse.lookup y)) (N' : News g L' h₁ (hid ++ news))
    {ρ : Rho} (hρ : ∀ x d, look ρ x = some d → (x = "work" ∧ d = .int wk) ∨ (x = "real" ∧ d = .real m e)) :
    St g L' h₁ (fun y => ([(("work" : Str), Value.int wk t)] : List (Str × Value)).reverse.lookup y) ((cc, oc) :: hid) (dropA cc news) ∧ SEnv (envX qual sc L' f (.ref c') [("real", cc)]) L' sc ∧
    NmS P.C (envX qual sc L' f (.ref c') [("real", cc)]) L' (fun y => ([(("work" : Str), Value.int wk t)] : List (Str × Value)).reverse.lookup y) ((cc, oc) :: hid) (dropA cc news) ρ := by
  have one : ∀ x c2, ([(("real" : Str), cc)] : List (Str × Addr)).lookup x = some c2 → x = "real" ∧ c2 = cc := fun x c2 h => by
    rw [List.lookup_cons] at h
    split at h
    · rename_i q; cases h; exact ⟨eq_of_beq q, rfl⟩
    · cases h
  refine ⟨⟨F', fun p hp => N' p ?_, fun p hp q hq => ?_⟩, ⟨⟨rfl, hk, rfl, rfl⟩, rfl, fun x hx => absurd hx (cells_nil hcs x), fun x y c2 h1 h2 => (one x c2 h1).1.trans (one y c2 h2).1.symm⟩, ⟨fun x d hx => ?_, fun x c2 hx => ?_⟩⟩
  · rcases List.mem_append.mp hp with hp | hp
    · rcases List.mem_cons.mp hp with rfl | hp
      · exact List.mem_append_right _ (sW _ hl)
      · exact List.mem_append_left _ hp
    · exact List.mem_append_right _ (mem_dropA.mp hp).1
  · have hp' := mem_dropA.mp hp
    rcases List.mem_cons.mp hq with rfl | hq
    · exact hp'.2
    · exact S0 p hp'.1 q hq
  · rcases hρ x d hx with ⟨rfl, rfl⟩ | ⟨rfl, rfl⟩
    · exact ⟨_, .inl ⟨hw, rfl, rfl⟩, .int wk t⟩
    · exact ⟨v, .inr (.inl ⟨cc, oc, .inr hr, rfl, .head _, hd⟩), rv.mono fun p hp => mem_dropA.mpr ⟨sW _ (hR _ hp), off p hp⟩⟩
  · obtain ⟨_, rfl⟩ := one x c2 hx
    exact ⟨oc, _, .head _, hd⟩

/-- its way back -/
theorem clo_back {g h2 : Heap} {L' : Addr} {m2 : Str → Option Value} {hid2 news2 : Led} {h' : Heap} {oc : Obj} (hl : (cc, oc) ∈ W) (sW : Sub W news) (hcs : sc.names.all (fun x => x.2 != .cell) = true)
    (S : St h₀ L h' m₀ hid news) (S2 : St g L' h2 m2 hid2 news2) (sub : Sub (dropA cc news) news2) (kp : Keep (envX qual sc L' f (.ref c') [("real", cc)]) ((cc, oc) :: hid) hid2)
    (F3 : Fr h₀ L h2 m₀) (N3 : News h₀ L h2 (hid2 ++ news2)) : St h₀ L h2 m₀ hid ((cc, oc) :: news2) ∧ Sub news ((cc, oc) :: news2) := by
  have kp' : ∀ p ∈ (cc, oc) :: hid, p ∈ hid2 := fun p hp => kp p hp fun x hx => absurd hx (cells_nil hcs x)
  refine ⟨⟨F3, fun p hp => N3 p ?_, fun p hp q hq => ?_⟩, fun p hp => ?_⟩
  · rcases List.mem_append.mp hp with hp | hp
    · exact List.mem_append_left _ (kp' p (.tail _ hp))
    · rcases List.mem_cons.mp hp with rfl | hp
      · exact List.mem_append_left _ (kp' _ (.head _))
      · exact List.mem_append_right _ hp
  · rcases List.mem_cons.mp hp with rfl | hp
    · exact S.ap _ (sW _ hl) q hq
    · exact S2.ap p hp q (kp' q (.tail _ hq))
  · by_cases hc : p.1 = cc
    · have e1 := (S.N _ (List.mem_append_right _ hp)).1
      have e2 := (S.N _ (List.mem_append_right _ (sW _ hl))).1
      rw [hc] at e1
      rw [e1] at e2
      cases e2
      obtain ⟨p1, p2⟩ := p
      cases hc
      exact .head _
    · exact .tail _ (sub p (mem_dropA.mpr ⟨hp, hc⟩))
end

theorem clo_ok {n : Nat} (PH : PhiOk (P0 w loose mean mg mb) n (φ33 opsR)) {B : Int → Option V} {sc : Scope} {body : List Stmt} {name qual : Str} {params : Arguments} {doc pm ctv : Value} {f c' cc : Addr} {W R : Led} {m e : Int} {ρ : Int → Rho}
    (CL : CloLed (P0 w loose mean mg mb) W R f c' cc (fnMade name qual params body sc [("real", cc)] doc pm c' ctv) qual m e)
    (hk : sc.kind = .function) (hcs : sc.names.all (fun x => x.2 != .cell) = true) (hw : sc.names.lookup ("work" : Str) = some .local) (hr : sc.names.lookup ("real" : Str) = some .free) (hco : sc.isCoroutine = false) (hgen : sc.isGenerator = false)
    (hb : ∀ u : Value, bindArgs (fnX name qual params body sc [("real", cc)] .none .none doc pm none (.ref c') ctv) ⟨[u], []⟩ = pure [(("work" : Str), u)])
    (hρ : ∀ wk x d, look (ρ wk) x = some d → (x = "work" ∧ d = .int wk) ∨ (x = "real" ∧ d = .real m e))
    (hB : ∀ wk, (run (cfg opsR (φ33 opsR)) 40).ex sc (ρ wk) body (fun _ => some .none) some = B wk) :
    ∀ wk d, B wk = some d → CallOkW (P0 w loose mean mg mb) (n + 1) f W [.int wk] d := by
  intro wk d hd A h₀ L m₀ hid news s vs Q X S sW rv back
  cases rv; rename_i r1 rv; cases rv; cases r1
  rename_i t
  obtain ⟨hf, ⟨oc, cvs, ct, hoc, hocd, hocv⟩, ⟨oC, v, hC, hCd, hCr⟩, hR, off⟩ := CL
  obtain ⟨⟨env₀, outer, A₀, base, hA, hfr, hke, BB⟩, XX, T, hh, hdp, hu⟩ := X
  refine wpAny_call (code_nest (binds := [("work", .int wk t)]) BB S.F XX S.N T hA hfr hke (List.mem_append_right _ (sW _ hf)) (codeRec_news S.N (List.mem_append_right _ (sW _ hoc)) hocd hocv) (by omega)
    (BindsTo.of_eq (hb _)) (fun y hy => ?_) (fun g L' h₁ FG F' N' B' X' T' => ?_) hco hgen hk (cells_nil' hcs))
  · rcases List.mem_cons.mp hy with rfl | hy
    · exact hw
    · cases hy
  · obtain ⟨S', G', nm'⟩ := clo_frame (P := P0 w loose mean mg mb) (f := f) (c' := c') (qual := qual) hC hCd hCr hR off sW hk hcs hw hr S.ap F' N' (hρ wk)
    obtain ⟨o', ho', E⟩ := (run_ok (P := P0 w loose mean mg mb) prmOk (conOk (φ33 opsR) none) PH 40).ex _ _ _ _ _ _ ((hB wk).trans hd)
    have XC : Cx (P0 w loose mean mg mb) n (A.deeper (envX qual sc L' f (.ref c') [("real", cc)])) g L' :=
      ⟨⟨_, env₀ :: outer, A, base, by show A.frames.map _ = _; rw [hA]; rfl, rfl, hk, B'⟩, X', T', hh, by show A.depth + 1 + n < _; omega, by show A.units + 3 + 8 * n + 64 < _; omega⟩
    refine wpAny_mono (E _ _ g L' _ _ _ _ (fun fl s' => LeaveK h₀ L m₀ g _ (match fl with | .ret v => v | _ => .none) s') G' XC S' nm' (fun x g e => by cases e) ?_) (fun _ _ q => q) (fun _ _ q => q.elim)
    cases o' with
    | ret d' =>
      cases ho'
      intro v2 m2 hid2 news2 h2 tk2 S2 sub kp r2
      refine leaveK_ S2.F S2.N fun F3 N3 => ?_
      obtain ⟨S3, sub3⟩ := clo_back hC sW hcs S S2 sub kp F3 N3
      exact back v2 _ h2 tk2 S3 sub3 (r2.mono .cons)
    | next ρ' =>
      cases ho'
      intro m2 hid2 news2 h2 tk2 S2 sub kp _ _
      refine leaveK_ S2.F S2.N fun F3 N3 => ?_
      obtain ⟨S3, sub3⟩ := clo_back hC sW hcs S S2 sub kp F3 N3
      exact back .none _ h2 tk2 S3 sub3 .none

theorem lam_ok {n : Nat} (PH : PhiOk (P0 w loose mean mg mb) n (φ33 opsR)) {B : Int → Option V} {sc : Scope} {body : Expr} {name qual : Str} {params : Arguments} {pm ctv : Value} {f c' cc : Addr} {W R : Led} {m e : Int} {ρ : Int → Rho}
    (CL : CloLed (P0 w loose mean mg mb) W R f c' cc (kla_obj name qual params body sc [("real", cc)] pm c' ctv) qual m e)
    (hk : sc.kind = .function) (hcs : sc.names.all (fun x => x.2 != .cell) = true) (hw : sc.names.lookup ("work" : Str) = some .local) (hr : sc.names.lookup ("real" : Str) = some .free) (hco : sc.isCoroutine = false) (hgen : sc.isGenerator = false)
    (hb : ∀ u : Value, bindArgs (kla_fn name qual params body sc [("real", cc)] pm (.ref c') ctv) ⟨[u], []⟩ = pure [(("work" : Str), u)])
    (hρ : ∀ wk x d, look (ρ wk) x = some d → (x = "work" ∧ d = .int wk) ∨ (x = "real" ∧ d = .real m e))
    (hB : ∀ wk, (run (cfg opsR (φ33 opsR)) 40).ev sc (ρ wk) body some = B wk) :
    ∀ wk d, B wk = some d → CallOkW (P0 w loose mean mg mb) (n + 1) f W [.int wk] d := by
  intro wk d hd A h₀ L m₀ hid news s vs Q X S sW rv back
  cases rv; rename_i r1 rv; cases rv; cases r1
  rename_i t
  obtain ⟨hf, ⟨oc, cvs, ct, hoc, hocd, hocv⟩, ⟨oC, v, hC, hCd, hCr⟩, hR, off⟩ := CL
  obtain ⟨⟨env₀, outer, A₀, base, hA, hfr, hke, BB⟩, XX, T, hh, hdp, hu⟩ := X
  refine wpAny_call (kla_code (binds := [("work", .int wk t)]) BB S.F XX S.N T hA hfr hke (List.mem_append_right _ (sW _ hf)) (codeRec_news S.N (List.mem_append_right _ (sW _ hoc)) hocd hocv) (by omega)
    (hb _) (fun y hy => ?_) (fun g L' h₁ FG F' N' B' X' T' => ?_) hco hgen hk (cells_nil' hcs))
  · rcases List.mem_cons.mp hy with rfl | hy
    · exact hw
    · cases hy
  · obtain ⟨S', G', nm'⟩ := clo_frame (P := P0 w loose mean mg mb) (f := f) (c' := c') (qual := qual) hC hCd hCr hR off sW hk hcs hw hr S.ap F' N' (hρ wk)
    obtain ⟨d', ho', E⟩ := (run_ok (P := P0 w loose mean mg mb) prmOk (conOk (φ33 opsR) none) PH 40).ev _ _ _ _ _ ((hB wk).trans hd)
    cases ho'
    have XC : Cx (P0 w loose mean mg mb) n (A.deeper (envX qual sc L' f (.ref c') [("real", cc)])) g L' :=
      ⟨⟨_, env₀ :: outer, A, base, by show A.frames.map _ = _; rw [hA]; rfl, rfl, hk, B'⟩, X', T', hh, by show A.depth + 1 + n < _; omega, by show A.units + 3 + 8 * n + 64 < _; omega⟩
    refine wpAny_mono (E _ _ g L' _ _ _ _ (fun v s' => LeaveK h₀ L m₀ g _ v s') G'.toGEnv XC S' nm'.nm (fun x g e => by cases e) ?_) (fun _ _ q => q) (fun _ _ q => q.elim)
    intro v2 news2 h2 tk2 S2 sub r2
    refine leaveK_ S2.F S2.N fun F3 N3 => ?_
    obtain ⟨S3, sub3⟩ := clo_back (f := f) (c' := c') (qual := qual) hC sW hcs S S2 sub .rfl F3 N3
    exact back v2 _ h2 tk2 S3 sub3 (r2.mono .cons)
end Mine

end
-- part K6
section
open PySem PySem.W PySem.Calls PyProof.Rows
set_option Elab.async false
set_option maxRecDepth 100000
set_option maxHeartbeats 8000000
set_option linter.unusedVariables false
namespace Mine

/-- a code table that holds at most the one made function's code -/
noncomputable def TabSt (pos : Pos) (qual : Str) (ps : Array Value) (news : Led) : Prop :=
  ps = #[] ∨ ∃ c' oc vs t, ps = #[rawInt pos.line, rawInt pos.col, .ref c'] ∧ (c', oc) ∈ news ∧ oc.data = .fields vs ∧ vs[1]? = some (.str qual t)
theorem TabSt.mono {pos : Pos} {qual : Str} {ps : Array Value} {a b : Led} (h : Sub a b) : TabSt pos qual ps a → TabSt pos qual ps b
  | .inl e => .inl e
  | .inr ⟨c', oc, vs, t, e, h1, h2, h3⟩ => .inr ⟨c', oc, vs, t, e, h _ h1, h2, h3⟩
/-- a curve's promise: it may fill its code table -/
noncomputable def CvOk (P : Prm) (n : Nat) (a c TP : Addr) (pos : Pos) (qual : Str) (ds : List V) (d : V) : Prop :=
  ∀ (A : Around) (h₀ : Heap) (L : Addr) (m : Str → Option Value) (hid news : Led) (s : Shared) (vs : List Value) (ps : Array Value) (Q : Value → Shared → Prop),
    Cx P n A h₀ L → CodeHd h₀ c TP → St h₀ L s.heap m ((TP, tabObj ps) :: hid) news → (∀ q ∈ hid, q.1 ≠ TP) → TabSt pos qual ps news → Reps P.C news vs ds →
    (∀ v ps' news' h' tk', St h₀ L h' m ((TP, tabObj ps') :: hid) news' → Sub news news' → TabSt pos qual ps' news' → Rep P.C news' v d → Q v { s with heap := h', toks := tk' }) →
    wpAny (model P.prog P.w) A (call (.ref a) vs) Q (fun _ _ => False) s

theorem run_succ (c : Cfg) (k : Nat) : run c (k + 1) = step c (run c k) := rfl

theorem heads_ok {P : Prm} {n : Nat} {c : Cfg} (PO : PrmOk P) (PC : ConOk P c) (PH : PhiOk P n c.φ) {k : Nat} {sc : Scope} {ρ : Rho} {s0 s1 : Stmt} {kn : Rho → Option V} {kr : Kon} {res : V} (h : (run c (k + 3)).ex sc ρ [s0, s1] kn kr = some res)
    {rest : List Stmt} {env : Env} {A : Around} {h₀ : Heap} {L : Addr} {m : Str → Option Value} {hid news : Led} {s : Shared} {Q : Flow → Shared → Prop}
    (G : SEnv env L sc) (X : Cx P n A h₀ L) (S : St h₀ L s.heap m hid news) (nm : NmS P.C env L m hid news ρ) (cl : CloAt P n c.clo env L m news)
    (hret : ∀ d v m' hid' news' h' tk', kr d = some res → St h₀ L h' m' hid' news' → Sub news news' → Keep env hid hid' → Rep P.C news' v d → Q (.ret v) { s with heap := h', toks := tk' })
    (hnext : ∀ ρ' m' hid' news' h' tk', kn ρ' = some res → St h₀ L h' m' hid' news' → Sub news news' → Keep env hid hid' → NmS P.C env L m' hid' news' ρ' →
      wpAny (model P.prog P.w) A (execs rest env) Q (fun _ _ => False) { s with heap := h', toks := tk' }) :
    wpAny (model P.prog P.w) A (execs (s0 :: s1 :: rest) env) Q (fun _ _ => False) s := by
  have h1 : stepSt c (run c (k + 2)) sc ρ (fun ρ' => rEx (run c (k + 2)) sc ρ' [s1] kn kr) kr s0 = some res := h
  obtain ⟨o, ho, E⟩ := stepSt_ok PO (run_ok PO PC PH (k + 2)) h1
  refine wpAny_execs_cons (E env A h₀ L m hid news s _ G X S nm cl ?_)
  cases o with
  | ret d => exact fun v m' hid' news' h' tk' S' sub kp rv => hret d v m' hid' news' h' tk' ho S' sub kp rv
  | next ρ' =>
    intro m' hid' news' h' tk' S' sub kp nm' cl'
    have h2 : stepSt c (run c (k + 1)) sc ρ' (fun ρ'' => rEx (run c (k + 1)) sc ρ'' [] kn kr) kr s1 = some res := ho
    obtain ⟨o2, ho2, E2⟩ := stepSt_ok PO (run_ok PO PC PH (k + 1)) h2
    refine wpAny_execs_cons (E2 env A h₀ L m' hid' news' _ _ G X S' nm' cl' ?_)
    cases o2 with
    | ret d => exact fun v m'' hid'' news'' h'' tk'' S'' sub' kp' rv => hret d v m'' hid'' news'' h'' tk'' ho2 S'' (sub.trans sub') (kp.trans kp') rv
    | next ρ2 => exact fun m'' hid'' news'' h'' tk'' S'' sub' kp' nm'' cl'' => hnext ρ2 m'' hid'' news'' h'' tk'' ho2 S'' (sub.trans sub') (kp.trans kp') nm''

/-- the entry of a function that has a code table of its own -/
theorem entry_cv {P : Prm} {n : Nat} {A : Around} {h₀ : Heap} {L : Addr} {m : Str → Option Value} {hid news : Led} {s : Shared} {vs : List Value} {ds : List V} {Q : Value → Shared → Prop} {d : V} {TP : Addr} {tab : Array Value} {pos : Pos} {iq : Str}
    {name qual : Str} {params : Arguments} {body : List Stmt} {scope : Scope} {dV kV doc pm cdv ct oc : Value} {an od : Option Addr} {osl : Array (Option Value)} {a : Addr} {ps : List Str}
    (ho : P.K.lookup a = some ⟨oc, od, .func (fnOf name qual params body scope dV kV doc pm an cdv ct), osl⟩) (hcd : codeIn P.K cdv qual = true) (chk : fnChk scope ps = true) (hlen : ps.length = vs.length)
    (hb : ∀ us : List Value, us.length = ps.length → bindArgs (fnOf name qual params body scope dV kV doc pm an cdv ct) ⟨us, []⟩ = pure (ps.zip us))
    (X : Cx P (n + 1) A h₀ L) (S : St h₀ L s.heap m ((TP, tabObj tab) :: hid) news) (rv : Reps P.C news vs ds)
    (back : ∀ v ps' news' h' tk', St h₀ L h' m ((TP, tabObj ps') :: hid) news' → Sub news news' → TabSt pos iq ps' news' → Rep P.C news' v d → Q v { s with heap := h', toks := tk' })
    (h : ∀ (g : Heap) (L' : Addr) (m' : Str → Option Value) (cells : Led) (s' : Shared) (Q' : Flow → Shared → Prop) (A' : Around), SEnv (envOfC qual scope L' a cdv) L' scope → Cx P n A' g L' → (∀ b o, h₀.get? b = some o → g.get? b = some o) →
      St g L' s'.heap m' (cells ++ (TP, tabObj tab) :: hid) news → NmS P.C (envOfC qual scope L' a cdv) L' m' (cells ++ (TP, tabObj tab) :: hid) news (rho0 scope ps ds) →
      (∀ p ∈ (TP, tabObj tab) :: hid, ∀ x, (envOfC qual scope L' a cdv).cells.lookup x ≠ some p.1) →
      (∀ v m2 ps2 news2 h2 tk2, St g L' h2 m2 ((TP, tabObj ps2) :: hid) news2 → Sub news news2 → TabSt pos iq ps2 news2 → Rep P.C news2 v d → Q' (.ret v) { s' with heap := h2, toks := tk2 }) →
      wpAny (model P.prog P.w) A' (execs body (envOfC qual scope L' a cdv)) Q' (fun _ _ => False) s') :
    wpAny (model P.prog P.w) A (call (.ref a) vs) Q (fun _ _ => False) s := by
  obtain ⟨⟨env₀, outer, A₀, base, hA, hf, hke, B⟩, XX, T, hh, hd, hu⟩ := X
  unfold fnChk at chk
  simp only [Bool.and_eq_true, Bool.not_eq_true', beq_iff_eq] at chk
  obtain ⟨⟨⟨⟨⟨k1, k2⟩, k3⟩, k4⟩, k5⟩, k6⟩ := chk
  have k2' : ∀ x ∈ ps, scope.names.lookup x = some .local ∨ scope.names.lookup x = some .cell := fun x hx => by
    have := List.all_eq_true.mp k2 x hx
    simpa using this
  have hroom : A.depth < recursionLimit := by omega
  refine wpAny_call (code_defC B S.F XX S.N T hA hf hke ho hcd hroom (BindsTo.of_eq (hb vs hlen.symm)) ?_ (nodupS_spec k3) (fun g L' h₁ tk cells FG F' N' Y B' X' T' lt => ?_) k4 k5 k6)
  · rw [List.all_eq_true]
    intro y hy
    rcases k2' y.1 (zip_fst hy) with e | e <;> rw [e] <;> rfl
  · have hge : ∀ p ∈ cells, L' + 1 ≤ p.1 := fun p hp => by
      obtain ⟨q, hq, e⟩ := List.mem_map.mp (cellsAre_addr Y p hp)
      rw [← e]
      exact cellsFrom_ge (acc := []) (fun _ h => by cases h) (Nat.le_refl _) q hq
    have hid_off : ∀ p ∈ ((TP, tabObj tab) :: hid) ++ news, ∀ x, (envOfC qual scope L' a cdv).cells.lookup x ≠ some p.1 := fun p hp x e => by
      have h1 : @LT.lt Nat _ p.1 L' := lt p hp
      have h2 := cellsFrom_ge (lo := L' + 1) (acc := []) (fun _ h => by cases h) (Nat.le_refl _) _ (lookup_mem e)
      have h3 : @LE.le Nat _ (L' + 1) p.1 := h2
      omega
    refine wpAny_mono (h g L' _ cells _ (fun fl s' => LeaveK h₀ L m g _ (match fl with | .ret v => v | _ => .none) s') _ ⟨⟨rfl, k6, rfl, rfl⟩, rfl, fun x hx => ?_, fun x y cc hx hy => ?_⟩
      ⟨⟨envOfC qual scope L' a cdv, env₀ :: outer, A, base, ?_, rfl, k6, B'⟩, X', T', hh, ?_, ?_⟩ (fun b o e => FG.keep b o e) ⟨F', by rw [List.append_assoc]; exact N', fun p hp q hq => ?_⟩ ⟨fun x e he => ?_, fun x cc hc => ?_⟩
      (fun p hp => hid_off p (List.mem_append_left _ hp)) (fun v m2 ps2 news2 h2 tk2 S2 sub tb r2 => ?_)) (fun _ _ q => q) (fun _ _ q => q.elim)
    · have z := cellsFrom_some scope.names (L' + 1) [] (.inl hx)
      exact Option.isSome_iff_exists.mp z
    · exact snd_inj (cellsFrom_nodup (acc := []) .nil fun _ h => by cases h) (lookup_mem hx) (lookup_mem hy)
    · show A.frames.map _ = _
      rw [hA]; rfl
    · show A.depth + 1 + n < _
      omega
    · show A.units + 3 + 8 * n + 64 < _
      omega
    · rcases List.mem_append.mp hq with hq | hq
      · have h1 : @LT.lt Nat _ p.1 L' := lt p (List.mem_append_right _ hp)
        have h2 : @LE.le Nat _ (L' + 1) q.1 := hge q hq
        exact fun e => by rw [e] at h1; omega
      · exact S.ap p hp q hq
    · have e1 := rho0_look he
      obtain ⟨v, hv, r1⟩ := zip_rep rv e1
      have hx := zip_mem e1
      refine ⟨v, ?_, r1⟩
      rcases k2' x hx with hk | hk
      · exact .inl ⟨hk, rfl, bindL_at hk (nodupS_spec k1) hv⟩
      · obtain ⟨cc, hcc⟩ := Option.isSome_iff_exists.mp (cellsFrom_some scope.names (L' + 1) [] (.inl hk))
        obtain ⟨o, hm, hd⟩ := cellsAre_at Y hcc
        refine .inr (.inl ⟨cc, o, .inl hk, hcc, List.mem_append_left _ hm, ?_⟩)
        rw [hd, bindC_at hk (nodupS_spec k1) hv]
    · obtain ⟨o, hm, hd⟩ := cellsAre_at Y hc
      exact ⟨o, _, List.mem_append_left _ hm, hd⟩
    · exact leaveK_ S2.F S2.N fun F3 N3 => back v ps2 news2 h2 tk2 ⟨F3, N3, S2.ap⟩ sub tb r2
end Mine

end
-- part K7
section
open PySem PySem.W PySem.Calls PyProof.Rows
set_option Elab.async false
set_option maxRecDepth 100000
set_option maxHeartbeats 8000000
set_option linter.unusedVariables false
namespace Mine
variable {w : World} {loose : List Str} {mean : ExcName → Option Value} {mg mb : Str → Option Value}

noncomputable def kn_cv (o : Ops) (sc : Scope) (B : Int → Int → Int → Option V) (ep ew : Expr) (ρ : Rho) : Option V := match look ρ "bounds_at" with
  | some _ => none
  | none => match look ρ "real" with
    | some (.real m e) => rEv (run (cfg o (φ33 o)) 37) sc ρ ep fun v1 => rEv (run (cfg o (φ33 o)) 37) sc ρ ew fun v2 => match v1, v2 with
      | .int p, .int wk => callR (F_decided o (B m e) p wk) fun a b => some (.real a b)
      | _, _ => none
    | _ => none
theorem kn_cv_inv {P : Prm} {n : Nat} (R : RunOk P n (cfg opsR (φ33 opsR)) (run (cfg opsR (φ33 opsR)) 37)) {sc : Scope} {B : Int → Int → Int → Option V} {ep ew : Expr} {ρ : Rho} {d : V} (h : kn_cv opsR sc B ep ew ρ = some d) :
    look ρ "bounds_at" = none ∧ ∃ m e p wk a b, look ρ "real" = some (.real m e) ∧ d = .real a b ∧ F_decided opsR (B m e) p wk = some (.real a b) ∧
      EvOk P n (cfg opsR (φ33 opsR)) sc ρ ep (.int p) ∧ EvOk P n (cfg opsR (φ33 opsR)) sc ρ ew (.int wk) := by
  unfold kn_cv at h
  split at h
  · cases h
  · rename_i hb
    refine ⟨hb, ?_⟩
    split at h
    · rename_i m e hr
      obtain ⟨v1, hv1, E1⟩ := R.ev _ _ _ _ _ h
      obtain ⟨v2, hv2, E2⟩ := R.ev _ _ _ _ _ hv1
      split at hv2
      · obtain ⟨x, y, hdec, hfin⟩ := callR_inv hv2
        cases hfin
        exact ⟨m, e, _, _, x, y, hr, rfl, hdec, E1, E2⟩
      · cases hv2
    · cases h

section
variable {P : Prm} {n : Nat} {A : Around} {g : Heap} {L' : Addr} {m4 : Str → Option Value} {hid hid4 news4 : Led} {s : Shared} {Q : Value → Shared → Prop} {TP cc f ad : Addr} {oC : Obj} {ps : Array Value} {v1 v2 : Value} {p wk : Int} {d : V} {W : Led}
/-- the call of decided, with the cell laid among what stays -/
theorem cv_call (X : Cx P n A g L') (S4 : St g L' s.heap m4 hid4 news4) (hT : (TP, tabObj ps) ∈ hid4) (hH : ∀ q ∈ hid, q ∈ hid4) (hC : (cc, oC) ∈ hid4) (offc : ∀ q ∈ (TP, tabObj ps) :: hid, q.1 ≠ cc)
    (r1 : Rep P.C news4 v1 (.int p)) (r2 : Rep P.C news4 v2 (.int wk)) (C : CallOkW P n ad W [.int p, .int wk, .fn f] d) (sW : Sub W ((cc, oC) :: news4))
    (back : ∀ v news5 h5 tk5, St g L' h5 m4 ((TP, tabObj ps) :: hid) news5 → Sub news4 news5 → Rep P.C news5 v d → Q v { s with heap := h5, toks := tk5 }) :
    wpAny (model P.prog P.w) A (call (.ref ad) [v1, v2, .ref f]) Q (fun _ _ => False) s := by
  have hall : ∀ q ∈ (TP, tabObj ps) :: hid, q ∈ hid4 := fun q hq => by
    rcases List.mem_cons.mp hq with rfl | hq
    · exact hT
    · exact hH q hq
  refine C A g L' m4 ((TP, tabObj ps) :: hid) ((cc, oC) :: news4) s _ Q X ⟨S4.F, fun q hq => S4.N q ?_, fun q hq r hr => ?_⟩ sW (.cons (r1.mono .cons) (.cons (r2.mono .cons) (.cons (.fn f) .nil))) fun v news5 h5 tk5 S5 sub5 r5 => back v news5 h5 tk5 S5 (fun q hq => sub5 q (.tail _ hq)) r5
  · rcases List.mem_append.mp hq with hq | hq
    · exact List.mem_append_left _ (hall q hq)
    · rcases List.mem_cons.mp hq with rfl | hq
      · exact List.mem_append_left _ hC
      · exact List.mem_append_right _ hq
  · rcases List.mem_cons.mp hq with rfl | hq
    · exact (offc r hr).symm
    · exact S4.ap q hq r (hall r hr)
end

theorem curve_def {n : Nat} (PH : PhiOk (P0 w loose mean mg mb) n (φ33 opsR)) {c TP a : Addr} {B : Int → Int → Int → Option V} {F : Int → Int → Int → Option V} {oc : Value} {od : Option Addr} {osl : Array (Option Value)} {name qual : Str} {params : Arguments} {s0 s1 : Stmt}
    {ip : Arguments} {ib : List Stmt} {isc : Scope} {ipos q1 q2 q3 q4 : Pos} {ep ew : Expr} {sc : Scope} {dV kV doc pm ct : Value} {an : Option Addr} {iq : Str}
    (h3 : (Mine.hk.heap_1 w.params).lookup a = some ⟨oc, od, .func (fnOf name qual params [s0, s1, .FunctionDef "bounds_at" ip ib [] none [] isc none "bounds_at" ipos, .Return (some (.Call (.Name "decided" q1) [ep, ew, .Name "bounds_at" q2] [] q3)) q4] sc dV kV doc pm an (.ref c) ct), osl⟩)
    (h4 : codeIn (Mine.hk.heap_1 w.params) (.ref c) qual = true) (chk : fnChk sc ["precision", "real"] = true)
    (h7 : ∀ us : List Value, us.length = 2 → bindArgs (fnOf name qual params [s0, s1, .FunctionDef "bounds_at" ip ib [] none [] isc none "bounds_at" ipos, .Return (some (.Call (.Name "decided" q1) [ep, ew, .Name "bounds_at" q2] [] q3)) q4] sc dV kV doc pm an (.ref c) ct) ⟨us, []⟩ = pure ((["precision", "real"] : List Str).zip us))
    (hR : ∀ p m e, rEx (run (cfg opsR (φ33 opsR)) 40) sc (rho0 sc ["precision", "real"] [.int p, .real m e]) [s0, s1] (kn_cv opsR sc B ep ew) some = F p m e)
    (hcells : ∀ L', cellsFrom (L' + 1) sc.names [] = [(("real" : Str), L' + 1)]) (hkr : sc.names.lookup ("real" : Str) = some .cell) (hkb : sc.names.lookup ("bounds_at" : Str) = some .local) (hkd : sc.names.lookup ("decided" : Str) = some .globalImplicit)
    (hs1 : isStar ep = false) (hs2 : isStar ew = false)
    (ik : isc.kind = .function) (ics : isc.names.all (fun x => x.2 != .cell) = true) (iw : isc.names.lookup ("work" : Str) = some .local) (ir : isc.names.lookup ("real" : Str) = some .free) (ico : isc.isCoroutine = false) (igen : isc.isGenerator = false)
    (hcl : ∀ L', closureFor isc (envOfC qual sc L' a (.ref c)) = pure [(("real" : Str), L' + 1)]) (hq : ∀ L', qualnameIn (envOfC qual sc L' a (.ref c)) "bounds_at" "bounds_at" = iq)
    (hdef : ip.defaults = []) (hkdef : ip.kw_defaults = []) (hann : ∀ env, annTrees ip none env = [])
    (hbi : ∀ cc doc pm c' ctv (u : Value), bindArgs (fnX "bounds_at" iq ip ib isc [(("real" : Str), cc)] .none .none doc pm none (.ref c') ctv) ⟨[u], []⟩ = pure [(("work" : Str), u)])
    (hρ : ∀ m e wk x d, look (ρ_in isc m e wk) x = some d → (x = "work" ∧ d = .int wk) ∨ (x = "real" ∧ d = .real m e))
    (hB : ∀ m e wk, rEx (run (cfg opsR (φ33 opsR)) 40) isc (ρ_in isc m e wk) ib (fun _ => some .none) some = B m e wk) :
    ∀ p m e d, F p m e = some d → CvOk (P0 w loose mean mg mb) (n + 3) a c TP ipos iq [.int p, .real m e] d := by
  intro p m e d hF A h₀ L m₀ hid news s vs ps Q X C S offT TB rv back
  have PH2 : PhiOk (P0 w loose mean mg mb) (n + 2) (φ33 opsR) := PH.mono (by omega)
  have PH1 : PhiOk (P0 w loose mean mg mb) (n + 1) (φ33 opsR) := PH.mono (by omega)
  refine entry_cv (P := P0 w loose mean mg mb) (ps := ["precision", "real"]) h3 h4 chk rv.length.symm h7 X S rv back fun g L' m' cells s' Q' A' G X' hg S' nm' hoff hr => ?_
  refine heads_ok (P := P0 w loose mean mg mb) prmOk (conOk (φ33 opsR) none) PH2 (k := 37) ((hR p m e).trans hF) G X' S' nm' (fun x g e => by cases e) ?_ ?_
  · intro d' v m2 hid2 news2 h2 tk2 hd' S2 sub kp r2
    cases hd'
    have kp' : ∀ q ∈ (TP, tabObj ps) :: hid, q ∈ hid2 := fun q hq => kp q (List.mem_append_right _ hq) fun x _ => hoff q hq x
    refine hr v m2 ps news2 h2 tk2 ⟨S2.F, fun q hq => S2.N q ?_, fun q hq r hr => S2.ap q hq r (kp' r hr)⟩ sub (TB.mono sub) r2
    rcases List.mem_append.mp hq with hq | hq
    · exact List.mem_append_left _ (kp' q hq)
    · exact List.mem_append_right _ hq
  · intro ρ' m2 hid2 news2 h2 tk2 hk S2 sub kp nm2
    have kp' : ∀ q ∈ (TP, tabObj ps) :: hid, q ∈ hid2 := fun q hq => kp q (List.mem_append_right _ hq) fun x _ => hoff q hq x
    have hT2 := kp' _ (.head _)
    obtain ⟨hb0, mr, er, p2, wk2, x, y, hreal, rfl, hdec, E1, E2⟩ := kn_cv_inv (run_ok (P := P0 w loose mean mg mb) prmOk (conOk (φ33 opsR) none) PH2 37) hk
    obtain ⟨vr, hat, rr⟩ := nm2.nm "real" _ hreal
    obtain ⟨oC, hcm, hcd⟩ : ∃ oC, (L' + 1, oC) ∈ hid2 ∧ oC.data = .cell (some vr) := by
      rcases hat with ⟨a1, _, _⟩ | ⟨c2, o2, _, a2, a3, a4⟩ | ⟨_, _, a1, _⟩
      · rw [show (envOfC qual sc L' a (.ref c)).kindOf "real" = some .cell from hkr] at a1; cases a1
      · have e2 : (cellsFrom (L' + 1) sc.names []).lookup ("real" : Str) = some c2 := a2
        rw [hcells] at e2
        cases e2
        exact ⟨o2, a3, a4⟩
      · rw [show (envOfC qual sc L' a (.ref c)).kindOf "real" = some .cell from hkr] at a1; cases a1
    have hcT : L' + 1 ≠ TP := fun q => hoff _ (.head _) "real" (by show (cellsFrom (L' + 1) sc.names []).lookup ("real" : Str) = some TP; rw [hcells, ← q]; rfl)
    have hcO : ∀ q ∈ hid, q.1 ≠ L' + 1 := fun q hq z => hoff _ (.tail _ hq) "real" (by show (cellsFrom (L' + 1) sc.names []).lookup ("real" : Str) = some q.1; rw [hcells, z]; rfl)
    have CH : CodeHd g c TP := C.keeps hg
    have N0 : News g L' h2 ((TP, tabObj ps) :: dropA TP (hid2 ++ news2)) := fun q hq => by
      rcases List.mem_cons.mp hq with rfl | hq
      · exact S2.N _ (List.mem_append_left _ hT2)
      · exact S2.N _ (mem_dropA.mp hq).1
    have fin : ∀ (f c' : Addr) (oc' : Obj) (vs' : Array Value) (t' : Tok) (ctv doc' pm' : Value) (h3 : Heap) (tk3 : Nat) (ps' : Array Value), ps' = #[rawInt ipos.line, rawInt ipos.col, .ref c'] → Fr g L' h3 m2 →
        News g L' h3 ((f, fnMade "bounds_at" iq ip ib isc [("real", L' + 1)] doc' pm' c' ctv) :: (c', oc') :: (TP, tabObj ps') :: dropA TP (hid2 ++ news2)) → oc'.data = .fields vs' → vs'[1]? = some (.str iq t') → (∀ q ∈ hid2, q.1 ≠ f ∧ q.1 ≠ c') →
        wpAny (model (P0 w loose mean mg mb).prog (P0 w loose mean mg mb).w) A' (storeName (envOfC qual sc L' a (.ref c)) "bounds_at" (.ref f))
          (fun _ s'' => wpAny (model (P0 w loose mean mg mb).prog (P0 w loose mean mg mb).w) A' (execs [.Return (some (.Call (.Name "decided" q1) [ep, ew, .Name "bounds_at" q2] [] q3)) q4] (envOfC qual sc L' a (.ref c))) Q' (fun _ _ => False) s'')
          (fun _ _ => False) { s' with heap := h3, toks := tk3 } := by
      intro f c' oc' vs' t' ctv doc' pm' h3 tk3 ps' hps F3 N3 hd3 hv3 ne
      have S3 : St g L' h3 m2 ((TP, tabObj ps') :: dropA TP hid2) ((f, fnMade "bounds_at" iq ip ib isc [("real", L' + 1)] doc' pm' c' ctv) :: (c', oc') :: news2) := by
        refine ⟨F3, fun q hq => N3 q ?_, fun q hq r hr => ?_⟩
        · rcases List.mem_append.mp hq with hq | hq
          · rcases List.mem_cons.mp hq with rfl | hq
            · exact .tail _ (.tail _ (.head _))
            · exact .tail _ (.tail _ (.tail _ (mem_dropA.mpr ⟨List.mem_append_left _ (mem_dropA.mp hq).1, (mem_dropA.mp hq).2⟩)))
          · rcases List.mem_cons.mp hq with rfl | hq
            · exact .head _
            · rcases List.mem_cons.mp hq with rfl | hq
              · exact .tail _ (.head _)
              · exact .tail _ (.tail _ (.tail _ (mem_dropA.mpr ⟨List.mem_append_right _ hq, S2.ap q hq _ hT2⟩)))
        · have hr' : r.1 = TP ∨ r ∈ hid2 := by
            rcases List.mem_cons.mp hr with rfl | hr
            · exact .inl rfl
            · exact .inr (mem_dropA.mp hr).1
          have rne : r.1 ≠ f ∧ r.1 ≠ c' := by
            rcases hr' with e | h
            · rw [e]; exact ne _ hT2
            · exact ne r h
          rcases List.mem_cons.mp hq with rfl | hq
          · exact rne.1.symm
          · rcases List.mem_cons.mp hq with rfl | hq
            · exact rne.2.symm
            · rcases hr' with e | h
              · rw [e]; exact S2.ap q hq _ hT2
              · exact S2.ap q hq r h
      refine storeX_L (cs := sc) (cn := qual) (a := a) (ccd := .ref c) (cl := cellsFrom (L' + 1) sc.names []) S3.F S3.N (fun h4 F4 N4 => ?_) G.toGEnv.k hkb
      have S4 : St g L' h4 _ _ _ := ⟨F4, N4, S3.ap⟩
      have subn : Sub news2 ((f, fnMade "bounds_at" iq ip ib isc [("real", L' + 1)] doc' pm' c' ctv) :: (c', oc') :: news2) := fun q hq => .tail _ (.tail _ hq)
      have nm4 : Nm (P0 w loose mean mg mb).C (envOfC qual sc L' a (.ref c)) L' (fun y => if y = "bounds_at" then some (.ref f) else m2 y) ((TP, tabObj ps') :: dropA TP hid2) ((f, fnMade "bounds_at" iq ip ib isc [("real", L' + 1)] doc' pm' c' ctv) :: (c', oc') :: news2) ρ' := fun x d hx => by
        obtain ⟨v, hv, r⟩ := nm2.nm x d hx
        refine ⟨v, ?_, r.mono subn⟩
        rcases hv with ⟨a1, a2, a3⟩ | ⟨c2, o2, a1, a2, a3, a4⟩ | ⟨o2, m₂, a1, a2, a3⟩
        · exact .inl ⟨a1, a2, by show (if x = _ then _ else _) = _; rw [if_neg (fun q => by rw [q, hb0] at hx; cases hx)]; exact a3⟩
        · refine .inr (.inl ⟨c2, o2, a1, a2, .tail _ (mem_dropA.mpr ⟨a3, fun q => ?_⟩), a4⟩)
          have e1 := (S2.N _ (List.mem_append_left _ a3)).1
          have e2 := (S2.N _ (List.mem_append_left _ hT2)).1
          rw [show c2 = TP from q, e2] at e1
          cases e1
          cases a4
        · exact absurd rfl (S2.N _ (List.mem_append_left _ a2)).2.1
      obtain ⟨ad, hn, hkp, CD⟩ := decided_ok (w := w) (loose := loose) (mean := mean) (mg := mg) (mb := mb) (n := n + 1) PH1 (B := B mr er) (a := f) (W := (f, fnMade "bounds_at" iq ip ib isc [("real", L' + 1)] doc' pm' c' ctv) :: (c', oc') :: (L' + 1, oC) :: news2) (.head _) ⟨_, rfl⟩
        (clo_ok PH (R := news2) ⟨.head _, ⟨oc', vs', t', .tail _ (.head _), hd3, hv3⟩, ⟨oC, vr, .tail _ (.tail _ (.head _)), hcd, rr⟩, fun q hq => .tail _ (.tail _ (.tail _ hq)), fun q hq => S2.ap q hq _ hcm⟩ ik ics iw ir ico igen (hbi _ _ _ _ _) (hρ mr er) (hB mr er)) hdec
      refine wpAny_execs_cons (wpAny_Return_some (Call_ (global_fn (P := P0 w loose mean mg mb) G.toGEnv X' S4 hkd rfl hn ?_)))
      refine callWith_K X'.X hkp (spliced_more (E1 _ A' g L' _ _ _ _ _ G.toGEnv X' S4 nm4 (fun x g e => by cases e) fun v1 news5 h5 tk5 S5 sub5 r1 => ?_) (starEach_cons hs1)) (starEach_cons hs1) (starEach_plain (by show (!isStar ew && _) = true; rw [hs2]; rfl))
      refine spliced_more (E2 _ A' g L' _ _ _ _ _ G.toGEnv X' S5 (nm4.mono sub5) (fun x g e => by cases e) fun v2 news6 h6 tk6 S6 sub6 r2 => ?_) (starEach_cons hs2)
      refine spliced_more (wpAny_Name (wpAny_loadName_local G.toGEnv.k hkb (m := fun y => if y = "bounds_at" then some (.ref f) else m2 y) S6.F.ns (show (if ("bounds_at" : Str) = "bounds_at" then some (Value.ref f) else m2 "bounds_at") = some (.ref f) from if_pos rfl) (spliced_none ⟨X'.X.keeps S6.F.keep, ?_⟩)) rfl)
      refine cv_call (P := P0 w loose mean mg mb) (hid := hid) X' S6 (.head _) (fun q hq => .tail _ (mem_dropA.mpr ⟨kp' q (.tail _ hq), offT q hq⟩)) (.tail _ (mem_dropA.mpr ⟨hcm, hcT⟩)) (fun q hq => ?_) (r1.mono sub6) r2 CD (fun q hq => ?_) fun v news7 h7 tk7 S7 sub7 r7 => ?_
      · rcases List.mem_cons.mp hq with rfl | hq
        · exact hcT.symm
        · exact hcO q hq
      · rcases List.mem_cons.mp hq with rfl | hq
        · exact .tail _ (sub6 _ (sub5 _ (.head _)))
        · rcases List.mem_cons.mp hq with rfl | hq
          · exact .tail _ (sub6 _ (sub5 _ (.tail _ (.head _))))
          · rcases List.mem_cons.mp hq with rfl | hq
            · exact .head _
            · exact .tail _ (sub6 _ (sub5 _ (.tail _ (.tail _ hq))))
      · have s7 : Sub _ news7 := (sub5.trans sub6).trans sub7
        exact hr v _ ps' news7 h7 tk7 S7 (sub.trans (subn.trans s7)) (.inr ⟨c', oc', vs', t', hps, s7 _ (.tail _ (.head _)), hd3, hv3⟩) r7
    refine wpAny_execs_cons (nestDef_K hdef hkdef (hann _) ?_)
    rw [hq]
    rcases TB with rfl | ⟨c', oc', vs', t', rfl, hm', hd', hv'⟩
    · refine nest_K (cn := qual) (cs := sc) (a := a) (ccd := .ref c) (cl := cellsFrom (L' + 1) sc.names []) S2.F N0 X'.T CH rfl (.head fun q hq => (mem_dropA.mp hq).2) trivial rfl (hcl L') fun f c' oc' vs' t' ctv doc' h3 tk3 F3 N3 hd3 hv3 l1 l2 => ?_
      refine fin f c' oc' vs' t' ctv doc' _ h3 tk3 _ (by rw [Array.empty_append]) F3 N3 hd3 hv3 fun q hq => ?_
      have hq' : q.1 < c' := by
        by_cases z : q.1 = TP
        · rw [z]; exact l1 _ (.head _)
        · exact l1 q (.tail _ (mem_dropA.mpr ⟨List.mem_append_left _ hq, z⟩))
      exact ⟨Nat.ne_of_lt (Nat.lt_trans hq' l2), Nat.ne_of_lt hq'⟩
    · refine nestHit_K (cn := qual) (cs := sc) (a := a) (ccd := .ref c) (cl := cellsFrom (L' + 1) sc.names []) S2.F N0 X'.T CH rfl (.head _) (c' := c') (by exact True.intro) (by simp [codeAmong, rawInt]) (hcl L') fun f ctv doc' h3 tk3 F3 N3 l1 => ?_
      refine fin f c' oc' vs' t' ctv doc' ((mg "__name__").getD .none) h3 tk3 _ rfl F3 (fun q hq => ?_) hd' hv' fun q hq => ⟨?_, (S2.ap _ (sub _ hm') q hq).symm⟩
      · rcases List.mem_cons.mp hq with rfl | hq
        · exact N3 _ (.head _)
        · rcases List.mem_cons.mp hq with rfl | hq
          · exact N3 _ (.tail _ (.tail _ (mem_dropA.mpr ⟨List.mem_append_right _ (sub _ hm'), S2.ap _ (sub _ hm') _ hT2⟩)))
          · exact N3 _ (.tail _ hq)
      · by_cases z : q.1 = TP
        · rw [z]; exact Nat.ne_of_lt (l1 _ (.head _))
        · exact Nat.ne_of_lt (l1 q (.tail _ (mem_dropA.mpr ⟨List.mem_append_left _ hq, z⟩)))
end Mine

end
-- part K8
section
open PySem PySem.W PySem.Calls PyProof.Rows
set_option Elab.async false
set_option maxRecDepth 100000
set_option maxHeartbeats 8000000
set_option linter.unusedVariables false
namespace Mine
variable {w : World} {loose : List Str} {mean : ExcName → Option Value} {mg mb : Str → Option Value}
theorem curve_lam {n : Nat} (PH : PhiOk (P0 w loose mean mg mb) n (φ33 opsR)) {c TP a : Addr} {B : Int → Int → Int → Option V} {F : Int → Int → Int → Option V} {oc : Value} {od : Option Addr} {osl : Array (Option Value)} {name qual : Str} {params : Arguments} {s0 s1 : Stmt}
    {ip : Arguments} {ib : Expr} {isc : Scope} {ipos q1 q3 q4 : Pos} {ep ew : Expr} {sc : Scope} {dV kV doc pm ct : Value} {an : Option Addr} {iq : Str}
    (h3 : (Mine.hk.heap_1 w.params).lookup a = some ⟨oc, od, .func (fnOf name qual params [s0, s1, .Return (some (.Call (.Name "decided" q1) [ep, ew, .Lambda ip ib isc ipos] [] q3)) q4] sc dV kV doc pm an (.ref c) ct), osl⟩)
    (h4 : codeIn (Mine.hk.heap_1 w.params) (.ref c) qual = true) (chk : fnChk sc ["precision", "real"] = true)
    (h7 : ∀ us : List Value, us.length = 2 → bindArgs (fnOf name qual params [s0, s1, .Return (some (.Call (.Name "decided" q1) [ep, ew, .Lambda ip ib isc ipos] [] q3)) q4] sc dV kV doc pm an (.ref c) ct) ⟨us, []⟩ = pure ((["precision", "real"] : List Str).zip us))
    (hR : ∀ p m e, rEx (run (cfg opsR (φ33 opsR)) 40) sc (rho0 sc ["precision", "real"] [.int p, .real m e]) [s0, s1] (kn_cv opsR sc B ep ew) some = F p m e)
    (hcells : ∀ L', cellsFrom (L' + 1) sc.names [] = [(("real" : Str), L' + 1)]) (hkr : sc.names.lookup ("real" : Str) = some .cell) (hkd : sc.names.lookup ("decided" : Str) = some .globalImplicit)
    (hs1 : isStar ep = false) (hs2 : isStar ew = false)
    (ik : isc.kind = .function) (ics : isc.names.all (fun x => x.2 != .cell) = true) (iw : isc.names.lookup ("work" : Str) = some .local) (ir : isc.names.lookup ("real" : Str) = some .free) (ico : isc.isCoroutine = false) (igen : isc.isGenerator = false)
    (hcl : ∀ L', closureFor isc (envOfC qual sc L' a (.ref c)) = pure [(("real" : Str), L' + 1)]) (hq : ∀ L', (envOfC qual sc L' a (.ref c)).qual ++ "<lambda>" = iq)
    (hdef : ∀ env, defaultsOf ip env = ([], []))
    (hbi : ∀ cc pm c' ctv (u : Value), bindArgs (kla_fn "<lambda>" iq ip ib isc [(("real" : Str), cc)] pm (.ref c') ctv) ⟨[u], []⟩ = pure [(("work" : Str), u)])
    (hρ : ∀ m e wk x d, look (ρ_in isc m e wk) x = some d → (x = "work" ∧ d = .int wk) ∨ (x = "real" ∧ d = .real m e))
    (hB : ∀ m e wk, rEv (run (cfg opsR (φ33 opsR)) 40) isc (ρ_in isc m e wk) ib some = B m e wk) :
    ∀ p m e d, F p m e = some d → CvOk (P0 w loose mean mg mb) (n + 3) a c TP ipos iq [.int p, .real m e] d := by
  intro p m e d hF A h₀ L m₀ hid news s vs ps Q X C S offT TB rv back
  have PH2 : PhiOk (P0 w loose mean mg mb) (n + 2) (φ33 opsR) := PH.mono (by omega)
  have PH1 : PhiOk (P0 w loose mean mg mb) (n + 1) (φ33 opsR) := PH.mono (by omega)
  refine entry_cv (P := P0 w loose mean mg mb) (ps := ["precision", "real"]) h3 h4 chk rv.length.symm h7 X S rv back fun g L' m' cells s' Q' A' G X' hg S' nm' hoff hr => ?_
  refine heads_ok (P := P0 w loose mean mg mb) prmOk (conOk (φ33 opsR) none) PH2 (k := 37) ((hR p m e).trans hF) G X' S' nm' (fun x g e => by cases e) ?_ ?_
  · intro d' v m2 hid2 news2 h2 tk2 hd' S2 sub kp r2
    cases hd'
    have kp' : ∀ q ∈ (TP, tabObj ps) :: hid, q ∈ hid2 := fun q hq => kp q (List.mem_append_right _ hq) fun x _ => hoff q hq x
    refine hr v m2 ps news2 h2 tk2 ⟨S2.F, fun q hq => S2.N q ?_, fun q hq r hr => S2.ap q hq r (kp' r hr)⟩ sub (TB.mono sub) r2
    rcases List.mem_append.mp hq with hq | hq
    · exact List.mem_append_left _ (kp' q hq)
    · exact List.mem_append_right _ hq
  · intro ρ' m2 hid2 news2 h2 tk2 hk S2 sub kp nm2
    have kp' : ∀ q ∈ (TP, tabObj ps) :: hid, q ∈ hid2 := fun q hq => kp q (List.mem_append_right _ hq) fun x _ => hoff q hq x
    have hT2 := kp' _ (.head _)
    obtain ⟨hb0, mr, er, p2, wk2, x, y, hreal, rfl, hdec, E1, E2⟩ := kn_cv_inv (run_ok (P := P0 w loose mean mg mb) prmOk (conOk (φ33 opsR) none) PH2 37) hk
    obtain ⟨vr, hat, rr⟩ := nm2.nm "real" _ hreal
    obtain ⟨oC, hcm, hcd⟩ : ∃ oC, (L' + 1, oC) ∈ hid2 ∧ oC.data = .cell (some vr) := by
      rcases hat with ⟨a1, _, _⟩ | ⟨c2, o2, _, a2, a3, a4⟩ | ⟨_, _, a1, _⟩
      · rw [show (envOfC qual sc L' a (.ref c)).kindOf "real" = some .cell from hkr] at a1; cases a1
      · have e2 : (cellsFrom (L' + 1) sc.names []).lookup ("real" : Str) = some c2 := a2
        rw [hcells] at e2
        cases e2
        exact ⟨o2, a3, a4⟩
      · rw [show (envOfC qual sc L' a (.ref c)).kindOf "real" = some .cell from hkr] at a1; cases a1
    have hcT : L' + 1 ≠ TP := fun q => hoff _ (.head _) "real" (by show (cellsFrom (L' + 1) sc.names []).lookup ("real" : Str) = some TP; rw [hcells, ← q]; rfl)
    have hcO : ∀ q ∈ hid, q.1 ≠ L' + 1 := fun q hq z => hoff _ (.tail _ hq) "real" (by show (cellsFrom (L' + 1) sc.names []).lookup ("real" : Str) = some q.1; rw [hcells, z]; rfl)
    have CH : CodeHd g c TP := C.keeps hg
    obtain ⟨ad, hn, hkp, CD0⟩ : ∃ ad, nsIn (Mine.hk.heap_1 w.params) mainGlobals "decided" = some (some (.ref ad)) ∧ keepIn (Mine.hk.heap_1 w.params) (.ref ad) = true ∧
        ∀ (fo : Obj) (f : Addr) (W : Led), (f, fo) ∈ W → (∃ fd, fo.data = .func fd) → (∀ wk d, B mr er wk = some d → CallOkW (P0 w loose mean mg mb) (n + 1) f W [.int wk] d) → CallOkW (P0 w loose mean mg mb) (n + 2) ad W [.int p2, .int wk2, .fn f] (.real x y) := by
      obtain ⟨ad, oc, od, osl, name, qual, params, body, scope, dV, kV, doc, pm, an, cdv, ct, h1, h2, h3, h4, h5, h6, h7⟩ := at_decided_ w
      refine ⟨ad, h1, h2, fun fo f W hm hf hB' => ?_⟩
      obtain ⟨ad', e1, e2, e3⟩ := decided_ok (w := w) (loose := loose) (mean := mean) (mg := mg) (mb := mb) (n := n + 1) PH1 hm hf hB' hdec
      have e1' : nsIn (Mine.hk.heap_1 w.params) mainGlobals "decided" = some (some (.ref ad')) := e1
      rw [h1] at e1'
      cases e1'
      exact e3
    refine wpAny_execs_cons (wpAny_Return_some (Call_ (global_fn (P := P0 w loose mean mg mb) G.toGEnv X' S2 hkd rfl hn ?_)))
    refine callWith_K X'.X hkp (spliced_more (E1 _ A' g L' _ _ _ _ _ G.toGEnv X' S2 nm2.nm (fun x g e => by cases e) fun v1 news5 h5 tk5 S5 sub5 r1 => ?_) (starEach_cons hs1)) (starEach_cons hs1) (starEach_plain (by show (!isStar ew && _) = true; rw [hs2]; rfl))
    refine spliced_more (E2 _ A' g L' _ _ _ _ _ G.toGEnv X' S5 (nm2.nm.mono sub5) (fun x g e => by cases e) fun v2 news6 h6 tk6 S6 sub6 r2 => ?_) (starEach_cons hs2)
    have N0 : News g L' h6 ((TP, tabObj ps) :: dropA TP (hid2 ++ news6)) := fun q hq => by
      rcases List.mem_cons.mp hq with rfl | hq
      · exact S6.N _ (List.mem_append_left _ hT2)
      · exact S6.N _ (mem_dropA.mp hq).1
    have sub26 : Sub news2 news6 := sub5.trans sub6
    have fin : ∀ (f c' : Addr) (oc' : Obj) (vs' : Array Value) (t' : Tok) (ctv pm' : Value) (h3 : Heap) (tk3 : Nat) (ps' : Array Value), ps' = #[rawInt ipos.line, rawInt ipos.col, .ref c'] → Fr g L' h3 m2 →
        News g L' h3 ((f, kla_obj "<lambda>" iq ip ib isc [("real", L' + 1)] pm' c' ctv) :: (c', oc') :: (TP, tabObj ps') :: dropA TP (hid2 ++ news6)) → oc'.data = .fields vs' → vs'[1]? = some (.str iq t') → (∀ q ∈ hid2, q.1 ≠ f ∧ q.1 ≠ c') →
        wpAny (model (P0 w loose mean mg mb).prog (P0 w loose mean mg mb).w) A' (call (.ref ad) ([] ++ [v1, v2, .ref f])) (fun v => Q' (.ret v)) (fun _ _ => False) { s' with heap := h3, toks := tk3 } := by
      intro f c' oc' vs' t' ctv pm' h3 tk3 ps' hps F3 N3 hd3 hv3 ne
      have S3 : St g L' h3 m2 ((TP, tabObj ps') :: dropA TP hid2) ((f, kla_obj "<lambda>" iq ip ib isc [("real", L' + 1)] pm' c' ctv) :: (c', oc') :: news6) := by
        refine ⟨F3, fun q hq => N3 q ?_, fun q hq r hr => ?_⟩
        · rcases List.mem_append.mp hq with hq | hq
          · rcases List.mem_cons.mp hq with rfl | hq
            · exact .tail _ (.tail _ (.head _))
            · exact .tail _ (.tail _ (.tail _ (mem_dropA.mpr ⟨List.mem_append_left _ (mem_dropA.mp hq).1, (mem_dropA.mp hq).2⟩)))
          · rcases List.mem_cons.mp hq with rfl | hq
            · exact .head _
            · rcases List.mem_cons.mp hq with rfl | hq
              · exact .tail _ (.head _)
              · exact .tail _ (.tail _ (.tail _ (mem_dropA.mpr ⟨List.mem_append_right _ hq, S6.ap q hq _ hT2⟩)))
        · have hr' : r.1 = TP ∨ r ∈ hid2 := by
            rcases List.mem_cons.mp hr with rfl | hr
            · exact .inl rfl
            · exact .inr (mem_dropA.mp hr).1
          have rne : r.1 ≠ f ∧ r.1 ≠ c' := by
            rcases hr' with e | h
            · rw [e]; exact ne _ hT2
            · exact ne r h
          rcases List.mem_cons.mp hq with rfl | hq
          · exact rne.1.symm
          · rcases List.mem_cons.mp hq with rfl | hq
            · exact rne.2.symm
            · rcases hr' with e | h
              · rw [e]; exact S6.ap q hq _ hT2
              · exact S6.ap q hq r h
      have subn : Sub news6 ((f, kla_obj "<lambda>" iq ip ib isc [("real", L' + 1)] pm' c' ctv) :: (c', oc') :: news6) := fun q hq => .tail _ (.tail _ hq)
      have CD := CD0 (kla_obj "<lambda>" iq ip ib isc [("real", L' + 1)] pm' c' ctv) f ((f, kla_obj "<lambda>" iq ip ib isc [("real", L' + 1)] pm' c' ctv) :: (c', oc') :: (L' + 1, oC) :: news6) (.head _) ⟨_, rfl⟩
        (lam_ok PH (R := news6) ⟨.head _, ⟨oc', vs', t', .tail _ (.head _), hd3, hv3⟩, ⟨oC, vr, .tail _ (.tail _ (.head _)), hcd, rr.mono sub26⟩, fun q hq => .tail _ (.tail _ (.tail _ hq)), fun q hq => S6.ap q hq _ hcm⟩ ik ics iw ir ico igen (hbi _ _ _ _) (hρ mr er) (hB mr er))
      refine cv_call (P := P0 w loose mean mg mb) (hid := hid) X' S3 (.head _) (fun q hq => .tail _ (mem_dropA.mpr ⟨kp' q (.tail _ hq), offT q hq⟩)) (.tail _ (mem_dropA.mpr ⟨hcm, hcT⟩)) (fun q hq => ?_) (r1.mono (sub6.trans subn)) (r2.mono subn) CD (fun q hq => ?_) fun v news7 h7 tk7 S7 sub7 r7 => ?_
      · rcases List.mem_cons.mp hq with rfl | hq
        · exact hcT.symm
        · exact hcO q hq
      · rcases List.mem_cons.mp hq with rfl | hq
        · exact .tail _ (.head _)
        · rcases List.mem_cons.mp hq with rfl | hq
          · exact .tail _ (.tail _ (.head _))
          · rcases List.mem_cons.mp hq with rfl | hq
            · exact .head _
            · exact .tail _ (.tail _ (.tail _ hq))
      · exact hr v _ ps' news7 h7 tk7 S7 (sub.trans (sub26.trans (subn.trans sub7))) (.inr ⟨c', oc', vs', t', hps, sub7 _ (.tail _ (.head _)), hd3, hv3⟩) r7
    refine spliced_more (kla_eval (hdef _) ?_) (starEach_cons rfl)
    rw [hq]
    rcases TB with rfl | ⟨c', oc', vs', t', rfl, hm', hd', hv'⟩
    · refine kla_nest (cn := qual) (cs := sc) (a := a) (ccd := .ref c) (cl := cellsFrom (L' + 1) sc.names []) S6.F N0 X'.T CH rfl (.head fun q hq => (mem_dropA.mp hq).2) trivial rfl (hcl L') fun f c' oc' vs' t' ctv h3 tk3 F3 N3 hd3 hv3 l1 l2 => ?_
      refine spliced_none ⟨X'.X.keeps F3.keep, fin f c' oc' vs' t' ctv _ h3 tk3 _ (by rw [Array.empty_append]) F3 N3 hd3 hv3 fun q hq => ?_⟩
      have hq' : q.1 < c' := by
        by_cases z : q.1 = TP
        · rw [z]; exact l1 _ (.head _)
        · exact l1 q (.tail _ (mem_dropA.mpr ⟨List.mem_append_left _ hq, z⟩))
      exact ⟨Nat.ne_of_lt (Nat.lt_trans hq' l2), Nat.ne_of_lt hq'⟩
    · have sm : Sub news news6 := sub.trans sub26
      refine kla_hit (cn := qual) (cs := sc) (a := a) (ccd := .ref c) (cl := cellsFrom (L' + 1) sc.names []) S6.F N0 X'.T CH rfl (.head _) (c' := c') (by exact True.intro) (by simp [codeAmong, rawInt]) (hcl L') fun f ctv h3 tk3 F3 N3 l1 => ?_
      refine spliced_none ⟨X'.X.keeps F3.keep, fin f c' oc' vs' t' ctv ((mg "__name__").getD .none) h3 tk3 _ rfl F3 (fun q hq => ?_) hd' hv' fun q hq => ⟨?_, (S6.ap _ (sm _ hm') q hq).symm⟩⟩
      · rcases List.mem_cons.mp hq with rfl | hq
        · exact N3 _ (.head _)
        · rcases List.mem_cons.mp hq with rfl | hq
          · exact N3 _ (.tail _ (.tail _ (mem_dropA.mpr ⟨List.mem_append_right _ (sm _ hm'), S6.ap _ (sm _ hm') _ hT2⟩)))
          · exact N3 _ (.tail _ hq)
      · by_cases z : q.1 = TP
        · rw [z]; exact Nat.ne_of_lt (l1 _ (.head _))
        · exact Nat.ne_of_lt (l1 q (.tail _ (mem_dropA.mpr ⟨List.mem_append_left _ hq, z⟩)))
end Mine

end
-- part K9
section
open PySem PySem.W PySem.Calls PyProof.Rows
set_option Elab.async false
set_option maxRecDepth 100000
set_option maxHeartbeats 8000000
set_option linter.unusedVariables false
namespace Mine
section
variable (o : Ops)
noncomputable def stA (nm : Str) (i : Nat) : Stmt := ((fdef nm).2[i]?).getD (.Return none default)
noncomputable def argA (nm : Str) (i j : Nat) : Expr := match ((fdef nm).2[i]? : Option Stmt) with
  | some (Stmt.Return (some (Expr.Call _ es _ _)) _) => (es[j]?).getD (Expr.Constant .none 0 default)
  | _ => Expr.Constant .none 0 default
theorem R_sin (p m e : Int) : rEx (run (cfg o (φ33 o)) 40) (fdef "sin_real").1 (rho0 (fdef "sin_real").1 ["precision", "real"] [.int p, .real m e]) [stA "sin_real" 0, stA "sin_real" 1] (kn_cv o (fdef "sin_real").1 (B_sin o) (argA "sin_real" 3 0) (argA "sin_real" 3 1)) some = F_sin_real o p m e := by kernel_rfl
theorem R_cos (p m e : Int) : rEx (run (cfg o (φ33 o)) 40) (fdef "cos_real").1 (rho0 (fdef "cos_real").1 ["precision", "real"] [.int p, .real m e]) [stA "cos_real" 0, stA "cos_real" 1] (kn_cv o (fdef "cos_real").1 (B_cos o) (argA "cos_real" 3 0) (argA "cos_real" 3 1)) some = F_cos_real o p m e := by kernel_rfl
theorem R_tan (p m e : Int) : rEx (run (cfg o (φ33 o)) 40) (fdef "tan_real").1 (rho0 (fdef "tan_real").1 ["precision", "real"] [.int p, .real m e]) [stA "tan_real" 0, stA "tan_real" 1] (kn_cv o (fdef "tan_real").1 (B_tan o) (argA "tan_real" 2 0) (argA "tan_real" 2 1)) some = F_tan_real o p m e := by kernel_rfl
end
variable {w : World} {loose : List Str} {mean : ExcName → Option Value} {mg mb : Str → Option Value}
theorem fill9 (w : World) : Mine.hk.heap_1 w.params = Mine.hk.heap_1 w.params ∧ PySem.Challenge.rw_nt0171_01.Holds = PySem.Challenge.rw_nt0171_01.Holds := by
  k_fill
  exact ⟨rfl, rfl⟩
noncomputable def CvAt (P : Prm) (nm : Str) (c TP : Addr) (F : Int → Int → Int → Option V) : Prop := ∃ a pos qual, nsIn P.K mainGlobals nm = some (some (.ref a)) ∧ keepIn P.K (.ref a) = true ∧ ∀ p m e d, F p m e = some d → CvOk P 40 a c TP pos qual [.int p, .real m e] d
theorem cvAt_of {P : Prm} {nm : Str} {c TP a : Addr} {pos : Pos} {qual : Str} {F : Int → Int → Int → Option V} (h1 : nsIn P.K mainGlobals nm = some (some (.ref a))) (h2 : keepIn P.K (.ref a) = true) (h : ∀ p m e d, F p m e = some d → CvOk P 40 a c TP pos qual [.int p, .real m e] d) : CvAt P nm c TP F := ⟨a, pos, qual, h1, h2, h⟩
theorem look_cons (y x : Str) (o : Option V) (r : Rho) : look ((y, o) :: r) x = if (x == y) = true then o else look r x := by
  unfold look
  rw [List.lookup_cons]
  split
  · rename_i q; rw [if_pos q]; rfl
  · rename_i q; rw [if_neg (by rw [q]; exact Bool.false_ne_true)]
theorem look_in4 {m e wk : Int} {x : Str} {d : V} (h : look [("work", some (.int wk)), ("turns", none), ("rest", none), ("real", some (.real m e))] x = some d) : (x = "work" ∧ d = .int wk) ∨ (x = "real" ∧ d = .real m e) := by
  rw [look_cons] at h
  split at h
  · rename_i q; cases h; exact .inl ⟨eq_of_beq q, rfl⟩
  · rw [look_cons] at h
    split at h
    · cases h
    · rw [look_cons] at h
      split at h
      · cases h
      · rw [look_cons] at h
        split at h
        · rename_i q; cases h; exact .inr ⟨eq_of_beq q, rfl⟩
        · cases h
theorem look_in2 {m e wk : Int} {x : Str} {d : V} (h : look [("work", some (.int wk)), ("real", some (.real m e))] x = some d) : (x = "work" ∧ d = .int wk) ∨ (x = "real" ∧ d = .real m e) := by
  rw [look_cons] at h
  split at h
  · rename_i q; cases h; exact .inl ⟨eq_of_beq q, rfl⟩
  · rw [look_cons] at h
    split at h
    · rename_i q; cases h; exact .inr ⟨eq_of_beq q, rfl⟩
    · cases h
theorem sin_at : CvAt (P0 w loose mean mg mb) "sin_real" 309 305 (F_sin_real opsR) := by
  refine' cvAt_of (P := P0 w loose mean mg mb) ?h1 ?h2 (curve_def (B := B_sin opsR) (iq := (("sin_real" : Str) ++ ".<locals>.") ++ "bounds_at") phi33 ?h3 ?h4 ?chk ?h7 ?hR ?hcells ?hkr ?hkb ?hkd ?hs1 ?hs2 ?ik ?ics ?iw ?ir ?ico ?igen ?hcl ?hq ?hdef ?hkdef ?hann ?hbi ?hρ ?hB)
  case h1 =>
    show nsIn (Mine.hk.heap_1 w.params) mainGlobals "sin_real" = _
    k_is
  case h2 =>
    show keepIn (Mine.hk.heap_1 w.params) _ = _
    k_is
  case h3 => k_is
  case h4 => k_is
  case chk => decide +kernel
  case h7 =>
    intro us h
    obtain ⟨a, b, rfl⟩ := len2 h
    rfl
  case hR => exact fun p m e => Eq.trans (by kernel_rfl) (R_sin opsR p m e)
  case hcells => exact fun _ => rfl
  case hkr => decide +kernel
  case hkb => decide +kernel
  case hkd => decide +kernel
  case hs1 => rfl
  case hs2 => rfl
  case ik => rfl
  case ics => decide +kernel
  case iw => decide +kernel
  case ir => decide +kernel
  case ico => rfl
  case igen => rfl
  case hcl => exact fun _ => rfl
  case hq => exact fun _ => rfl
  case hdef => rfl
  case hkdef => rfl
  case hann => exact fun _ => rfl
  case hbi => exact fun _ _ _ _ _ _ => rfl
  case hρ => exact fun m e wk x d h => look_in4 h
  case hB => exact fun m e wk => Eq.trans (by kernel_rfl) (R_sinB opsR m e wk)
theorem cos_at : CvAt (P0 w loose mean mg mb) "cos_real" 316 312 (F_cos_real opsR) := by
  refine' cvAt_of (P := P0 w loose mean mg mb) ?h1 ?h2 (curve_def (B := B_cos opsR) (iq := (("cos_real" : Str) ++ ".<locals>.") ++ "bounds_at") phi33 ?h3 ?h4 ?chk ?h7 ?hR ?hcells ?hkr ?hkb ?hkd ?hs1 ?hs2 ?ik ?ics ?iw ?ir ?ico ?igen ?hcl ?hq ?hdef ?hkdef ?hann ?hbi ?hρ ?hB)
  case h1 =>
    show nsIn (Mine.hk.heap_1 w.params) mainGlobals "cos_real" = _
    k_is
  case h2 =>
    show keepIn (Mine.hk.heap_1 w.params) _ = _
    k_is
  case h3 => k_is
  case h4 => k_is
  case chk => decide +kernel
  case h7 =>
    intro us h
    obtain ⟨a, b, rfl⟩ := len2 h
    rfl
  case hR => exact fun p m e => Eq.trans (by kernel_rfl) (R_cos opsR p m e)
  case hcells => exact fun _ => rfl
  case hkr => decide +kernel
  case hkb => decide +kernel
  case hkd => decide +kernel
  case hs1 => rfl
  case hs2 => rfl
  case ik => rfl
  case ics => decide +kernel
  case iw => decide +kernel
  case ir => decide +kernel
  case ico => rfl
  case igen => rfl
  case hcl => exact fun _ => rfl
  case hq => exact fun _ => rfl
  case hdef => rfl
  case hkdef => rfl
  case hann => exact fun _ => rfl
  case hbi => exact fun _ _ _ _ _ _ => rfl
  case hρ => exact fun m e wk x d h => look_in4 h
  case hB => exact fun m e wk => Eq.trans (by kernel_rfl) (R_cosB opsR m e wk)
theorem tan_at : CvAt (P0 w loose mean mg mb) "tan_real" 330 326 (F_tan_real opsR) := by
  refine' cvAt_of (P := P0 w loose mean mg mb) ?h1 ?h2 (curve_lam (B := B_tan opsR) (iq := (("tan_real" : Str) ++ ".<locals>.") ++ "<lambda>") phi33 ?h3 ?h4 ?chk ?h7 ?hR ?hcells ?hkr ?hkd ?hs1 ?hs2 ?ik ?ics ?iw ?ir ?ico ?igen ?hcl ?hq ?hdef ?hbi ?hρ ?hB)
  case h1 =>
    show nsIn (Mine.hk.heap_1 w.params) mainGlobals "tan_real" = _
    k_is
  case h2 =>
    show keepIn (Mine.hk.heap_1 w.params) _ = _
    k_is
  case h3 => k_is
  case h4 => k_is
  case chk => decide +kernel
  case h7 =>
    intro us h
    obtain ⟨a, b, rfl⟩ := len2 h
    rfl
  case hR => exact fun p m e => Eq.trans (by kernel_rfl) (R_tan opsR p m e)
  case hcells => exact fun _ => rfl
  case hkr => decide +kernel
  case hkd => decide +kernel
  case hs1 => rfl
  case hs2 => rfl
  case ik => rfl
  case ics => decide +kernel
  case iw => decide +kernel
  case ir => decide +kernel
  case ico => rfl
  case igen => rfl
  case hcl => exact fun _ => rfl
  case hq => exact fun _ => rfl
  case hdef => exact fun _ => rfl
  case hbi => exact fun _ _ _ _ _ => rfl
  case hρ => exact fun m e wk x d h => look_in2 h
  case hB => exact fun m e wk => Eq.trans (by kernel_rfl) (R_tanB opsR m e wk)
end Mine

end
-- part M1
section
open PySem PySem.W PySem.Calls PyProof.Rows
set_option Elab.async false
set_option maxRecDepth 100000
set_option maxHeartbeats 8000000
set_option linter.unusedVariables false
namespace Mine

noncomputable abbrev Tabs := Array Value × Array Value × Array Value
noncomputable abbrev hidT (own : Led) (t : Tabs) : Led := (305, tabObj t.1) :: (312, tabObj t.2.1) :: (326, tabObj t.2.2) :: own
/-- the state of the law's own frame -/
structure LSt (cs cc ct : Pos × Str) (own : Led) (h₀ : Heap) (L : Addr) (m : Str → Option Value) (h : Heap) (t : Tabs) (nw : Led) : Prop where
  st : St h₀ L h m (hidT own t) nw
  s : TabSt cs.1 cs.2 t.1 nw
  c : TabSt cc.1 cc.2 t.2.1 nw
  t : TabSt ct.1 ct.2 t.2.2 nw
noncomputable def NmL (C : Addr) (env : Env) (m : Str → Option Value) (nw : Led) (ρ : Rho) : Prop := ∀ x d, look ρ x = some d → env.kindOf x = some .local ∧ ∃ v, m x = some v ∧ Rep C nw v d
theorem NmL.mono {C : Addr} {env : Env} {m : Str → Option Value} {nw nw' : Led} {ρ : Rho} (h : Sub nw nw') (N : NmL C env m nw ρ) : NmL C env m nw' ρ := fun x d e => let ⟨a, v, b, r⟩ := N x d e; ⟨a, v, b, r.mono h⟩
theorem NmL.nm {C : Addr} {env : Env} {L : Addr} {m : Str → Option Value} {hid nw : Led} {ρ : Rho} (hl : env.locals = L) (N : NmL C env m nw ρ) : Nm C env L m hid nw ρ := fun x d e => let ⟨a, v, b, r⟩ := N x d e; ⟨v, .inl ⟨a, hl, b⟩, r⟩

theorem St.sub {h₀ h : Heap} {L : Addr} {m : Str → Option Value} {hid hid' nw : Led} (k : ∀ p ∈ hid', p ∈ hid) (S : St h₀ L h m hid nw) : St h₀ L h m hid' nw :=
  ⟨S.F, fun p hp => S.N p (by
    rcases List.mem_append.mp hp with hp | hp
    · exact List.mem_append_left _ (k p hp)
    · exact List.mem_append_right _ hp), fun p hp q hq => S.ap p hp q (k q hq)⟩

/-- what holds of the law's frame as long as it runs -/
structure LX (P : Prm) (n : Nat) (A : Around) (h₀ : Heap) (L : Addr) (env : Env) (sc : Scope) (own : Led) : Prop where
  G : GEnv env sc
  l : env.locals = L
  X : Cx P n A h₀ L
  cS : CodeHd h₀ 309 305
  cC : CodeHd h₀ 316 312
  cT : CodeHd h₀ 330 326
  off : ∀ q ∈ own, q.1 ≠ 305 ∧ q.1 ≠ 312 ∧ q.1 ≠ 326
  nc : env.cells = []
  kc : ∀ x, env.kindOf x ≠ some .cell

section
variable {P : Prm} {n : Nat} {A : Around} {h₀ : Heap} {L : Addr} {env : Env} {sc : Scope} {own : Led} {cs cc ct : Pos × Str} {m : Str → Option Value} {ρ : Rho}

noncomputable def EvL (P : Prm) (A : Around) (h₀ : Heap) (L : Addr) (env : Env) (own : Led) (cs cc ct : Pos × Str) (m : Str → Option Value) (ρ : Rho) (e : Expr) (d : V) : Prop :=
  ∀ (t : Tabs) (nw : Led) (s : Shared) (Q : Value → Shared → Prop), LSt cs cc ct own h₀ L m s.heap t nw → NmL P.C env m nw ρ →
    (∀ v t' nw' h' tk', LSt cs cc ct own h₀ L m h' t' nw' → Sub nw nw' → Rep P.C nw' v d → Q v { s with heap := h', toks := tk' }) →
    wpAny (model P.prog P.w) A (eval e env) Q (fun _ _ => False) s
noncomputable def EvsL (P : Prm) (A : Around) (h₀ : Heap) (L : Addr) (env : Env) (own : Led) (cs cc ct : Pos × Str) (m : Str → Option Value) (ρ : Rho) (es : List Expr) (ds : List V) : Prop :=
  ∀ (pos : Pos) (t : Tabs) (nw : Led) (s : Shared) (Q : List Value → Shared → Prop), LSt cs cc ct own h₀ L m s.heap t nw → NmL P.C env m nw ρ →
    (∀ vs t' nw' h' tk', LSt cs cc ct own h₀ L m h' t' nw' → Sub nw nw' → Reps P.C nw' vs ds → Q vs { s with heap := h', toks := tk' }) →
    wpAny (model P.prog P.w) A (spliced (backTo pos (starEach es env))) Q (fun _ _ => False) s

theorem LSt.mono' {h h' : Heap} {t : Tabs} {nw nw' : Led} (S : LSt cs cc ct own h₀ L m h t nw) (st : St h₀ L h' m (hidT own t) nw') (sub : Sub nw nw') : LSt cs cc ct own h₀ L m h' t nw' := ⟨st, S.s.mono sub, S.c.mono sub, S.t.mono sub⟩

theorem EvL.of_ev {c : Cfg} {e : Expr} {d : V} (Y : LX P n A h₀ L env sc own) (E : EvOk P n c sc ρ e d) (hc : c.clo = none) : EvL P A h₀ L env own cs cc ct m ρ e d :=
  fun t nw s Q S nm back => E env A h₀ L m _ nw s Q Y.G Y.X S.st (nm.nm Y.l) (fun x g q => by rw [hc] at q; cases q) fun v nw' h' tk' S' sub rv => back v t nw' h' tk' (S.mono' S' sub) sub rv
theorem EvsL.nil : EvsL P A h₀ L env own cs cc ct m ρ [] [] := fun pos t nw s Q S nm back => spliced_none (back [] t nw s.heap s.toks S .rfl .nil)
theorem EvsL.cons {e : Expr} {es : List Expr} {d : V} {ds : List V} (hs : isStar e = false) (E1 : EvL P A h₀ L env own cs cc ct m ρ e d) (E2 : EvsL P A h₀ L env own cs cc ct m ρ es ds) : EvsL P A h₀ L env own cs cc ct m ρ (e :: es) (d :: ds) :=
  fun pos t nw s Q S nm back => spliced_more (E1 t nw s _ S nm fun v t' nw' h' tk' S' sub rv => E2 pos t' nw' _ _ S' (nm.mono sub) fun vs t2 nw2 h2 tk2 S2 sub2 rvs => back _ t2 nw2 h2 tk2 S2 (sub.trans sub2) (.cons (rv.mono sub2) rvs)) (starEach_cons hs)

theorem EvL.fn {φ : Phi} (PH : PhiOk P n φ) (Y : LX P n A h₀ L env sc own) {f : Str} {e : Expr} {es : List Expr} {fp p : Pos} {ds : List V} {d : V} (E : EvsL P A h₀ L env own cs cc ct m ρ (e :: es) ds) (hp : (e :: es).all (fun e => !isStar e) = true)
    (hd : (f == "__debug__") = false) (hk : sc.names.lookup f = some .globalImplicit) (h : φ f ds some = some d) : EvL P A h₀ L env own cs cc ct m ρ (.Call (.Name f fp) (e :: es) [] p) d := by
  obtain ⟨d', a, hkd, hn, hkp, C⟩ := PH _ _ _ _ h
  cases hkd
  intro t nw s Q S nm back
  rw [List.all_cons, Bool.and_eq_true, Bool.not_eq_true'] at hp
  refine Call_ (global_fn Y.G Y.X S.st hk hd hn ?_)
  refine callWith_K Y.X.X hkp (E p t nw s _ S nm fun vs t' nw' h' tk' S' sub rv => ⟨Y.X.X.keeps S'.st.F.keep, ?_⟩) (starEach_cons hp.1) (starEach_plain hp.2)
  exact C A h₀ L m _ nw' _ vs Q Y.X S'.st (fun _ h => nomatch h) rv fun v nw2 h2 tk2 S2 sub2 rv2 => back v t' nw2 h2 tk2 (S'.mono' S2 sub2) (sub.trans sub2) rv2

theorem EvL.sin (Y : LX P n A h₀ L env sc own) {a : Addr} {k : Nat} (hkn : k ≤ n) {e : Expr} {es : List Expr} {f : Str} {fp p : Pos} {ds : List V} {d : V} (C : CvOk P k a 309 305 cs.1 cs.2 ds d) (hn : nsIn P.K mainGlobals f = some (some (.ref a))) (hkp : keepIn P.K (.ref a) = true)
    (E : EvsL P A h₀ L env own cs cc ct m ρ (e :: es) ds) (hp : (e :: es).all (fun e => !isStar e) = true) (hd : (f == "__debug__") = false) (hk : sc.names.lookup f = some .globalImplicit) : EvL P A h₀ L env own cs cc ct m ρ (.Call (.Name f fp) (e :: es) [] p) d := by
  intro t nw s Q S nm back
  rw [List.all_cons, Bool.and_eq_true, Bool.not_eq_true'] at hp
  refine Call_ (global_fn Y.G Y.X S.st hk hd hn ?_)
  refine callWith_K Y.X.X hkp (E p t nw s _ S nm fun vs t' nw' h' tk' S' sub rv => ⟨Y.X.X.keeps S'.st.F.keep, ?_⟩) (starEach_cons hp.1) (starEach_plain hp.2)
  refine C A h₀ L m ((312, tabObj t'.2.1) :: (326, tabObj t'.2.2) :: own) nw' _ vs t'.1 Q (Y.X.mono hkn) Y.cS S'.st (fun q hq => ?_) S'.s rv fun v ps nw2 h2 tk2 S2 sub2 tb rv2 => back v (ps, t'.2.1, t'.2.2) nw2 h2 tk2 ⟨S2, tb, S'.c.mono sub2, S'.t.mono sub2⟩ (sub.trans sub2) rv2
  rcases List.mem_cons.mp hq with rfl | hq
  · exact fun z => by cases z
  · rcases List.mem_cons.mp hq with rfl | hq
    · exact fun z => by cases z
    · exact (Y.off q hq).1

theorem EvL.cos (Y : LX P n A h₀ L env sc own) {a : Addr} {k : Nat} (hkn : k ≤ n) {e : Expr} {es : List Expr} {f : Str} {fp p : Pos} {ds : List V} {d : V} (C : CvOk P k a 316 312 cc.1 cc.2 ds d) (hn : nsIn P.K mainGlobals f = some (some (.ref a))) (hkp : keepIn P.K (.ref a) = true)
    (E : EvsL P A h₀ L env own cs cc ct m ρ (e :: es) ds) (hp : (e :: es).all (fun e => !isStar e) = true) (hd : (f == "__debug__") = false) (hk : sc.names.lookup f = some .globalImplicit) : EvL P A h₀ L env own cs cc ct m ρ (.Call (.Name f fp) (e :: es) [] p) d := by
  intro t nw s Q S nm back
  rw [List.all_cons, Bool.and_eq_true, Bool.not_eq_true'] at hp
  refine Call_ (global_fn Y.G Y.X S.st hk hd hn ?_)
  refine callWith_K Y.X.X hkp (E p t nw s _ S nm fun vs t' nw' h' tk' S' sub rv => ⟨Y.X.X.keeps S'.st.F.keep, ?_⟩) (starEach_cons hp.1) (starEach_plain hp.2)
  refine C A h₀ L m ((305, tabObj t'.1) :: (326, tabObj t'.2.2) :: own) nw' _ vs t'.2.1 Q (Y.X.mono hkn) Y.cC (S'.st.sub ?_) (fun q hq => ?_) S'.c rv fun v ps nw2 h2 tk2 S2 sub2 tb rv2 => back v (t'.1, ps, t'.2.2) nw2 h2 tk2 ⟨S2.sub ?_, S'.s.mono sub2, tb, S'.t.mono sub2⟩ (sub.trans sub2) rv2
  · intro p hp
    simp only [List.mem_cons] at hp ⊢
    rcases hp with hp | hp | hp | hp
    · exact .inr (.inl hp)
    · exact .inl hp
    · exact .inr (.inr (.inl hp))
    · exact .inr (.inr (.inr hp))
  · rcases List.mem_cons.mp hq with rfl | hq
    · exact fun z => by cases z
    · rcases List.mem_cons.mp hq with rfl | hq
      · exact fun z => by cases z
      · exact (Y.off q hq).2.1
  · intro p hp
    simp only [List.mem_cons] at hp ⊢
    rcases hp with hp | hp | hp | hp
    · exact .inr (.inl hp)
    · exact .inl hp
    · exact .inr (.inr (.inl hp))
    · exact .inr (.inr (.inr hp))

theorem EvL.tan (Y : LX P n A h₀ L env sc own) {a : Addr} {k : Nat} (hkn : k ≤ n) {e : Expr} {es : List Expr} {f : Str} {fp p : Pos} {ds : List V} {d : V} (C : CvOk P k a 330 326 ct.1 ct.2 ds d) (hn : nsIn P.K mainGlobals f = some (some (.ref a))) (hkp : keepIn P.K (.ref a) = true)
    (E : EvsL P A h₀ L env own cs cc ct m ρ (e :: es) ds) (hp : (e :: es).all (fun e => !isStar e) = true) (hd : (f == "__debug__") = false) (hk : sc.names.lookup f = some .globalImplicit) : EvL P A h₀ L env own cs cc ct m ρ (.Call (.Name f fp) (e :: es) [] p) d := by
  intro t nw s Q S nm back
  rw [List.all_cons, Bool.and_eq_true, Bool.not_eq_true'] at hp
  refine Call_ (global_fn Y.G Y.X S.st hk hd hn ?_)
  refine callWith_K Y.X.X hkp (E p t nw s _ S nm fun vs t' nw' h' tk' S' sub rv => ⟨Y.X.X.keeps S'.st.F.keep, ?_⟩) (starEach_cons hp.1) (starEach_plain hp.2)
  refine C A h₀ L m ((305, tabObj t'.1) :: (312, tabObj t'.2.1) :: own) nw' _ vs t'.2.2 Q (Y.X.mono hkn) Y.cT (S'.st.sub ?_) (fun q hq => ?_) S'.t rv fun v ps nw2 h2 tk2 S2 sub2 tb rv2 => back v (t'.1, t'.2.1, ps) nw2 h2 tk2 ⟨S2.sub ?_, S'.s.mono sub2, S'.c.mono sub2, tb⟩ (sub.trans sub2) rv2
  · intro p hp
    simp only [List.mem_cons] at hp ⊢
    rcases hp with hp | hp | hp | hp
    · exact .inr (.inr (.inl hp))
    · exact .inl hp
    · exact .inr (.inl hp)
    · exact .inr (.inr (.inr hp))
  · rcases List.mem_cons.mp hq with rfl | hq
    · exact fun z => by cases z
    · rcases List.mem_cons.mp hq with rfl | hq
      · exact fun z => by cases z
      · exact (Y.off q hq).2.2
  · intro p hp
    simp only [List.mem_cons] at hp ⊢
    rcases hp with hp | hp | hp | hp
    · exact .inr (.inl hp)
    · exact .inr (.inr (.inl hp))
    · exact .inl hp
    · exact .inr (.inr (.inr hp))

/-- 'if not f(..)' whose call answers True: the body is left out -/
theorem if_not {f : Expr} {as : List Expr} {ks : List Keyword} {p np ip : Pos} {body : List Stmt} (E : EvL P A h₀ L env own cs cc ct m ρ (.Call f as ks p) (.bool true)) {t : Tabs} {nw : Led} {s : Shared} {Q : Flow → Shared → Prop}
    (S : LSt cs cc ct own h₀ L m s.heap t nw) (nm : NmL P.C env m nw ρ) (back : ∀ t' nw' h' tk', LSt cs cc ct own h₀ L m h' t' nw' → Sub nw nw' → Q .next { s with heap := h', toks := tk' }) :
    wpAny (model P.prog P.w) A (exec (.If (.UnaryOp .Not (.Call f as ks p) np) body [] ip) env) Q (fun _ _ => False) s := by
  refine wpAny_If (isTrue_not (isTrue_plain (E t nw s _ S nm fun v t' nw' h' tk' S' sub rv => ?_) rfl))
  cases rv
  exact wpAny_truthy_bool (wpAny_execs_nil (back t' nw' h' tk' S' sub))
end
end Mine

end
-- part M2
section
open PySem PySem.W PySem.Calls PyProof.Rows
set_option Elab.async false
set_option maxRecDepth 100000
set_option maxHeartbeats 8000000
set_option linter.unusedVariables false
namespace Mine
section
variable (o : Ops)
noncomputable def kn_law (K : Int → Int → Int → Int → Int → Option V) (ρ : Rho) : Option V := match look ρ "bits", look ρ "real", look ρ "given" with
  | some (.int b), some (.real m e), some (.tup [.int g0, .int g1]) => K b m e g0 g1
  | _, _, _ => none
noncomputable def ρ_tu (b c : Int) : Rho := [("bits", some (.int b)), ("code", some (.int c)), ("pair", none), ("real", none), ("given", none)]
noncomputable def stL (i : Nat) : Stmt := ((whPart "law" 2).2[i]?).getD (.Return none default)
theorem R_turn (K : Int → Int → Int → Int → Int → Option V) (b c : Int) : rEx (run (cfg o (φ42 o)) 40) (fdef "law").1 (ρ_tu b c) [stL 0, stL 1] (kn_law K) (fun _ => none) = callP (F_law_pair o b c) fun m e => callP (F_law_fraction o m e) fun g0 g1 => K b m e g0 g1 := by kernel_rfl
theorem phi_wave (b g0 g1 x y : Int) (ic : Bool) : φ42 o "_law_is_wave_right" [.int b, pairV g0 g1, .real x y, .bool ic] some = callB (F_law_is_wave_right o b g0 g1 x y ic) fun i => some (.bool i) := by kernel_rfl
theorem phi_tang (b g0 g1 x y : Int) : φ42 o "_law_is_tangent_right" [.int b, pairV g0 g1, .real x y] some = callB (F_law_is_tangent_right o b g0 g1 x y) fun i => some (.bool i) := by kernel_rfl
end
theorem kn_law_inv {K : Int → Int → Int → Int → Int → Option V} {ρ : Rho} {r : V} (h : kn_law K ρ = some r) : ∃ b m e g0 g1, look ρ "bits" = some (.int b) ∧ look ρ "real" = some (.real m e) ∧ look ρ "given" = some (pairV g0 g1) ∧ K b m e g0 g1 = some r := by
  unfold kn_law at h
  split at h
  · rename_i h1 h2 h3; exact ⟨_, _, _, _, _, h1, h2, h3, h⟩
  · cases h
noncomputable def Kmark (b m e g0 g1 : Int) : Option V := some (.list [.int b, .int m, .int e, .int g0, .int g1])

theorem round_inv {b c : Int} (h : F_round opsR b c = some .none) : ∃ m e g0 g1 x1 y1 x2 y2 x3 y3, F_law_pair opsR b c = some (pairV m e) ∧ F_law_fraction opsR m e = some (pairV g0 g1) ∧
    F_sin_real opsR b m e = some (.real x1 y1) ∧ F_law_is_wave_right opsR b g0 g1 x1 y1 false = some (.bool true) ∧
    F_cos_real opsR b m e = some (.real x2 y2) ∧ F_law_is_wave_right opsR b g0 g1 x2 y2 true = some (.bool true) ∧
    F_tan_real opsR b m e = some (.real x3 y3) ∧ F_law_is_tangent_right opsR b g0 g1 x3 y3 = some (.bool true) := by
  unfold F_round at h
  obtain ⟨m, e, h1, h⟩ := callP_inv h
  obtain ⟨g0, g1, h2, h⟩ := callP_inv h
  obtain ⟨x1, y1, h3, h⟩ := callR_inv h
  obtain ⟨q1, h4, h⟩ := callB_inv h
  obtain ⟨rfl, h⟩ := ite_inv h
  obtain ⟨x2, y2, h5, h⟩ := callR_inv h
  obtain ⟨q2, h6, h⟩ := callB_inv h
  obtain ⟨rfl, h⟩ := ite_inv h
  obtain ⟨x3, y3, h7, h⟩ := callR_inv h
  obtain ⟨q3, h8, h⟩ := callB_inv h
  obtain ⟨rfl, h⟩ := ite_inv h
  exact ⟨m, e, g0, g1, x1, y1, x2, y2, x3, y3, h1, h2, h3, h4, h5, h6, h7, h8⟩

section
variable {P : Prm} {n : Nat} {A : Around} {h₀ : Heap} {L : Addr} {env : Env} {sc : Scope} {own : Led} {cs cc ct : Pos × Str} {m : Str → Option Value} {ρ : Rho}
theorem EvL.name (Y : LX P n A h₀ L env sc own) {x : Str} {p : Pos} {d : V} (hl : look ρ x = some d) (hd : (x == "__debug__") = false) : EvL P A h₀ L env own cs cc ct m ρ (.Name x p) d := by
  intro t nw s Q S nm back
  obtain ⟨hk, v, hm, rv⟩ := nm x d hl
  exact wpAny_Name (wpAny_loadName_local Y.G.k hk (m := m) (Y.l ▸ S.st.F.ns) hm (back v t nw s.heap _ (S.mono' S.st .rfl) .rfl rv)) hd
theorem EvL.bool {b : Bool} {k : Nat} {p : Pos} : EvL P A h₀ L env own cs cc ct m ρ (.Constant (.bool b) k p) (.bool b) := by
  intro t nw s Q S nm back
  exact Constant_bool (back _ t nw _ _ S .rfl (.bool b))
theorem LX.senv (Y : LX P n A h₀ L env sc own) : SEnv env L sc := ⟨Y.G, Y.l, fun x h => absurd h (Y.kc x), fun x y c h => by rw [Y.nc] at h; cases h⟩

/-- out of the evaluator's state, back to the law's -/
theorem LSt.back {t : Tabs} {nw nw' : Led} {h h' : Heap} {m' : Str → Option Value} {hid' : Led} (Y : LX P n A h₀ L env sc own) (S : LSt cs cc ct own h₀ L m h t nw) (S' : St h₀ L h' m' hid' nw') (sub : Sub nw nw') (kp : Keep env (hidT own t) hid') :
    LSt cs cc ct own h₀ L m' h' t nw' := ⟨S'.sub fun p hp => kp p hp fun x hx => absurd hx (Y.kc x), S.s.mono sub, S.c.mono sub, S.t.mono sub⟩
theorem nmS_at {t : Tabs} {nw : Led} {h : Heap} {hid : Led} (Y : LX P n A h₀ L env sc own) (S : St h₀ L h m hid nw) (nm : NmS P.C env L m hid nw ρ) {x : Str} {d : V} (hx : look ρ x = some d) (hk : sc.names.lookup x = some .local) : ∃ v, m x = some v ∧ Rep P.C nw v d := by
  obtain ⟨v, hv, r⟩ := nm.nm x d hx
  have hk' : env.kindOf x = some .local := by show env.scope.names.lookup x = _; rw [Y.G.sc]; exact hk
  rcases hv with ⟨_, _, a3⟩ | ⟨c2, o2, a1, _⟩ | ⟨o2, m₂, a1, a2, a3⟩
  · exact ⟨v, a3, r⟩
  · rcases a1 with a1 | a1 <;> rw [hk'] at a1 <;> cases a1
  · exact absurd Y.l (S.N _ (List.mem_append_left _ a2)).2.1
end

noncomputable def ρ_if (b m e g0 g1 : Int) : Rho := [("bits", some (.int b)), ("real", some (.real m e)), ("given", some (pairV g0 g1))]
theorem look_if {b m e g0 g1 : Int} {x : Str} {d : V} (h : look (ρ_if b m e g0 g1) x = some d) : (x = "bits" ∧ d = .int b) ∨ (x = "real" ∧ d = .real m e) ∨ (x = "given" ∧ d = pairV g0 g1) := by
  unfold ρ_if at h
  rw [look_cons] at h
  split at h
  · rename_i q; cases h; exact .inl ⟨eq_of_beq q, rfl⟩
  · rw [look_cons] at h
    split at h
    · rename_i q; cases h; exact .inr (.inl ⟨eq_of_beq q, rfl⟩)
    · rw [look_cons] at h
      split at h
      · rename_i q; cases h; exact .inr (.inr ⟨eq_of_beq q, rfl⟩)
      · cases h

variable {w : World} {loose : List Str} {mean : ExcName → Option Value} {mg mb : Str → Option Value}
/-- the three curves, as the law's frame calls them -/
structure Curves (P : Prm) (cs cc ct : Pos × Str) : Prop where
  s : ∃ a, nsIn P.K mainGlobals "sin_real" = some (some (.ref a)) ∧ keepIn P.K (.ref a) = true ∧ ∀ p m e d, F_sin_real opsR p m e = some d → CvOk P 40 a 309 305 cs.1 cs.2 [.int p, .real m e] d
  c : ∃ a, nsIn P.K mainGlobals "cos_real" = some (some (.ref a)) ∧ keepIn P.K (.ref a) = true ∧ ∀ p m e d, F_cos_real opsR p m e = some d → CvOk P 40 a 316 312 cc.1 cc.2 [.int p, .real m e] d
  t : ∃ a, nsIn P.K mainGlobals "tan_real" = some (some (.ref a)) ∧ keepIn P.K (.ref a) = true ∧ ∀ p m e d, F_tan_real opsR p m e = some d → CvOk P 40 a 330 326 ct.1 ct.2 [.int p, .real m e] d
theorem curves : ∃ cs cc ct, Curves (P0 w loose mean mg mb) cs cc ct := by
  obtain ⟨a1, p1, q1, h1⟩ := sin_at (w := w) (loose := loose) (mean := mean) (mg := mg) (mb := mb)
  obtain ⟨a2, p2, q2, h2⟩ := cos_at (w := w) (loose := loose) (mean := mean) (mg := mg) (mb := mb)
  obtain ⟨a3, p3, q3, h3⟩ := tan_at (w := w) (loose := loose) (mean := mean) (mg := mg) (mb := mb)
  exact ⟨(p1, q1), (p2, q2), (p3, q3), ⟨a1, h1⟩, ⟨a2, h2⟩, ⟨a3, h3⟩⟩

section
variable {A : Around} {h₀ : Heap} {L : Addr} {env : Env} {sc : Scope} {own : Led} {cs cc ct : Pos × Str} {m : Str → Option Value}
/-- one turn of the law's loop -/
theorem turn_ok (CV : Curves (P0 w loose mean mg mb) cs cc ct) (Y : LX (P0 w loose mean mg mb) 60 A h₀ L env sc own) {s0 s1 : Stmt}
    (hR : ∀ b c, rEx (run (cfg opsR (φ42 opsR)) 40) sc (ρ_tu b c) [s0, s1] (kn_law Kmark) (fun _ => none) = callP (F_law_pair opsR b c) fun m e => callP (F_law_fraction opsR m e) fun g0 g1 => Kmark b m e g0 g1)
    (hl : ∀ x ∈ (["bits", "code", "real", "given"] : List Str), sc.names.lookup x = some .local) (hg : ∀ x ∈ (["_law_is_wave_right", "_law_is_tangent_right", "sin_real", "cos_real", "tan_real"] : List Str), sc.names.lookup x = some .globalImplicit)
    {p1 p2 p3 p4 p5 p6 p7 p8 p9 n1 i1 q1 q2 q3 q4 q5 q6 q7 q8 q9 n2 i2 r1 r2 r3 r4 r5 r6 r7 r9 n3 i3 : Pos} {k1 k2 : Nat} {b1 b2 b3 : List Stmt} {b c : Int} {tb tc : Tok} (hF : F_round opsR b c = some .none) (hb : m "bits" = some (.int b tb)) (hc : m "code" = some (.int c tc))
    {t : Tabs} {nw : Led} {s : Shared} {Q : Flow → Shared → Prop} (S : LSt cs cc ct own h₀ L m s.heap t nw)
    (back : ∀ m' t' nw' h' tk' tb', LSt cs cc ct own h₀ L m' h' t' nw' → Sub nw nw' → m' "bits" = some (.int b tb') → Q .next { s with heap := h', toks := tk' }) :
    wpAny (model (P0 w loose mean mg mb).prog (P0 w loose mean mg mb).w) A (execs [s0, s1,
      .If (.UnaryOp .Not (.Call (.Name "_law_is_wave_right" p1) [.Name "bits" p2, .Name "given" p3, .Call (.Name "sin_real" p4) [.Name "bits" p5, .Name "real" p6] [] p7, .Constant (.bool false) k1 p8] [] p9) n1) b1 [] i1,
      .If (.UnaryOp .Not (.Call (.Name "_law_is_wave_right" q1) [.Name "bits" q2, .Name "given" q3, .Call (.Name "cos_real" q4) [.Name "bits" q5, .Name "real" q6] [] q7, .Constant (.bool true) k2 q8] [] q9) n2) b2 [] i2,
      .If (.UnaryOp .Not (.Call (.Name "_law_is_tangent_right" r1) [.Name "bits" r2, .Name "given" r3, .Call (.Name "tan_real" r4) [.Name "bits" r5, .Name "real" r6] [] r7] [] r9) n3) b3 [] i3] env) Q (fun _ _ => False) s := by
  obtain ⟨mm, e, g0, g1, x1, y1, x2, y2, x3, y3, f1, f2, f3, f4, f5, f6, f7, f8⟩ := round_inv hF
  have PH : PhiOk (P0 w loose mean mg mb) 60 (φ42 opsR) := phi42.mono (by decide)
  have hRR := (hR b c).trans (b := _) (c := Kmark b mm e g0 g1) (by
    rw [f1]
    show callP (F_law_fraction opsR mm e) _ = _
    rw [f2]; rfl)
  have nm0 : NmS (P0 w loose mean mg mb).C env L m (hidT own t) nw (ρ_tu b c) := by
    refine ⟨fun x d hx => ?_, fun x cc h => by rw [Y.nc] at h; cases h⟩
    unfold ρ_tu at hx
    rw [look_cons] at hx
    split at hx
    · rename_i q; cases hx; rw [eq_of_beq q]
      exact ⟨_, .inl ⟨by show env.scope.names.lookup _ = _; rw [Y.G.sc]; exact hl _ (by simp), Y.l, hb⟩, .int b tb⟩
    · rw [look_cons] at hx
      split at hx
      · rename_i q; cases hx; rw [eq_of_beq q]
        exact ⟨_, .inl ⟨by show env.scope.names.lookup _ = _; rw [Y.G.sc]; exact hl _ (by simp), Y.l, hc⟩, .int c tc⟩
      · rw [look_cons] at hx
        split at hx
        · cases hx
        · rw [look_cons] at hx
          split at hx
          · cases hx
          · rw [look_cons] at hx
            split at hx <;> cases hx
  refine heads_ok (P := P0 w loose mean mg mb) prmOk (conOk (φ42 opsR) none) PH (k := 37) hRR Y.senv Y.X S.st nm0 (fun x g e => by cases e) (fun d v m' hid' nw' h' tk' q => by cases q) ?_
  intro ρ' m' hid' nw' h' tk' hk S' sub kp nm'
  obtain ⟨b', mm', e', g0', g1', l1, l2, l3, hK⟩ := kn_law_inv hk
  cases hK
  have S1 : LSt cs cc ct own h₀ L m' h' t nw' := S.back Y S' sub kp
  obtain ⟨v1, hv1, rv1⟩ := nmS_at (t := t) Y S' nm' l1 (hl _ (by simp))
  obtain ⟨v2, hv2, rv2⟩ := nmS_at (t := t) Y S' nm' l2 (hl _ (by simp))
  obtain ⟨v3, hv3, rv3⟩ := nmS_at (t := t) Y S' nm' l3 (hl _ (by simp))
  have NM : NmL (P0 w loose mean mg mb).C env m' nw' (ρ_if b mm e g0 g1) := fun x d hx => by
    have hk' : ∀ x, x ∈ (["bits", "code", "real", "given"] : List Str) → env.kindOf x = some .local := fun x hx => by show env.scope.names.lookup x = _; rw [Y.G.sc]; exact hl x hx
    rcases look_if hx with ⟨rfl, rfl⟩ | ⟨rfl, rfl⟩ | ⟨rfl, rfl⟩
    · exact ⟨hk' _ (by simp), v1, hv1, rv1⟩
    · exact ⟨hk' _ (by simp), v2, hv2, rv2⟩
    · exact ⟨hk' _ (by simp), v3, hv3, rv3⟩
  have Eb : ∀ p, EvL (P0 w loose mean mg mb) A h₀ L env own cs cc ct m' (ρ_if b mm e g0 g1) (.Name "bits" p) (.int b) := fun p => EvL.name Y (by rfl) rfl
  have Er : ∀ p, EvL (P0 w loose mean mg mb) A h₀ L env own cs cc ct m' (ρ_if b mm e g0 g1) (.Name "real" p) (.real mm e) := fun p => EvL.name Y (by rfl) rfl
  have Eg : ∀ p, EvL (P0 w loose mean mg mb) A h₀ L env own cs cc ct m' (ρ_if b mm e g0 g1) (.Name "given" p) (pairV g0 g1) := fun p => EvL.name Y (by rfl) rfl
  obtain ⟨⟨aS, nS, kS, cS⟩, ⟨aC, nC, kC, cC⟩, ⟨aT, nT, kT, cT⟩⟩ := CV
  have ES : EvL (P0 w loose mean mg mb) A h₀ L env own cs cc ct m' (ρ_if b mm e g0 g1) (.Call (.Name "sin_real" p4) [.Name "bits" p5, .Name "real" p6] [] p7) (.real x1 y1) :=
    EvL.sin Y (by decide) (cS _ _ _ _ f3) nS kS (.cons rfl (Eb _) (.cons rfl (Er _) .nil)) rfl rfl (hg _ (by simp))
  have EC : EvL (P0 w loose mean mg mb) A h₀ L env own cs cc ct m' (ρ_if b mm e g0 g1) (.Call (.Name "cos_real" q4) [.Name "bits" q5, .Name "real" q6] [] q7) (.real x2 y2) :=
    EvL.cos Y (by decide) (cC _ _ _ _ f5) nC kC (.cons rfl (Eb _) (.cons rfl (Er _) .nil)) rfl rfl (hg _ (by simp))
  have ET : EvL (P0 w loose mean mg mb) A h₀ L env own cs cc ct m' (ρ_if b mm e g0 g1) (.Call (.Name "tan_real" r4) [.Name "bits" r5, .Name "real" r6] [] r7) (.real x3 y3) :=
    EvL.tan Y (by decide) (cT _ _ _ _ f7) nT kT (.cons rfl (Eb _) (.cons rfl (Er _) .nil)) rfl rfl (hg _ (by simp))
  refine wpAny_execs_cons (if_not (EvL.fn PH Y (.cons rfl (Eb _) (.cons rfl (Eg _) (.cons rfl ES (.cons rfl .bool .nil)))) rfl rfl (hg _ (by simp)) ((phi_wave opsR b g0 g1 x1 y1 false).trans (by rw [f4]; rfl))) S1 NM fun t2 nw2 h2 tk2 S2 sub2 => ?_)
  refine wpAny_execs_cons (if_not (EvL.fn PH Y (.cons rfl (Eb _) (.cons rfl (Eg _) (.cons rfl EC (.cons rfl .bool .nil)))) rfl rfl (hg _ (by simp)) ((phi_wave opsR b g0 g1 x2 y2 true).trans (by rw [f6]; rfl))) S2 (NM.mono sub2) fun t3 nw3 h3 tk3 S3 sub3 => ?_)
  refine wpAny_execs_cons (if_not (EvL.fn PH Y (.cons rfl (Eb _) (.cons rfl (Eg _) (.cons rfl ET .nil))) rfl rfl (hg _ (by simp)) ((phi_tang opsR b g0 g1 x3 y3).trans (by rw [f8]; rfl))) S3 (NM.mono (sub2.trans sub3)) fun t4 nw4 h4 tk4 S4 sub4 => ?_)
  refine wpAny_execs_nil ?_
  cases rv1
  exact back m' t4 nw4 h4 tk4 _ S4 (sub.trans (sub2.trans (sub3.trans sub4))) hv1
end
end Mine

end
-- part M3
section
open PySem PySem.W PySem.Calls PyProof.Rows
set_option Elab.async false
set_option maxRecDepth 100000
set_option maxHeartbeats 8000000
set_option linter.unusedVariables false
namespace Mine
variable {w : World} {loose : List Str} {mean : ExcName → Option Value} {mg mb : Str → Option Value}
section
variable {A : Around} {h₀ : Heap} {env : Env} {sc : Scope} {cs cc ct : Pos × Str} {m : Str → Option Value}
noncomputable def JL (cs cc ct : Pos × Str) (b : Int) (l : Addr) (m : Str → Option Value) (news : Led) : Prop :=
  ∃ (t : Tabs) (nw : Led) (tb : Tok), news = hidT [] t ++ nw ∧ (∀ p ∈ nw, p.1 ≠ l ∧ p.1 ≠ 305 ∧ p.1 ≠ 312 ∧ p.1 ≠ 326) ∧ TabSt cs.1 cs.2 t.1 nw ∧ TabSt cc.1 cc.2 t.2.1 nw ∧ TabSt ct.1 ct.2 t.2.2 nw ∧ m "bits" = some (.int b tb)

theorem iter_law (CV : Curves (P0 w loose mean mg mb) cs cc ct) (hX : ∀ own, (∀ q ∈ own, q.1 ≠ 305 ∧ q.1 ≠ 312 ∧ q.1 ≠ 326) → LX (P0 w loose mean mg mb) 60 A h₀ env.locals env sc own) {s0 s1 : Stmt}
    (hR : ∀ b c, rEx (run (cfg opsR (φ42 opsR)) 40) sc (ρ_tu b c) [s0, s1] (kn_law Kmark) (fun _ => none) = callP (F_law_pair opsR b c) fun m e => callP (F_law_fraction opsR m e) fun g0 g1 => Kmark b m e g0 g1)
    (hl : ∀ x ∈ (["bits", "code", "real", "given"] : List Str), sc.names.lookup x = some .local) (hg : ∀ x ∈ (["_law_is_wave_right", "_law_is_tangent_right", "sin_real", "cos_real", "tan_real"] : List Str), sc.names.lookup x = some .globalImplicit)
    {p1 p2 p3 p4 p5 p6 p7 p8 p9 n1 i1 q1 q2 q3 q4 q5 q6 q7 q8 q9 n2 i2 r1 r2 r3 r4 r5 r6 r7 r9 n3 i3 : Pos} {k1 k2 : Nat} {b1 b2 b3 : List Stmt} {b : Int} {tb : Tok} {s : Shared} {Q : Flow → Shared → Prop} {E : Value → Shared → Prop}
    {l : Addr} {vs : List Value} {ns : List Int} (hi : IntsAre vs ns) (hls : s.heap.IsList l vs.toArray) (hln : h₀.get? l = none) (hlL : l ≠ env.locals) (hlT : l ≠ 305 ∧ l ≠ 312 ∧ l ≠ 326)
    (F : Fr h₀ env.locals s.heap m) (N : News h₀ env.locals s.heap (hidT [] (#[], #[], #[]))) (hb : m "bits" = some (.int b tb)) (hall : ∀ c ∈ ns, F_round opsR b c = some .none)
    (done : ∀ m' t' nw' h' tk' tb', LSt cs cc ct [] h₀ env.locals m' h' t' nw' → m' "bits" = some (.int b tb') → Q .next { s with heap := h', toks := tk' }) :
    wpAny (model (P0 w loose mean mg mb).prog (P0 w loose mean mg mb).w) A (pyIter (.ref l)) (fun it s₂ => LoopAtU (P0 w loose mean mg mb).prog (P0 w loose mean mg mb).w A h₀ env "code" [s0, s1,
      .If (.UnaryOp .Not (.Call (.Name "_law_is_wave_right" p1) [.Name "bits" p2, .Name "given" p3, .Call (.Name "sin_real" p4) [.Name "bits" p5, .Name "real" p6] [] p7, .Constant (.bool false) k1 p8] [] p9) n1) b1 [] i1,
      .If (.UnaryOp .Not (.Call (.Name "_law_is_wave_right" q1) [.Name "bits" q2, .Name "given" q3, .Call (.Name "cos_real" q4) [.Name "bits" q5, .Name "real" q6] [] q7, .Constant (.bool true) k2 q8] [] q9) n2) b2 [] i2,
      .If (.UnaryOp .Not (.Call (.Name "_law_is_tangent_right" r1) [.Name "bits" r2, .Name "given" r3, .Call (.Name "tan_real" r4) [.Name "bits" r5, .Name "real" r6] [] r7] [] r9) n3) b3 [] i3] Q E it s₂) E s := by
  have hh : A.handled = none := (hX [] (fun _ h => nomatch h)).X.hh
  obtain ⟨ol, hol, _⟩ := id hls
  have hne : l ≠ s.heap.objs.size := Nat.ne_of_lt (Heap.lt_size hol)
  refine wpAny_pyIter_list hls ?_
  have W := Walks.list (prog := (P0 w loose mean mg mb).prog) (w := (P0 w loose mean mg mb).w) hh s.heap.objs.size l hne vs.toArray
  have hlen : vs.toArray.size = ns.length := by simp [hi.length]
  rw [hlen] at W
  refine ⟨_, _, _, ns.length, _, _, m, _, fun _ m' news' => JL cs cc ct b l m' news', rfl, W, ?_, ?_, ?_, ⟨⟨_, Heap.get?_push_size _ rfl, rfl, rfl⟩, hls.at fun o e => Heap.get?_push_of_some _ e⟩, F.push _, (fun p hp => ⟨Heap.get?_push_of_some _ (N p hp).1, (N p hp).2⟩), ⟨(#[], #[], #[]), [], tb, (List.append_nil _).symm, fun _ h => (nomatch h), .inl rfl, .inl rfl, .inl rfl, hb⟩, ?_, ?_⟩
  · intro hm
    rcases List.mem_cons.mp hm with e | hm
    · exact absurd F.ns.lt (e ▸ Nat.lt_irrefl _)
    · exact hlL (List.mem_singleton.mp hm).symm
  · intro b hb
    rw [List.mem_singleton.mp hb]
    exact next_is_new F
  · intro p hp hI
    exact absurd (Heap.lt_size (N p hp).1) ((List.mem_singleton.mp hI) ▸ Nat.lt_irrefl _)
  · intro i v m₁ news₁ s₁ own hin hP hJ hoff hown hlive hfp hst F₁ N₁
    obtain ⟨t, nw, tb', rfl, hnw, tS, tC, tT, hb'⟩ := hJ
    obtain ⟨n, hn, ⟨tk, rfl⟩⟩ : ∃ n, ns[i]? = some n ∧ ∃ tk, v = .int n tk := by
      have hv : vs[i]? = some v := by simpa using hP
      obtain ⟨n, t, e, h⟩ := hi.at i v hv
      exact ⟨n, h, t, e⟩
    have offI : ∀ p ∈ hidT [] t ++ nw, p.1 ≠ s.heap.objs.size := fun p hp e => hoff p hp (List.mem_singleton.mpr e)
    have hofO : ∀ q ∈ own, q.1 ≠ 305 ∧ q.1 ≠ 312 ∧ q.1 ≠ 326 := fun q hq => by
      rcases List.mem_cons.mp (hown q hq) with e | e
      · rw [e]
        exact ⟨(offI (305, _) (.head _)).symm, (offI (312, _) (.tail _ (.head _))).symm, (offI (326, _) (.tail _ (.tail _ (.head _)))).symm⟩
      · rw [List.mem_singleton.mp e]; exact hlT
    have S : LSt cs cc ct own h₀ env.locals (fun y => if y = "code" then some (.int n tk) else m₁ y) s₁.heap t nw := by
      refine ⟨⟨F₁, fun p hp => N₁ p ?_, fun p hp q hq => ?_⟩, tS, tC, tT⟩
      · simp only [hidT, List.cons_append, List.mem_cons, List.mem_append, List.nil_append] at hp ⊢
        rcases hp with h | h | h | h | h
        · exact .inr (.inl h)
        · exact .inr (.inr (.inl h))
        · exact .inr (.inr (.inr (.inl h)))
        · exact .inl h
        · exact .inr (.inr (.inr (.inr h)))
      · obtain ⟨z0, z1, z2, z3⟩ := hnw p hp
        simp only [hidT, List.mem_cons] at hq
        rcases hq with rfl | rfl | rfl | hq
        · exact z1
        · exact z2
        · exact z3
        · rcases List.mem_cons.mp (hown q hq) with e | e
          · rw [e]; exact offI p (List.mem_append_right _ hp)
          · rw [List.mem_singleton.mp e]; exact z0
    have Y := hX own hofO
    refine wpAny_mono (turn_ok CV Y hR hl hg (hall n (List.mem_of_getElem? hn)) (tb := tb') (tc := tk) (by show (if _ then _ else _) = _; rw [if_neg (by decide)]; exact hb') (by show (if _ then _ else _) = _; rw [if_pos rfl]) S (Q := LoopStepU h₀ env.locals [s.heap.objs.size] own (fun m' news' => JL cs cc ct b l m' news') s₁) fun m' t' nw' h' tk' tb2 S' sub hb2 => ?_) (fun _ _ q => q) (fun _ _ q => q.elim)
    have lo : ∃ o, (l, o) ∈ own := by
      obtain ⟨o, ho, _⟩ := hst.2
      exact ⟨o, hfp l (by simp) hln o ho⟩
    have lI : ∃ o, (s.heap.objs.size, o) ∈ own := by
      obtain ⟨o, ho, _⟩ := hst.1
      exact ⟨o, hfp _ (.head _) (next_is_new F) o ho⟩
    obtain ⟨o1, lo⟩ := lo
    obtain ⟨o2, lI⟩ := lI
    have hsub : ∀ p ∈ own, p ∈ hidT own t' := fun p hp => .tail _ (.tail _ (.tail _ hp))
    refine LoopStepU.intro S'.st.F (news₂ := hidT [] t' ++ nw') (fun p hp => ?_) (fun p hp hq => ?_) ⟨t', nw', tb2, rfl, fun p hp => ⟨S'.st.ap p hp _ (hsub _ lo), S'.st.ap p hp _ (.head _), S'.st.ap p hp _ (.tail _ (.head _)), S'.st.ap p hp _ (.tail _ (.tail _ (.head _)))⟩, S'.s, S'.c, S'.t, hb2⟩
    · refine S'.st.N p ?_
      simp only [hidT, List.cons_append, List.mem_cons, List.mem_append, List.nil_append] at hp ⊢
      rcases hp with h | h | h | h | h
      · exact .inr (.inr (.inr (.inl h)))
      · exact .inl h
      · exact .inr (.inl h)
      · exact .inr (.inr (.inl h))
      · exact .inr (.inr (.inr (.inr h)))
    · have hq := List.mem_singleton.mp hq
      simp only [hidT, List.cons_append, List.mem_cons, List.nil_append] at hp
      have tq : ∀ z, z = 305 ∨ z = 312 ∨ z = 326 → z ≠ s.heap.objs.size := fun z hz e => by
        have := hofO _ lI
        rcases hz with h | h | h
        · exact this.1 (e ▸ h)
        · exact this.2.1 (e ▸ h)
        · exact this.2.2 (e ▸ h)
      rcases hp with rfl | rfl | rfl | hp
      · exact tq _ (.inl rfl) hq
      · exact tq _ (.inr (.inl rfl)) hq
      · exact tq _ (.inr (.inr rfl)) hq
      · exact S'.st.ap p hp _ (hsub _ lI) hq
  · intro h' tk m' news' F' N' hoff hJ
    obtain ⟨t, nw, tb', rfl, hnw, tS, tC, tT, hb'⟩ := hJ
    refine done m' t nw h' tk tb' ⟨⟨F', N', fun p hp q hq => ?_⟩, tS, tC, tT⟩ hb'
    obtain ⟨z0, z1, z2, z3⟩ := hnw p hp
    simp only [hidT, List.mem_cons] at hq
    rcases hq with rfl | rfl | rfl | hq
    · exact z1
    · exact z2
    · exact z3
    · cases hq
end
end Mine

end
-- part M4
section
open PySem PySem.W PySem.Calls PyProof.Rows
set_option Elab.async false
set_option maxRecDepth 100000
set_option maxHeartbeats 8000000
set_option linter.unusedVariables false
namespace Mine
theorem phi_real (o : Ops) (i e : Int) : φ42 o "Real" [.int i, .int e] some = some (.real i e) := by kernel_rfl

section
variable {P : Prm} {n : Nat} {A : Around} {h₀ : Heap} {L : Addr} {env : Env} {sc : Scope} {own : Led} {cs cc ct : Pos × Str} {m : Str → Option Value} {ρ : Rho}
theorem EvL.int {i : Int} {k : Nat} {p : Pos} : EvL P A h₀ L env own cs cc ct m ρ (.Constant (.int i) k p) (.int i) := by
  intro t nw s Q S nm back
  exact wpAny_Constant_int (back _ t nw _ _ ⟨S.st.same S.st.F S.st.N, S.s, S.c, S.t⟩ .rfl (.int i _))
theorem EvL.list {es : List Expr} {ds : List V} {p : Pos} (E : EvsL P A h₀ L env own cs cc ct m ρ es ds) (hl : ds.length ≤ 1000) : EvL P A h₀ L env own cs cc ct m ρ (.List es p) (.list ds) := by
  intro t nw s Q S nm back
  refine List_ (E p t nw s _ S nm fun vs t' nw' h' tk' S' sub rv => ?_)
  refine newList_K S'.st.F S'.st.N (fun D h'' F N lt => back _ t' _ _ _ (S'.mono' (St.alloc F N S'.st.ap (ne_of_lt_led lt)) .cons) (sub.trans .cons) (.list (.head _) (rv.mono .cons))) ?_
  rw [rv.length, sizeLine_eq]; omega
theorem rep_pair {C : Addr} {hid nw : Led} {h : Heap} {v : Value} {a b : Int} (N : News h₀ L h (hid ++ nw)) (r : Rep C nw v (pairV a b)) : ∃ as, Reads h v (.tuple [.int a, .int b]) as := by
  cases r with
  | tup hm hr =>
    rename_i ad vs k
    obtain ⟨vs⟩ := vs
    cases hr with | cons r1 hr =>
    cases hr with | cons r2 hr =>
    cases hr
    cases r1
    cases r2
    exact ⟨_, reads_tuple_at (N.get (List.mem_append_right _ hm)) rfl rfl (.cons (.int _ _) (.cons (.int _ _) .nil))⟩
theorem rep_list3 {C : Addr} {hid nw : Led} {h : Heap} {v : Value} {a b c d e f : Int} (N : News h₀ L h (hid ++ nw)) (r : Rep C nw v (.list [pairV a b, pairV c d, pairV e f])) : ∃ as, Reads h v (.list [.tuple [.int a, .int b], .tuple [.int c, .int d], .tuple [.int e, .int f]]) as := by
  cases r with
  | list hm hr =>
    rename_i ad vs k
    obtain ⟨vs⟩ := vs
    cases hr with | cons r1 hr =>
    cases hr with | cons r2 hr =>
    cases hr with | cons r3 hr =>
    cases hr
    obtain ⟨_, z1⟩ := rep_pair N r1
    obtain ⟨_, z2⟩ := rep_pair N r2
    obtain ⟨_, z3⟩ := rep_pair N r3
    exact ⟨_, reads_list_at (N.get (List.mem_append_right _ hm)) rfl rfl (.cons z1 (.cons z2 (.cons z3 .nil)))⟩
end
noncomputable def ρ_so : Rho := [("some", some (.list [.real 0 0, .real 1 0, .real 0 0]))]
variable {w : World} {loose : List Str} {mean : ExcName → Option Value} {mg mb : Str → Option Value}
section
variable {A : Around} {h₀ : Heap} {L : Addr} {env : Env} {sc : Scope} {own : Led} {cs cc ct : Pos × Str} {m : Str → Option Value}
theorem some_ok (CV : Curves (P0 w loose mean mg mb) cs cc ct) (Y : LX (P0 w loose mean mg mb) 60 A h₀ L env sc own)
    (hl : ∀ x ∈ (["bits", "some"] : List Str), sc.names.lookup x = some .local) (hg : ∀ x ∈ (["Real", "sin_real", "cos_real", "tan_real"] : List Str), sc.names.lookup x = some .globalImplicit)
    {p1 p2 p3 p4 p5 p6 p7 q1 q2 q3 q4 q5 q6 q7 r1 r2 r3 r4 r5 r6 r7 tp lp sp cp ip : Pos} {k1 k2 k3 k4 k5 k6 : Nat} {b1 rest : List Stmt} {lc rhs : Expr} {b : Int} {tb : Tok}
    (hsw : swapsWith (.List [.Call (.Name "sin_real" p1) [.Name "bits" p2, .Call (.Name "Real" p3) [.Constant (.int 0) k1 p4, .Constant (.int 0) k2 p5] [] p6] [] p7, .Call (.Name "cos_real" q1) [.Name "bits" q2, .Call (.Name "Real" q3) [.Constant (.int 0) k3 q4, .Constant (.int 0) k4 q5] [] q6] [] q7,
      .Call (.Name "tan_real" r1) [.Name "bits" r2, .Call (.Name "Real" r3) [.Constant (.int 0) k5 r4, .Constant (.int 0) k6 r5] [] r6] [] r7] lp) (some (.Name "some" tp)) sp.line (dEnv sc) = .pure false)
    (hlc : rEv (run (cfg opsR (φ42 opsR)) 40) sc ρ_so lc some = some (.list [pairV 0 0, pairV 1 0, pairV 0 0])) (hrhs : rEv (run (cfg opsR (φ42 opsR)) 40) sc ρ_so rhs some = some (.list [pairV 0 0, pairV 1 0, pairV 0 0])) (hbm : behindInMarks .NotEq rhs = false)
    (fS : F_sin_real opsR b 0 0 = some (.real 0 0)) (fC : F_cos_real opsR b 0 0 = some (.real 1 0)) (fT : F_tan_real opsR b 0 0 = some (.real 0 0)) (hb : m "bits" = some (.int b tb))
    {t : Tabs} {nw : Led} {s : Shared} {Q : Flow → Shared → Prop} (S : LSt cs cc ct own h₀ L m s.heap t nw)
    (back : ∀ m' t' nw' h' tk', LSt cs cc ct own h₀ L m' h' t' nw' → Sub nw nw' → m' "bits" = some (.int b tb) → wpAny (model (P0 w loose mean mg mb).prog (P0 w loose mean mg mb).w) A (execs rest env) Q (fun _ _ => False) { s with heap := h', toks := tk' }) :
    wpAny (model (P0 w loose mean mg mb).prog (P0 w loose mean mg mb).w) A (execs (.Assign [.Name "some" tp] (.List [.Call (.Name "sin_real" p1) [.Name "bits" p2, .Call (.Name "Real" p3) [.Constant (.int 0) k1 p4, .Constant (.int 0) k2 p5] [] p6] [] p7, .Call (.Name "cos_real" q1) [.Name "bits" q2, .Call (.Name "Real" q3) [.Constant (.int 0) k3 q4, .Constant (.int 0) k4 q5] [] q6] [] q7,
      .Call (.Name "tan_real" r1) [.Name "bits" r2, .Call (.Name "Real" r3) [.Constant (.int 0) k5 r4, .Constant (.int 0) k6 r5] [] r6] [] r7] lp) sp :: .If (.Compare lc [.NotEq] [rhs] cp) b1 [] ip :: rest) env) Q (fun _ _ => False) s := by
  have PH : PhiOk (P0 w loose mean mg mb) 60 (φ42 opsR) := phi42.mono (by decide)
  have hk' : ∀ x, x ∈ (["bits", "some"] : List Str) → env.kindOf x = some .local := fun x hx => by show env.scope.names.lookup x = _; rw [Y.G.sc]; exact hl x hx
  have NM : NmL (P0 w loose mean mg mb).C env m nw [("bits", some (.int b))] := fun x d hx => by
    rw [look_cons] at hx
    split at hx
    · rename_i q; cases hx; rw [eq_of_beq q]; exact ⟨hk' _ (by simp), _, hb, .int b tb⟩
    · cases hx
  have Eb : ∀ p, EvL (P0 w loose mean mg mb) A h₀ L env own cs cc ct m [("bits", some (.int b))] (.Name "bits" p) (.int b) := fun p => EvL.name Y (by rfl) rfl
  obtain ⟨⟨aS, nS, kS, cS⟩, ⟨aC, nC, kC, cC⟩, ⟨aT, nT, kT, cT⟩⟩ := CV
  have ER : ∀ (f p1 p2 p3 : Pos) (k1 k2 : Nat), EvL (P0 w loose mean mg mb) A h₀ L env own cs cc ct m [("bits", some (.int b))] (.Call (.Name "Real" f) [.Constant (.int 0) k1 p1, .Constant (.int 0) k2 p2] [] p3) (.real 0 0) := fun f p1 p2 p3 k1 k2 =>
    EvL.fn PH Y (.cons rfl .int (.cons rfl .int .nil)) rfl rfl (hg _ (by simp)) (phi_real opsR 0 0)
  have ES : EvL (P0 w loose mean mg mb) A h₀ L env own cs cc ct m [("bits", some (.int b))] (.Call (.Name "sin_real" p1) [.Name "bits" p2, .Call (.Name "Real" p3) [.Constant (.int 0) k1 p4, .Constant (.int 0) k2 p5] [] p6] [] p7) (.real 0 0) :=
    EvL.sin Y (by decide) (cS _ _ _ _ fS) nS kS (.cons rfl (Eb _) (.cons rfl (ER _ _ _ _ _ _) .nil)) rfl rfl (hg _ (by simp))
  have EC : EvL (P0 w loose mean mg mb) A h₀ L env own cs cc ct m [("bits", some (.int b))] (.Call (.Name "cos_real" q1) [.Name "bits" q2, .Call (.Name "Real" q3) [.Constant (.int 0) k3 q4, .Constant (.int 0) k4 q5] [] q6] [] q7) (.real 1 0) :=
    EvL.cos Y (by decide) (cC _ _ _ _ fC) nC kC (.cons rfl (Eb _) (.cons rfl (ER _ _ _ _ _ _) .nil)) rfl rfl (hg _ (by simp))
  have ET : EvL (P0 w loose mean mg mb) A h₀ L env own cs cc ct m [("bits", some (.int b))] (.Call (.Name "tan_real" r1) [.Name "bits" r2, .Call (.Name "Real" r3) [.Constant (.int 0) k5 r4, .Constant (.int 0) k6 r5] [] r6] [] r7) (.real 0 0) :=
    EvL.tan Y (by decide) (cT _ _ _ _ fT) nT kT (.cons rfl (Eb _) (.cons rfl (ER _ _ _ _ _ _) .nil)) rfl rfl (hg _ (by simp))
  refine wpAny_execs_cons (wpAny_Assign_Name (EvL.list (.cons rfl ES (.cons rfl EC (.cons rfl ET .nil))) (by decide) t nw s _ S NM fun v t2 nw2 h2 tk2 S2 sub2 rv => ?_) ((swaps_eq Y.G.sc).trans hsw))
  refine wpAny_storeName_local (hk' "some" (by simp)) (m := m) (Y.l ▸ S2.st.F.ns) (fun h3 hn3 hb3 => ?_) (by rw [Y.G.k]; rfl)
  rw [Y.l] at hn3 hb3
  have S3 : LSt cs cc ct own h₀ L (fun y => if y = "some" then some v else m y) h3 t2 nw2 := ⟨⟨S2.st.F.set hn3 hb3, S2.st.N.set hb3, S2.st.ap⟩, S2.s, S2.c, S2.t⟩
  have NM3 : NmL (P0 w loose mean mg mb).C env (fun y => if y = "some" then some v else m y) nw2 ρ_so := fun x d hx => by
    unfold ρ_so at hx
    rw [look_cons] at hx
    split at hx
    · rename_i q; cases hx; rw [eq_of_beq q]; exact ⟨hk' _ (by simp), v, by simp, rv⟩
    · cases hx
  obtain ⟨d1, e1, EL⟩ := (run_ok (P := P0 w loose mean mg mb) prmOk (conOk (φ42 opsR) none) PH 40).ev _ _ _ _ _ hlc
  obtain ⟨d2, e2, ER2⟩ := (run_ok (P := P0 w loose mean mg mb) prmOk (conOk (φ42 opsR) none) PH 40).ev _ _ _ _ _ hrhs
  cases e1
  cases e2
  refine wpAny_execs_cons (wpAny_If (wpAny_isTrue_Compare1 (EvL.of_ev Y EL rfl t2 nw2 _ _ S3 NM3 fun v4 t4 nw4 h4 tk4 S4 sub4 r4 => ?_) hbm))
  refine EvL.of_ev Y ER2 rfl t4 nw4 _ _ S4 (NM3.mono sub4) fun v5 t5 nw5 h5 tk5 S5 sub5 r5 => ?_
  obtain ⟨_, z4⟩ := rep_list3 S5.st.N (r4.mono sub5)
  obtain ⟨_, z5⟩ := rep_list3 S5.st.N r5
  refine ne_dataH z4 z5 rfl rfl (by have := Y.X.hu; omega) ?_
  refine wpAny_truthy_bool ?_
  show wpAny _ _ _ _ _ _
  refine wpAny_execs_nil ?_
  exact back _ t5 nw5 h5 tk5 S5 (sub2.trans (sub4.trans sub5)) (by show (if _ then _ else _) = _; rw [if_neg (by decide)]; exact hb)
end
end Mine

end
-- part M5
section
open PySem PySem.W PySem.Calls PyProof.Rows
set_option Elab.async false
set_option maxRecDepth 100000
set_option maxHeartbeats 8000000
set_option linter.unusedVariables false
namespace Mine
/-! the law's codes: only their rest matters -/
theorem isOk_eq {x : Option V} (h : isOk x = true) : x = some .none := by
  unfold isOk at h
  split at h
  · rfl
  · cases h
theorem ok_at {b : Int} {i n : Nat} (h : okRange b i n = true) {c : Nat} (h1 : i ≤ c) (h2 : c < i + n) : F_round opsR b c = some .none := by
  have := List.all_eq_true.mp h c (List.mem_range'_1.mpr ⟨h1, h2⟩)
  exact isOk_eq this
theorem divR_small {x y : Int} (hy : y ≠ 0) (hs : (if y == 0 then 0 else y.natAbs.log2 / 30 + 1 : Nat) ≤ 300) : divOkR x y = true := by
  unfold divOkR Builtin.divisionGoesByPylong
  simp only [Bool.and_eq_true, Bool.not_eq_true', beq_eq_false_iff_ne]
  refine ⟨hy, ?_⟩
  have : decide ((if y == 0 then 0 else y.natAbs.log2 / 30 + 1 : Nat) > 300) = false := decide_eq_false (by omega)
  rw [Bool.and_eq_false_iff]
  exact .inl this
noncomputable def pairPure (b c : Int) (sz : Int) : Option V :=
  if ((c / sz / 3) % 2 == 0) = true then callP (F_law_odd opsR (c % sz + 1) ((c / sz) % 3 - b)) fun x y => some (pairV x y)
  else callP (F_law_odd opsR (0 - (c % sz + 1)) ((c / sz) % 3 - b)) fun x y => some (pairV x y)
theorem pair_eq {b c sz : Int} (hb : powOkR 2 b = true) (hsz : (2 : Int) ^ b.toNat = sz) (hp : 0 < sz) (hs : (if sz == 0 then 0 else sz.natAbs.log2 / 30 + 1 : Nat) ≤ 300) : F_law_pair opsR b c = pairPure b c sz := by
  unfold F_law_pair
  rw [hsz]
  have e1 : opsR.powOk 2 b = true := hb
  have e2 : opsR.divOk c sz = true := divR_small (by omega) hs
  have e3 : opsR.divOk (c.fdiv sz) 3 = true := divR_small (x := c.fdiv sz) (y := 3) (by decide) (by decide)
  have e4 : (sz == 0) = false := by simp; omega
  rw [if_pos e1, if_pos e2, if_neg (by rw [e4]; exact Bool.false_ne_true), if_pos e3]
  have f1 : c.fdiv sz = c / sz := Int.fdiv_eq_ediv_of_nonneg c (by omega)
  have f2 : ∀ a : Int, a.fdiv 3 = a / 3 := fun a => Int.fdiv_eq_ediv_of_nonneg a (by decide)
  have f3 : ∀ a : Int, a.fmod 2 = a % 2 := fun a => Int.fmod_eq_emod_of_nonneg a (by decide)
  have f4 : ∀ a : Int, a.fmod 3 = a % 3 := fun a => Int.fmod_eq_emod_of_nonneg a (by decide)
  have f5 : c.fmod sz = c % sz := Int.fmod_eq_emod_of_nonneg c (by omega)
  simp only [f1, f2, f3, f4, f5]
  rfl
theorem pairPure_mod {b c sz : Int} (hp : 0 < sz) : pairPure b c sz = pairPure b (c % (6 * sz)) sz := by
  have h1 : c % (6 * sz) % sz = c % sz := Int.emod_emod_of_dvd c ⟨6, by rw [Int.mul_comm]⟩
  have h2 : c % (6 * sz) / sz = c / sz % 6 := by
    have h3 : c % (6 * sz) = c - 6 * sz * (c / (6 * sz)) := Int.emod_def c (6 * sz)
    have h4 : c / (6 * sz) = c / sz / 6 := by rw [Int.mul_comm 6 sz, Int.ediv_ediv_of_nonneg (by omega)]
    rw [h3, h4]
    have h5 : c - 6 * sz * (c / sz / 6) = c + -(6 * (c / sz / 6)) * sz := by
      rw [Int.neg_mul, Int.mul_assoc, Int.mul_assoc, Int.mul_comm sz (c / sz / 6)]; omega
    rw [h5, Int.add_mul_ediv_right _ _ (by omega)]
    omega
  unfold pairPure
  rw [h1, h2]
  have h6 : (c / sz % 6) / 3 % 2 = c / sz / 3 % 2 := by omega
  have h7 : (c / sz % 6) % 3 = c / sz % 3 := by omega
  rw [h6, h7]
theorem round_mod {b c sz : Int} (hb : powOkR 2 b = true) (hsz : (2 : Int) ^ b.toNat = sz) (hp : 0 < sz) (hs : (if sz == 0 then 0 else sz.natAbs.log2 / 30 + 1 : Nat) ≤ 300) : F_round opsR b c = F_round opsR b (c % (6 * sz)) := by
  have e : F_law_pair opsR b c = F_law_pair opsR b (c % (6 * sz)) := by rw [pair_eq hb hsz hp hs, pair_eq hb hsz hp hs, ← pairPure_mod hp]
  unfold F_round
  rw [e]
theorem round_of {b c sz : Int} {N : Nat} (hN : (N : Int) = 6 * sz) (hb : powOkR 2 b = true) (hsz : (2 : Int) ^ b.toNat = sz) (hp : 0 < sz) (hs : (if sz == 0 then 0 else sz.natAbs.log2 / 30 + 1 : Nat) ≤ 300) (h : ∀ k : Nat, k < N → F_round opsR b k = some .none) : F_round opsR b c = some .none := by
  rw [round_mod hb hsz hp hs]
  have h1 : 0 ≤ c % (6 * sz) := Int.emod_nonneg _ (by omega)
  have h2 : c % (6 * sz) < 6 * sz := Int.emod_lt_of_pos _ (by omega)
  have h3 := h (c % (6 * sz)).toNat (by omega)
  rwa [Int.toNat_of_nonneg h1] at h3
theorem round_all {b : Int} (hb : 2 ≤ b ∧ b ≤ 5) (c : Int) : F_round opsR b c = some .none := by
  obtain ⟨h1, h2⟩ := hb
  have : b = 2 ∨ b = 3 ∨ b = 4 ∨ b = 5 := by omega
  rcases this with rfl | rfl | rfl | rfl
  · refine round_of (sz := 4) (N := 24) (by decide) (by decide +kernel) (by decide) (by decide) (by decide +kernel) fun k hk => ?_
    exact ok_at ok_2_0 (by omega) (by omega)
  · refine round_of (sz := 8) (N := 48) (by decide) (by decide +kernel) (by decide) (by decide) (by decide +kernel) fun k hk => ?_
    by_cases q : k < 24
    · exact ok_at ok_3_0 (by omega) (by omega)
    · exact ok_at ok_3_24 (by omega) (by omega)
  · refine round_of (sz := 16) (N := 96) (by decide) (by decide +kernel) (by decide) (by decide) (by decide +kernel) fun k hk => ?_
    by_cases q : k < 24
    · exact ok_at ok_4_0 (by omega) (by omega)
    · by_cases q : k < 48
      · exact ok_at ok_4_24 (by omega) (by omega)
      · by_cases q : k < 72
        · exact ok_at ok_4_48 (by omega) (by omega)
        · exact ok_at ok_4_72 (by omega) (by omega)
  · refine round_of (sz := 32) (N := 192) (by decide) (by decide +kernel) (by decide) (by decide) (by decide +kernel) fun k hk => ?_
    by_cases q : k < 24
    · exact ok_at ok_5_0 (by omega) (by omega)
    · by_cases q : k < 48
      · exact ok_at ok_5_24 (by omega) (by omega)
      · by_cases q : k < 72
        · exact ok_at ok_5_48 (by omega) (by omega)
        · by_cases q : k < 96
          · exact ok_at ok_5_72 (by omega) (by omega)
          · by_cases q : k < 120
            · exact ok_at ok_5_96 (by omega) (by omega)
            · by_cases q : k < 144
              · exact ok_at ok_5_120 (by omega) (by omega)
              · by_cases q : k < 168
                · exact ok_at ok_5_144 (by omega) (by omega)
                · exact ok_at ok_5_168 (by omega) (by omega)
noncomputable def isReal (x : Option V) (a b : Int) : Bool := match x with
  | some (.real m e) => m == a && e == b
  | _ => false
theorem isReal_eq {x : Option V} {a b : Int} (h : isReal x a b = true) : x = some (.real a b) := by
  unfold isReal at h
  split at h
  · simp only [Bool.and_eq_true, beq_iff_eq] at h
    rw [h.1, h.2]
  · cases h
theorem zero_all {b : Int} (hb : 2 ≤ b ∧ b ≤ 5) : F_sin_real opsR b 0 0 = some (.real 0 0) ∧ F_cos_real opsR b 0 0 = some (.real 1 0) ∧ F_tan_real opsR b 0 0 = some (.real 0 0) := by
  obtain ⟨h1, h2⟩ := hb
  have : b = 2 ∨ b = 3 ∨ b = 4 ∨ b = 5 := by omega
  rcases this with rfl | rfl | rfl | rfl <;> exact ⟨isReal_eq (by decide +kernel), isReal_eq (by decide +kernel), isReal_eq (by decide +kernel)⟩
end Mine

end
-- part M6
section
open PySem PySem.W PySem.Calls PyProof.Rows
set_option Elab.async false
set_option maxRecDepth 100000
set_option maxHeartbeats 8000000
set_option linter.unusedVariables false
namespace Mine
variable {w : World} {loose : List Str} {mean : ExcName → Option Value} {mg mb : Str → Option Value}
theorem curves_of {h : Heap} (X : (Mine.hk.heap_1 w.params).In h) (T : Top topProg loose mean mg mb h) : ∃ cs cc ct, Curves (P0 w loose mean mg mb) cs cc ct := curves
section
variable {h₀ : Heap} {sc : Scope} {L fa : Addr} {cd : Value} {cs cc ct : Pos × Str} {m : Str → Option Value}
theorem law_X (X : (Mine.hk.heap_1 w.params).In h₀) (T : Top topProg loose mean mg mb h₀) (B : Below callerA h₀ [] h₀) (c1 : CodeHd h₀ 309 305) (c2 : CodeHd h₀ 316 312) (c3 : CodeHd h₀ 330 326) (hk : sc.kind = .function) (hcs : sc.names.all (fun x => x.2 != .cell) = true) :
    ∀ own, (∀ q ∈ own, q.1 ≠ 305 ∧ q.1 ≠ 312 ∧ q.1 ≠ 326) → LX (P0 w loose mean mg mb) 60 (callerA.deeper (envOf "law" sc L fa cd)) h₀ L (envOf "law" sc L fa cd) sc own := fun own off =>
  ⟨⟨rfl, hk, rfl, rfl⟩, rfl, ⟨⟨envOf "law" sc L fa cd, [], callerA, h₀, rfl, rfl, hk, B⟩, X, T, rfl, (by decide +kernel : 1 + claimMargin + 1 + 60 < recursionLimit), (by decide +kernel : 4 + 3 + 8 * 60 + 64 < cLine)⟩, c1, c2, c3, off, rfl, fun x hx => cells_nil hcs x hx⟩

theorem law_loop (CV : Curves (P0 w loose mean mg mb) cs cc ct) (X : (Mine.hk.heap_1 w.params).In h₀) (T : Top topProg loose mean mg mb h₀) (B : Below callerA h₀ [] h₀) (c1 : CodeHd h₀ 309 305) (c2 : CodeHd h₀ 316 312) (c3 : CodeHd h₀ 330 326) {s0 s1 : Stmt}
    {p1 p2 p3 p4 p5 p6 p7 p8 p9 n1 i1 q1 q2 q3 q4 q5 q6 q7 q8 q9 n2 i2 r1 r2 r3 r4 r5 r6 r7 r9 n3 i3 : Pos} {k1 k2 : Nat} {b1 b2 b3 : List Stmt} {b : Int} {tb : Tok} {s : Shared} {Q : Flow → Shared → Prop} {E : Value → Shared → Prop}
    {D : Addr} {ws : List Value} {ns : List Int} {rest : Led} (F : Fr h₀ L s.heap m) (N : News h₀ L s.heap ((D, W.listOf ws.toArray 0) :: rest)) (I : IntsAre ws ns)
    (z1 : (305, tabObj #[]) ∈ rest) (z2 : (312, tabObj #[]) ∈ rest) (z3 : (326, tabObj #[]) ∈ rest) (hb : m "bits" = some (.int b tb)) (hb2 : 2 ≤ b ∧ b ≤ 5)
    (hk : sc.kind = .function) (hcs : sc.names.all (fun x => x.2 != .cell) = true)
    (hR : ∀ b c, rEx (run (cfg opsR (φ42 opsR)) 40) sc (ρ_tu b c) [s0, s1] (kn_law Kmark) (fun _ => none) = callP (F_law_pair opsR b c) fun m e => callP (F_law_fraction opsR m e) fun g0 g1 => Kmark b m e g0 g1)
    (hl : ∀ x ∈ (["bits", "code", "real", "given"] : List Str), sc.names.lookup x = some .local) (hg : ∀ x ∈ (["_law_is_wave_right", "_law_is_tangent_right", "sin_real", "cos_real", "tan_real"] : List Str), sc.names.lookup x = some .globalImplicit)
    (done : ∀ m' t' nw' h' tk' tb', LSt cs cc ct [] h₀ L m' h' t' nw' → m' "bits" = some (.int b tb') → Q .next { s with heap := h', toks := tk' }) :
    wpAny (model PySem.Challenge.rw_nt0171_01.row.prog w) (callerA.deeper (envOf "law" sc L fa cd)) (pyIter (.ref D)) (fun it s₂ => LoopAtU PySem.Challenge.rw_nt0171_01.row.prog w (callerA.deeper (envOf "law" sc L fa cd)) h₀ (envOf "law" sc L fa cd) "code" [s0, s1,
      .If (.UnaryOp .Not (.Call (.Name "_law_is_wave_right" p1) [.Name "bits" p2, .Name "given" p3, .Call (.Name "sin_real" p4) [.Name "bits" p5, .Name "real" p6] [] p7, .Constant (.bool false) k1 p8] [] p9) n1) b1 [] i1,
      .If (.UnaryOp .Not (.Call (.Name "_law_is_wave_right" q1) [.Name "bits" q2, .Name "given" q3, .Call (.Name "cos_real" q4) [.Name "bits" q5, .Name "real" q6] [] q7, .Constant (.bool true) k2 q8] [] q9) n2) b2 [] i2,
      .If (.UnaryOp .Not (.Call (.Name "_law_is_tangent_right" r1) [.Name "bits" r2, .Name "given" r3, .Call (.Name "tan_real" r4) [.Name "bits" r5, .Name "real" r6] [] r7] [] r9) n3) b3 [] i3] Q E it s₂) E s := by
  have hD := N _ (.head _)
  have ne : ∀ z : Addr, (z, tabObj #[]) ∈ rest → D ≠ z := fun z hz e => by
    have h1 := (N _ (.tail _ hz)).1
    have h2 := hD.1
    rw [e] at h2
    have h3 : s.heap.get? z = some (tabObj #[]) := h1
    have h4 : s.heap.get? z = some (W.listOf ws.toArray 0) := h2
    rw [h3] at h4
    cases h4
  refine iter_law (w := w) (loose := loose) (mean := mean) (mg := mg) (mb := mb) (env := envOf "law" sc L fa cd) CV (law_X X T B c1 c2 c3 hk hcs) hR hl hg I (News.isList N (.head _)) hD.2.2 hD.2.1 ⟨ne _ z1, ne _ z2, ne _ z3⟩ F (fun p hp => N p (.tail _ ?_)) hb (fun c _ => round_all hb2 c) done
  simp only [hidT, List.mem_cons] at hp
  rcases hp with rfl | rfl | rfl | hp
  · exact z1
  · exact z2
  · exact z3
  · cases hp
theorem law_some (CV : Curves (P0 w loose mean mg mb) cs cc ct) (X : (Mine.hk.heap_1 w.params).In h₀) (T : Top topProg loose mean mg mb h₀) (B : Below callerA h₀ [] h₀) (c1 : CodeHd h₀ 309 305) (c2 : CodeHd h₀ 316 312) (c3 : CodeHd h₀ 330 326) (hk : sc.kind = .function) (hcs : sc.names.all (fun x => x.2 != .cell) = true)
    (hl : ∀ x ∈ (["bits", "some"] : List Str), sc.names.lookup x = some .local) (hg : ∀ x ∈ (["Real", "sin_real", "cos_real", "tan_real"] : List Str), sc.names.lookup x = some .globalImplicit)
    {p1 p2 p3 p4 p5 p6 p7 q1 q2 q3 q4 q5 q6 q7 r1 r2 r3 r4 r5 r6 r7 tp lp sp cp ip : Pos} {k1 k2 k3 k4 k5 k6 : Nat} {b1 rest : List Stmt} {lc rhs : Expr} {b : Int} {tb : Tok}
    (hsw : swapsWith (.List [.Call (.Name "sin_real" p1) [.Name "bits" p2, .Call (.Name "Real" p3) [.Constant (.int 0) k1 p4, .Constant (.int 0) k2 p5] [] p6] [] p7, .Call (.Name "cos_real" q1) [.Name "bits" q2, .Call (.Name "Real" q3) [.Constant (.int 0) k3 q4, .Constant (.int 0) k4 q5] [] q6] [] q7,
      .Call (.Name "tan_real" r1) [.Name "bits" r2, .Call (.Name "Real" r3) [.Constant (.int 0) k5 r4, .Constant (.int 0) k6 r5] [] r6] [] r7] lp) (some (.Name "some" tp)) sp.line (dEnv sc) = .pure false)
    (hlc : rEv (run (cfg opsR (φ42 opsR)) 40) sc ρ_so lc some = some (.list [pairV 0 0, pairV 1 0, pairV 0 0])) (hrhs : rEv (run (cfg opsR (φ42 opsR)) 40) sc ρ_so rhs some = some (.list [pairV 0 0, pairV 1 0, pairV 0 0])) (hbm : behindInMarks .NotEq rhs = false)
    (fS : F_sin_real opsR b 0 0 = some (.real 0 0)) (fC : F_cos_real opsR b 0 0 = some (.real 1 0)) (fT : F_tan_real opsR b 0 0 = some (.real 0 0)) (hb : m "bits" = some (.int b tb))
    {t : Tabs} {nw : Led} {s : Shared} {Q : Flow → Shared → Prop} {E : Value → Shared → Prop} (S : LSt cs cc ct [] h₀ L m s.heap t nw)
    (back : ∀ m' t' nw' h' tk', LSt cs cc ct [] h₀ L m' h' t' nw' → Sub nw nw' → m' "bits" = some (.int b tb) → wpAny (model PySem.Challenge.rw_nt0171_01.row.prog w) (callerA.deeper (envOf "law" sc L fa cd)) (execs rest (envOf "law" sc L fa cd)) Q (fun _ _ => False) { s with heap := h', toks := tk' }) :
    wpAny (model PySem.Challenge.rw_nt0171_01.row.prog w) (callerA.deeper (envOf "law" sc L fa cd)) (execs (.Assign [.Name "some" tp] (.List [.Call (.Name "sin_real" p1) [.Name "bits" p2, .Call (.Name "Real" p3) [.Constant (.int 0) k1 p4, .Constant (.int 0) k2 p5] [] p6] [] p7, .Call (.Name "cos_real" q1) [.Name "bits" q2, .Call (.Name "Real" q3) [.Constant (.int 0) k3 q4, .Constant (.int 0) k4 q5] [] q6] [] q7,
      .Call (.Name "tan_real" r1) [.Name "bits" r2, .Call (.Name "Real" r3) [.Constant (.int 0) k5 r4, .Constant (.int 0) k6 r5] [] r6] [] r7] lp) sp :: .If (.Compare lc [.NotEq] [rhs] cp) b1 [] ip :: rest) (envOf "law" sc L fa cd)) Q E s := by
  refine wpAny_mono (some_ok CV (law_X X T B c1 c2 c3 hk hcs [] (fun _ h => nomatch h)) hl hg hsw hlc hrhs hbm fS fC fT hb S back) (fun _ _ q => q) (fun _ _ q => q.elim)
end
end Mine

end
-- part N1
section
open PySem PySem.W PySem.Calls PyProof.Rows
set_option Elab.async false
set_option maxRecDepth 100000
set_option maxHeartbeats 8000000
set_option linter.unusedVariables false
namespace Mine
section
variable {prog : Program} {w : World} {A : Around} {E : Value → Shared → Prop} {h : Heap} {g : Array GenState} {d : Drawn} {t : Nat} {os : OsState}
variable {nm q : Str} {C N : Addr} {bs bm bmB : List Value} {hdct : Bool} {sn : List Str} {sub : List Value} {ab : Bool} {col : Option Bool} {dd : Option Addr} {k0 k1 k2 k3 k5 : Option Value} {B newId initId : String}

/-- an own exception whose bases are own ones too: what of the list of bases is asked -/
structure BasesOk (B : String) (C : Addr) (bm : List Value) : Prop where
  b : (Value.ref C :: bm).contains (.type B) = true
  a : (Value.ref C :: bm).contains (.type "AttributeError") = false
  n : (Value.ref C :: bm).contains (.type "NameError") = false

theorem x_check_new (F : ExcBaseFacts B newId initId bmB) (O : BasesOk B C bm) {M : Model} {rest : List Value} {Q : Unit → Shared → Prop} (hC : h.get? C = some (excClassObj nm q C N bs bm hdct sn sub ab col dd k0 k1 k2 k3 k5 newId))
    (hq : Q () ⟨h, g, d, t, os⟩) : wpAny M A (checkBuiltinCall newId ⟨.ref C :: rest, []⟩) Q E ⟨h, g, d, t, os⟩ := by
  have hb := O.b
  have hs := F.noStar
  simp only [checkBuiltinCall, F.newKind, F.newSplit, F.newRow]
  repeat (first | refine wpAny_loadPart_at hC ?_ | (refine wpAny_isSubtype_exc hC ?_; rw [hb]) | refine wpAny_staticBase_exc hC ?_ | refine wpAny_madeBy_exc hC ?_ | simp only [bne_self_eq_false, Bool.false_eq_true, if_false] | wp_step)
  exact hq

theorem x_new (F : ExcBaseFacts B newId initId bmB) (O : BasesOk B C bm) {R : Result → Shared → Prop} {rest : List Value} (hC : h.get? C = some (excClassObj nm q C N bs bm hdct sn sub ab col dd k0 k1 k2 k3 k5 newId))
    (hq : R (.ok (.ret (.ref (h.objs.size + 1)))) ⟨(h.push { cls := .type "tuple", data := .seq rest.toArray }).push
      { cls := .ref C, data := .fields #[.ref h.objs.size, .none, .none, .none, .bool false, .none] }, g, d, t, os⟩) (hrest : rest.length ≤ sizeLine) :
    codeAny (model prog w) A (.builtin newId ⟨.ref C :: rest, []⟩) R ⟨h, g, d, t, os⟩ := by
  have he := F.ends
  have hb := O.b
  have ha := O.a
  have hn := O.n
  refine codeAny_builtinAt F.entry ?_
  unfold Builtin.«BaseException.__new__»
  refine PySem.wpAt_bind ?_
  show PySem.wpAt _ _ _ (stack >>= _) _ _ _
  refine PySem.wpAt_bind (PySem.wpAt_stack fun p below => PySem.wpAt_of_wpAny ?_)
  wp_walk
  refine PySem.wpAt_of_wpAny ?_
  rw [F.owner]
  repeat (first | with_reducible refine wpAny_madeHere_exc F.canon hC ?_ | with_reducible refine wpAny_loadPart_at hC ?_ | (with_reducible refine wpAny_isSubtype_exc hC ?_; first | rw [hb] | rw [ha] | rw [hn]) | wp_step)
  show R _ _
  rw [Heap.size_push]
  exact hq

theorem x_lookup {M : Model} {name : Str} {mN : Str → Option Value} {v : Value} {Q : Option Value → Shared → Prop} (hC : h.get? C = some (excClassObj nm q C N bs bm hdct sn sub ab col dd k0 k1 k2 k3 k5 newId)) (hn : h.Ns N mN) (hv : mN name = some v)
    (hq : Q (some v) ⟨h, g, d, t, os⟩) : wpAny M A (typeLookup (.ref C) name) Q E ⟨h, g, d, t, os⟩ := by
  rw [typeLookup_eq]
  refine wpAny_bind (wpAny_mroOf_exc hC ?_)
  rw [lookupAlong_cons]
  refine wpAny_bind (wpAny_classOwn_exc hC hn ?_)
  rw [hv]
  exact wpAny_pure hq

theorem x_type_call (F : ExcBaseFacts B newId initId bmB) (O : BasesOk B C bm) {mN : Str → Option Value} {rest : List Value} {fI : Addr} {oI : Obj} {Q : Fin → Shared → Prop}
    (hC : h.get? C = some (excClassObj nm q C N bs bm hdct sn sub ab col dd k0 k1 k2 k3 k5 newId)) (hn : h.Ns N mN) (hi : mN "__init__" = some (.ref fI))
    (hfI : h.get? fI = some oI) (hfc : oI.cls = .type "function")
    (hq : ∀ h' e, Heap.MadeExcOf h h' e (.ref C) rest →
      wpAny (model prog w) A (call (.ref fI) (.ref e :: rest)) (fun r s' => r = .none ∧ Q (.done (.ret (.ref e))) s') E ⟨h', g, d, t, os⟩) (hrest : rest.length ≤ sizeLine) :
    wpAny (model prog w) A (Builtin.«type.__call__» ⟨.ref C :: rest, []⟩) Q E ⟨h, g, d, t, os⟩ := by
  repeat (first | with_reducible refine wpAny_loadPart_at hC ?_ | with_reducible refine wpAny_madeBy_exc hC ?_ | wp_step)
  refine codeAny_call_builtin_code (Code.quiet_builtin _ F.quiet) (x_check_new F O hC (x_new F O hC ?_ hrest))
  show wpAny _ _ _ _ _ _
  generalize hh₁ : (h.push { cls := .type "tuple", data := .seq rest.toArray }).push { cls := .ref C, data := .fields #[.ref h.objs.size, .none, .none, .none, .bool false, .none] } = h₁
  have up : ∀ b o, h.get? b = some o → h₁.get? b = some o := fun b o e => by rw [← hh₁]; exact Heap.get?_push_of_some _ (Heap.get?_push_of_some _ e)
  have hget : h₁.get? (h.objs.size + 1) = some { cls := .ref C, data := .fields #[.ref h.objs.size, .none, .none, .none, .bool false, .none] } := by rw [← hh₁]; heap_get
  have htup : h₁.get? h.objs.size = some { cls := .type "tuple", data := .seq rest.toArray } := by rw [← hh₁]; exact Heap.get?_push_of_some _ (Heap.get?_push_at rfl rfl)
  have hC₁ := up _ _ hC
  have hn₁ : h₁.Ns N mN := hn.keeps up
  have self : (Value.ref C :: bm).contains (.ref C) = true := by simp
  unfold isInstance
  repeat (first | with_reducible refine wpAny_loadPart_at hget ?_ | (with_reducible refine wpAny_isSubtype_exc hC₁ ?_; rw [self]) | wp_step)
  show wpAny _ _ (typeLookup (.ref C) _) _ _ _
  refine x_lookup hC₁ hn₁ hi (wpAny_holding (wpAny_bind ?_))
  unfold bindSpecial
  refine wpAny_bind (wpAny_typeOf (T := "function") ⟨_, up _ _ hfI, hfc⟩ ?_)
  rw [if_pos (by decide)]
  refine wpAny_pure (wpAny_bind (wpAny_mono (hq h₁ (h.objs.size + 1) ⟨up, Heap.get?_none_of_le (Nat.le_succ _), h.objs.size, hget, Heap.get?_none_of_le (Nat.le_refl _), htup⟩) (fun r s' hr => ?_) fun _ _ x => x))
  obtain ⟨rfl, hQ⟩ := hr
  wp_walk
  exact hQ

theorem x_call (F : ExcBaseFacts B newId initId bmB) (O : BasesOk B C bm) {mN : Str → Option Value} {rest : List Value} {fI : Addr} {oI : Obj} {Q : Value → Shared → Prop}
    (hC : h.get? C = some (excClassObj nm q C N bs bm hdct sn sub ab col dd k0 k1 k2 k3 k5 newId)) (hn : h.Ns N mN) (hi : mN "__init__" = some (.ref fI))
    (hfI : h.get? fI = some oI) (hfc : oI.cls = .type "function")
    (hq : ∀ h' e, Heap.MadeExcOf h h' e (.ref C) rest →
      wpAny (model prog w) (A.under (.builtin "type.__call__" ⟨.ref C :: rest, []⟩)) (call (.ref fI) (.ref e :: rest)) (fun r s' => r = .none ∧ Q (.ref e) s') E ⟨h', g, d, t, os⟩) (hrest : rest.length ≤ sizeLine) :
    wpAny (model prog w) A (call (.ref C) rest) Q E ⟨h, g, d, t, os⟩ := by
  have f1 := tc_lookup
  have f2 := tc_bind (.ref C)
  have hT : (⟨h, g, d, t, os⟩ : Shared).TypeIs (.ref C) "type" := ⟨_, hC, rfl⟩
  refine wpAny_call (codeAny_of_tree ?_)
  show wpAny _ _ (callAny (.ref C) _) _ _ _
  repeat (any_goals (first | assumption | with_reducible refine wpAny_loadPart_at hC ?_ | wp_step))
  refine ⟨rfl, ?_⟩
  exact codeAny_call_builtin_at (Code.quiet_builtin _ (by decide +kernel)) entry_typeCall (wpAny_check_type_call_sub hC (x_type_call F O hC hn hi hfI hfc hq hrest))
end
end Mine

end
-- part N2
section
open PySem PySem.W PySem.Calls PyProof.Rows
set_option Elab.async false
set_option maxRecDepth 100000
set_option maxHeartbeats 8000000
set_option linter.unusedVariables false
open PySem.Builtin PySem.Builtin.ObjectAttr
namespace Mine
section
variable {prog : Program} {w : World} {A : Around} {E : Value → Shared → Prop} {K : Frag} {h : Heap} {g : Array GenState} {d : Drawn} {t : Nat} {os : OsState} {x C : Addr} {cd : ClassData} {mA : Str → Option Value} {name : Str} {v : Value}
theorem notCls_of {o : Obj} (hnc : ∀ c, o.data ≠ .cls c) : notCls o = true := by
  unfold notCls
  split
  · rename_i q; exact absurd q (hnc _)
  · rfl
/-- a field of an exception of one's own is set, the first one too -/
theorem x_set {ns : List Str} {Q : Unit → Shared → Prop} (X : K.In h) (hc : clsIn K C = some cd) (hdict : cd.hasDict = true) (hs : findIn K (.ref C) "__setattr__" = some (some (.builtin "object.__setattr__")))
    (ht : takerIn K C name = some none) (hne : cd.mro.isEmpty = false) (hobj : cd.mro.contains (.type "object") = true) (hpass : ∀ self, refuseLoop self "__setattr__" cd.mro = pure ()) (I : h.Inst x C mA)
    (hq : ∀ h' tk', h'.Inst x C (fun y => if y = name then some v else mA y) →
      (∀ b o, b ≠ x → (∀ o₀ dx, h.get? x = some o₀ → o₀.dict = some dx → b ≠ dx) → h.get? b = some o → h'.get? b = some o) →
      (∀ o₀, h.get? x = some o₀ → ∃ dx, h'.get? x = some ⟨o₀.cls, some dx, o₀.data, o₀.slots⟩ ∧ (o₀.dict = some dx ∨ (o₀.dict = none ∧ h.get? dx = none))) → Q () ⟨h', g, d, tk', os⟩) (hw : Within mA ns) (hsz : ns.length ≤ 100) :
    wpAny (model prog w) A (setAttr (.ref x) name v) Q E ⟨h, g, d, t, os⟩ := by
  obtain ⟨o, hx, hcl, hnc, hd⟩ := I
  obtain ⟨od, IA⟩ : ∃ od, InstAt h x o C od := by
    rcases hd with ⟨hdn, _⟩ | ⟨dx, hdx, hnx, hns⟩
    · exact ⟨none, hx, hcl, notCls_of hnc, by rw [hdn]; trivial⟩
    · obtain ⟨oD, _, _, hoD, _⟩ := hns
      exact ⟨some oD, hx, hcl, notCls_of hnc, by rw [hdx]; exact hoD⟩
  refine set_plain (s := ⟨h, g, d, t, os⟩) X IA hs ?_
  have SF := PySem.F.store_object
  have sub : Looks (model prog w) h (isInstance (.ref x) (.type "object")) true := IA.type.andThen (looks_mroIn X (by unfold mroIn; rw [hc, Option.bind_some, if_neg (by rw [hne]; decide), hobj]))
  refine codeAny_call_builtin SF.slot.plain SF.entry (@check_slot (model prog w) _ _ _ "object.__setattr__" "object" "__setattr__" (.ref x) [.str name t, v] [] _ SF.kind SF.split sub (SF.args (.ref x) (.str name t) v) ?_)
  obtain ⟨attr, ha, hr⟩ := Option.bind_eq_some_iff.mp ht
  have hm : Looks (model prog w) h (mroOf (.ref C)) cd.mro := (looks_clsIn X hc).andThen .now
  have L3 : Looks (model prog w) h (storeTaker? attr) none := by
    cases attr with
    | none => exact .now
    | some a =>
      obtain ⟨b, hb, hbb⟩ := Option.map_eq_some_iff.mp hr
      refine (looks_takesIn X hb).andThen ?_
      cases b
      · exact .now
      · cases hbb
  rw [osa_eq, refuse_eq]
  refine wpAny_bind (wpAny_bind (IA.type.here (wpAny_bind (hm.here ?_))))
  rw [hpass]
  refine wpAny_pure (wpAny_bind (IA.type.here (wpAny_bind ((looks_findIn X ha).here (wpAny_bind (L3.here ?_))))))
  obtain ⟨oc, odi, oda, osl⟩ := o
  dsimp only at hcl hnc hd
  subst hcl
  refine wpAny_bind (wpAny_pure (wpAny_bind (wpAny_bind (wpAny_loadPart hx (wpAny_bind ((looks_clsIn X hc).here ?_))))))
  rw [hdict]
  rcases hd with ⟨rfl, hmA⟩ | ⟨dx, rfl, hnx, hns⟩
  · have hx₁ : (h.push { cls := .type "dict", data := .dict #[] }).get? x = some ⟨.ref C, none, oda, osl⟩ := Heap.get?_push_of_some _ hx
    have hxs : x ≠ h.objs.size := Nat.ne_of_lt (Heap.lt_size hx)
    have goOn : wpAny (model prog w) A.in1 (storeInDict h.objs.size (.str name t) name v) (fun fin s' => match fin with | .done f => (match (Except.ok f : Result) with | .ok (.ret v) => Q () s' | .ok _ => False | .error e => E e s') | .again c' => c'.quiet = true ∧ codeAny (model prog w) A c' (fun r s' => match r with | .ok (.ret v) => Q () s' | .ok _ => False | .error e => E e s') s') (fun e s' => E e s')
        ⟨(h.push { cls := .type "dict", data := .dict #[] }).update x fun o => { cls := o.cls, dict := some h.objs.size, data := o.data, slots := o.slots }, g, d, t + 1, os⟩ := by
      have hgd : ((h.push { cls := .type "dict", data := .dict #[] }).update x fun o => { cls := o.cls, dict := some h.objs.size, data := o.data, slots := o.slots }).get? h.objs.size = some { cls := .type "dict", data := .dict #[] } :=
        (Heap.get?_update_ne _ _ _ _ hxs.symm).trans (Heap.get?_push_at rfl rfl)
      have hnd : ((h.push { cls := .type "dict", data := .dict #[] }).update x fun o => { cls := o.cls, dict := some h.objs.size, data := o.data, slots := o.slots }).Ns h.objs.size (fun _ => none) :=
        ⟨_, #[], _, hgd, rfl, fun e he => absurd he (by simp), fun _ => rfl⟩
      unfold storeInDict newKeyGuard
      refine wpAny_bind (wpAny_pure (wpAny_bind (wpAny_nsSet1 (Heap.Ns1.of_empty hnd) fun h' hn' hs => ?_)))
      obtain ⟨oD, esD, epD, hoD, hdD, hcD⟩ := hn'.count (Within.cons name v Within.nil)
      refine wpAny_bind (wpAny_lookBehind hoD (by rw [hdD]; exact pastItsLine_dict (Nat.le_trans hcD (by rw [List.length_cons, List.length_nil, sizeLine_eq]; omega))) ?_)
      have hx' : h'.get? x = some ⟨.ref C, some h.objs.size, oda, osl⟩ := by
        refine (hs.2 x hxs).trans (Heap.get?_update_self _ hx₁ ?_)
        have hfr := (Heap.get?_some_iff.mp hx).2
        cases oda <;> first | rfl | exact hfr
      refine wpAny_pure (hq h' _ ⟨_, hx', rfl, hnc, .inr ⟨h.objs.size, rfl, hxs.symm, ?_⟩⟩ (fun b ob hbx _ hb => ?_) (fun o₀ h₀ => by rw [hx] at h₀; cases h₀; exact ⟨_, hx', .inr ⟨rfl, Heap.get?_none_of_le (Nat.le_refl _)⟩⟩))
      · obtain ⟨o', es, ep, e1, e2, e3, eu, e4⟩ := hn'
        exact ⟨o', es, ep, e1, e2, e3, eu, fun y => by rw [e4 y]; by_cases hy : y = name <;> simp [hy, hmA]⟩
      · exact (hs.2 b (Nat.ne_of_lt (Heap.lt_size hb))).trans ((Heap.get?_update_ne _ _ _ _ hbx).trans (Heap.get?_push_of_some _ hb))
    rw [if_neg (by decide)]
    dsimp only
    rw [if_neg (by simp [typeHasDict])]
    split
    · rename_i hcd
      exact absurd rfl (hnc hcd)
    · refine wpAny_bind (wpAny_alloc' ?_)
      refine wpAny_bind (wpAny_update' hx₁ ?_)
      exact wpAny_pure goOn
  · refine wpAny_pure (a := some dx) ?_
    show wpAny _ _ (storeInDict dx (.str name t) name v) _ _ _
    unfold storeInDict newKeyGuard
    refine wpAny_bind (wpAny_pure (wpAny_bind (wpAny_nsSet1 hns fun h' hn' hs => ?_)))
    obtain ⟨oD, esD, epD, hoD, hdD, hcD⟩ := hn'.count (Within.cons name v hw)
    refine wpAny_bind (wpAny_lookBehind hoD (by rw [hdD]; exact pastItsLine_dict (Nat.le_trans hcD (by rw [List.length_cons, sizeLine_eq]; omega))) ?_)
    exact wpAny_pure (hq h' _ ⟨_, (hs.2 x hnx.symm).trans hx, rfl, hnc, .inr ⟨dx, rfl, hnx, hn'⟩⟩ (fun b ob _ hbd hb => (hs.2 b (hbd _ dx hx rfl)).trans hb)
      (fun o₀ h₀ => by rw [hx] at h₀; cases h₀; exact ⟨_, (hs.2 x hnx.symm).trans hx, .inl rfl⟩))

/-- a dict of few fields -/
noncomputable def DOk (oD : Obj) (ns : List Str) : Prop := ∃ mA, Within mA ns ∧ ∀ (h : Heap) (dx : Addr), h.get? dx = some oD → h.Ns1 dx mA
theorem DOk.of {h : Heap} {dx : Addr} {mA : Str → Option Value} {ns : List Str} (hw : Within mA ns) (h1 : h.Ns1 dx mA) : ∃ oD, h.get? dx = some oD ∧ DOk oD ns := by
  obtain ⟨o, es, ep, e1, r⟩ := h1
  exact ⟨o, e1, mA, hw, fun h' dx' e => ⟨o, es, ep, e, r⟩⟩

variable {h₀ : Heap} {L e : Addr} {m : Str → Option Value} {s : Shared} {dt : Data} {sl : Array (Option Value)} {tl : Led} {Q : Unit → Shared → Prop} {ns : List Str}
theorem x_set1 (F : Fr h₀ L s.heap m) (X : K.In h₀) (N : News h₀ L s.heap ((e, (⟨.ref C, none, dt, sl⟩ : Obj)) :: tl)) (off : ∀ p ∈ tl, p.1 ≠ e) (hnc : ∀ c, dt ≠ .cls c)
    (hc : clsIn K C = some cd) (hdict : cd.hasDict = true) (hs : findIn K (.ref C) "__setattr__" = some (some (.builtin "object.__setattr__")))
    (ht : takerIn K C name = some none) (hne : cd.mro.isEmpty = false) (hobj : cd.mro.contains (.type "object") = true) (hpass : ∀ self, refuseLoop self "__setattr__" cd.mro = pure ())
    (hq : ∀ h' tk' dx oD, Fr h₀ L h' m → News h₀ L h' ((e, (⟨.ref C, some dx, dt, sl⟩ : Obj)) :: (dx, oD) :: tl) → dx ≠ e → (∀ p ∈ tl, p.1 ≠ dx) → DOk oD [name] → Q () { s with heap := h', toks := tk' }) :
    wpAny (model prog w) A (setAttr (.ref e) name v) Q E s := by
  obtain ⟨hh, g, d, t, os⟩ := s
  have he := N _ (.head _)
  refine x_set (mA := fun _ => none) (ns := []) (X.keeps F.keep) hc hdict hs ht hne hobj hpass ⟨_, he.1, rfl, hnc, .inl ⟨rfl, fun _ => rfl⟩⟩ (fun h' tk' I hk hx => ?_) Within.nil (by simp)
  obtain ⟨dx, hx', hdx⟩ := hx _ he.1
  rcases hdx with q | ⟨_, hfr⟩
  · cases q
  obtain ⟨o, ho, hcl, _, hd⟩ := I
  rw [hx'] at ho
  cases ho
  rcases hd with ⟨q, _⟩ | ⟨dx', q, hne', hns⟩
  · cases q
  · cases q
    obtain ⟨oD, hoD, hD⟩ := DOk.of (Within.cons name v Within.nil) hns
    have up : ∀ b o, b ≠ e → hh.get? b = some o → h'.get? b = some o := fun b o hb hbo => hk b o hb (fun o₀ dy h1 h2 => by rw [he.1] at h1; cases h1; cases h2) hbo
    have h0n : h₀.get? dx = none := by
      cases q : h₀.get? dx with
      | none => rfl
      | some o => have := F.keep _ _ q; rw [hfr] at this; cases this
    have hLd : dx ≠ L := fun z => by
      obtain ⟨o, _, _, ho, _⟩ := F.ns
      rw [z] at hfr
      rw [hfr] at ho; cases ho
    refine hq h' tk' dx oD ⟨F.ns.at' fun o ho => up _ _ (fun z => he.2.1 z.symm) ho, fun b o hb => up b o (fun z => by rw [z, he.2.2] at hb; cases hb) (F.keep b o hb), F.above⟩ (fun p hp => ?_) hne' (fun p hp z => ?_) hD
    · rcases List.mem_cons.mp hp with rfl | hp
      · exact ⟨hx', he.2⟩
      · rcases List.mem_cons.mp hp with rfl | hp
        · exact ⟨hoD, hLd, h0n⟩
        · have n := N _ (.tail _ hp)
          exact ⟨up _ _ (off p hp) n.1, n.2⟩
    · have n := (N _ (.tail _ hp)).1
      rw [z, hfr] at n; cases n

theorem x_setN {dx : Addr} {oD : Obj} (F : Fr h₀ L s.heap m) (X : K.In h₀) (N : News h₀ L s.heap ((e, (⟨.ref C, some dx, dt, sl⟩ : Obj)) :: (dx, oD) :: tl)) (off : ∀ p ∈ tl, p.1 ≠ e) (hxe : dx ≠ e) (off2 : ∀ p ∈ tl, p.1 ≠ dx) (hD : DOk oD ns) (hlen : ns.length ≤ 100) (hnc : ∀ c, dt ≠ .cls c)
    (hc : clsIn K C = some cd) (hdict : cd.hasDict = true) (hs : findIn K (.ref C) "__setattr__" = some (some (.builtin "object.__setattr__")))
    (ht : takerIn K C name = some none) (hne : cd.mro.isEmpty = false) (hobj : cd.mro.contains (.type "object") = true) (hpass : ∀ self, refuseLoop self "__setattr__" cd.mro = pure ())
    (hq : ∀ h' tk' oD, Fr h₀ L h' m → News h₀ L h' ((e, (⟨.ref C, some dx, dt, sl⟩ : Obj)) :: (dx, oD) :: tl) → DOk oD (name :: ns) → Q () { s with heap := h', toks := tk' }) :
    wpAny (model prog w) A (setAttr (.ref e) name v) Q E s := by
  obtain ⟨hh, g, d, t, os⟩ := s
  have he := N _ (.head _)
  have hdn := N _ (.tail _ (.head _))
  obtain ⟨mA, hw, hmA⟩ := hD
  refine x_set (mA := mA) (ns := ns) (X.keeps F.keep) hc hdict hs ht hne hobj hpass ⟨_, he.1, rfl, hnc, .inr ⟨dx, rfl, hxe, hmA _ _ hdn.1⟩⟩ (fun h' tk' I hk hx => ?_) hw hlen
  obtain ⟨dx', hx', hdx⟩ := hx _ he.1
  rcases hdx with q | ⟨q, _⟩
  · cases q
    obtain ⟨o, ho, hcl, _, hd⟩ := I
    rw [hx'] at ho
    cases ho
    rcases hd with ⟨q, _⟩ | ⟨dx', q, hne', hns⟩
    · cases q
    · cases q
      obtain ⟨oD', hoD, hD'⟩ := DOk.of (Within.cons name v hw) hns
      have up : ∀ b o, b ≠ e → b ≠ dx → hh.get? b = some o → h'.get? b = some o := fun b o hb hb2 hbo => hk b o hb (fun o₀ dy h1 h2 => by rw [he.1] at h1; cases h1; cases h2; exact hb2) hbo
      refine hq h' tk' oD' ⟨F.ns.at' fun o ho => up _ _ (fun z => he.2.1 z.symm) (fun z => hdn.2.1 z.symm) ho, fun b o hb => up b o (fun z => by rw [z, he.2.2] at hb; cases hb) (fun z => by rw [z, hdn.2.2] at hb; cases hb) (F.keep b o hb), F.above⟩ (fun p hp => ?_) hD'
      rcases List.mem_cons.mp hp with rfl | hp
      · exact ⟨hx', he.2⟩
      · rcases List.mem_cons.mp hp with rfl | hp
        · exact ⟨hoD, hdn.2⟩
        · have n := N _ (.tail _ (.tail _ hp))
          exact ⟨up _ _ (off p hp) (off2 p hp) n.1, n.2⟩
  · cases q
end
end Mine

end
-- part N3
section
open PySem PySem.W PySem.Calls PyProof.Rows
set_option Elab.async false
set_option maxRecDepth 100000
set_option maxHeartbeats 8000000
set_option linter.unusedVariables false
namespace Mine
section
variable {M : Model} {A : Around} {E : Value → Shared → Prop} {s : Shared} {env : Env}
variable {nm q : Str} {C N : Addr} {bs bm : List Value} {hdct : Bool} {sn : List Str} {sub : List Value} {ab : Bool} {col : Option Bool} {dd : Option Addr} {k0 k1 k2 k3 k5 : Option Value} {newId : String}
/-- the fresh exception, its dict apart -/
noncomputable abbrev excObj (C t : Addr) (dd : Option Addr) : Obj := { cls := .ref C, dict := dd, data := .fields #[.ref t, .none, .none, .none, .bool false, .none] }
theorem x_raise {e : Expr} {pos : Pos} {Q : Flow → Shared → Prop} (hb : (Value.ref C :: bm).contains (.type "BaseException") = true) (hh : A.handled = none)
    (h : wpAny M A (eval e env) (fun v s₁ => ∃ a t dx, v = .ref a ∧ s₁.heap.get? C = some (excClassObj nm q C N bs bm hdct sn sub ab col dd k0 k1 k2 k3 k5 newId) ∧ s₁.heap.get? a = some (excObj C t (some dx)) ∧ E (.ref a) s₁) E s) :
    wpAny M A (exec (.Raise (some e) none pos) env) Q E s := by
  show wpAny M A (do standAt pos; raiseStmt env (some (do let v ← eval e env; standAt pos; pure v)) none) Q E s
  refine wpAny_bind (wpAny_standAt ?_)
  unfold raiseStmt
  dsimp only
  refine wpAny_bind (wpAny_bind (wpAny_mono h (fun v s₁ h₁ => wpAny_bind (wpAny_standAt (wpAny_pure ?_))) fun _ _ x => x))
  obtain ⟨a, t, dx, rfl, hC, ha, hE⟩ := h₁
  obtain ⟨hp, g, d, tk, os⟩ := s₁
  repeat (first | with_reducible refine wpAny_loadPart_at ha ?_ | with_reducible refine wpAny_loadPart_at hC ?_ | (with_reducible refine wpAny_isSubtype_exc hC ?_; rw [hb]) | wp_step)
  exact wpAny_raiseNew_none hh hE
end

section
variable {M : Model} {A : Around} {E : Value → Shared → Prop} {s' : Shared} {base g : Heap} {outer : List Env} {L a e t dx : Addr} {m : Str → Option Value} {name : Str} {scope : Scope} {cd : Value} {Q : Unit → Shared → Prop} {news : List (Addr × Obj)} {C : Addr} {vs : List Value} {nt : Nat}
/-- the first frame that such an exception leaves -/
theorem x_leave (K : Below A base outer g) (F : Fr g L s'.heap m) (N : News g L s'.heap ((e, excObj C t (some dx)) :: (t, ({ cls := .type "tuple", data := .seq vs.toArray nt } : Obj)) :: news)) (ne : ∀ q ∈ news, q.1 ≠ e) (ne' : ∀ q ∈ news, q.1 ≠ t) (hte : t ≠ e)
    (hQ : ∀ h', RaisedK base outer e (.ref C) t vs news h' → g.UpToSlots h' → Q () { s' with heap := h' }) (hk : scope.kind = .function := by rfl) :
    wpAny M (A.deeper (envOf name scope L a cd)) (leaving (envOf name scope L a cd) (.ref e)) Q E s' := by
  have he := N _ (.head _)
  have ht := N _ (.tail _ (.head _))
  have K' := K.push (name := name) (a := a) (cd := cd) F hk
  let fs := (envOf name scope L a cd :: outer).filterMap (·.frame)
  have hin : ∀ env ∈ (envOf name scope L a cd :: outer), ∀ b, env.frame = some b → b ∈ e :: t :: fs := fun env he b hb => .tail _ (.tail _ (List.mem_filterMap.mpr ⟨env, he, hb⟩))
  have gone : ∀ b, g.get? b = none → base.get? b = none := fun b hb => fresh_of_stays K.stays hb
  have st : base.StaysIn (hideAll s'.heap (e :: t :: fs)) := fun b o q => hideAll_get _ (K'.stays b o q) fun hm => by
    rcases List.mem_cons.mp hm with rfl | hm
    · rw [gone _ he.2.2] at q; cases q
    · rcases List.mem_cons.mp hm with rfl | hm
      · rw [gone _ ht.2.2] at q; cases q
      · rw [(K'.frames.mem hm).1] at q; cases q
  have hl : ∀ q ∈ news, (hideAll s'.heap (e :: t :: fs)).get? q.1 = some q.2 ∧ base.get? q.1 = none := fun q hq => by
    have n := N q (.tail _ (.tail _ hq))
    refine ⟨hideAll_get _ n.1 fun hm => ?_, gone _ n.2.2⟩
    rcases List.mem_cons.mp hm with z | hm
    · exact ne q hq z
    · rcases List.mem_cons.mp hm with z | hm
      · exact ne' q hq z
      · obtain ⟨env, he', hf⟩ := List.mem_filterMap.mp hm
        rcases List.mem_cons.mp he' with rfl | he'
        · exact n.2.1 (Option.some.inj hf).symm
        · obtain ⟨o, ho, _⟩ := (K.frames.mem (List.mem_filterMap.mpr ⟨env, he', hf⟩)).2
          rw [n.2.2] at ho; cases ho
  refine wpAny_leaving_firstW (base := hideAll s'.heap (e :: t :: fs)) (a0 := .ref t) K'.stack (funFrames_hide K'.frames hin) rfl he.1 (fun b o q => of_hideAll _ q) (hideAll_none _ (.head _)) rfl rfl rfl fun h' hL => ?_
  obtain ⟨k1, ⟨_, _, k2⟩, k3, k4⟩ := hL
  exact hQ h' ⟨⟨_, st, hl, ⟨k1, hideAll_none _ (.head _), k2, k3⟩, hideAll_none _ (.tail _ (.head _))⟩, Heap.TupAt.of_slots ⟨_, _, ht.1, rfl, rfl⟩ k4⟩ ((Heap.UpToSlots.of_keeps F.keep).trans k4)
end
end Mine

end
-- part N4
section
open PySem PySem.W PySem.Calls PyProof.Rows PySem.Spec
set_option Elab.async false
set_option maxRecDepth 100000
set_option maxHeartbeats 8000000
set_option linter.unusedVariables false
namespace Mine
section
variable {prog : Program} {w : World} {A₀ : Around} {E : Value → Shared → Prop} {s' : Shared} {h₀ h : Heap} {outer : List Env} {L a e t : Addr} {m : Str → Option Value} {name : Str} {scope : Scope} {cd : Value}
  {vs : List Value} {b₀ : Stmt} {suite : List Stmt} {pos np : Pos} {rest : List ExceptHandler} {Q : Flow → Shared → Prop} {news : List (Addr × Obj)} {KF : Frag}
  {p : Program} {loose : List Str} {mg mb : Str → Option Value} {x : Str}
variable {nm q : Str} {C N : Addr} {bs bm : List Value} {hdct : Bool} {sn : List Str} {sub : List Value} {ab : Bool} {col : Option Bool} {dd : Option Addr} {k0 k1 k2 k3 k5 : Option Value} {newId : String}
/-- caught by its own name -/
theorem x_caught (K : Below A₀ h₀ outer h₀) (F : Fr h₀ L h m) (hsm : h.UpToSlots s'.heap) (R : RaisedK h₀ (envOf name scope L a cd :: outer) e (.ref C) t vs news s'.heap)
    (X : KF.In h₀) (T : TopRead p loose mg mb h₀) (ex : nsIn KF mainGlobals x = some (some (.ref C))) (hCK : KF.lookup C = some (excClassObj nm q C N bs bm hdct sn sub ab col dd k0 k1 k2 k3 k5 newId)) (hbase : bm.contains (.type "BaseException") = true)
    (k : ∀ h', Fr h₀ L h' m → News h₀ L h' news →
      wpAny (model prog w) ((A₀.deeper (envOf name scope L a cd)).mark (some (.ref e))) (execs (b₀ :: suite) (envOf name scope L a cd)) Q E { s' with heap := h' })
    (hE : PassesOwnAt (model prog w) ((A₀.deeper (envOf name scope L a cd)).mark (some (.ref e))) (A₀.deeper (envOf name scope L a cd)) (envOf name scope L a cd) E)
    (hk : scope.kind = .function := by rfl) (hx : (envOf name scope L a cd).kindOf x = some .globalImplicit := by rfl) (hd : (x == ("__debug__" : Str)) = false := by decide) :
    wpAny (model prog w) (A₀.deeper (envOf name scope L a cd)) (noteFrame (.ref e) (envOf name scope L a cd))
      (fun _ s₂ => wpAny (model prog w) (A₀.deeper (envOf name scope L a cd)) (setFlight (.ref e) none) (fun _ s₃ =>
        wpAny (model prog w) (A₀.deeper (envOf name scope L a cd)) (handleBy (.ref e) (envOf name scope L a cd) (.ExceptHandler (some (.Name x np)) none (b₀ :: suite) pos :: rest)) Q E s₃) E s₂) E s' := by
  obtain ⟨⟨B, hB, hl, hfl, hnew⟩, htup⟩ := R
  have hL : B.get? L = none := by
    obtain ⟨_, ⟨L', _, hf, hn', _⟩, _⟩ := hfl.2.2.1
    cases Option.some.inj hf
    exact hn'
  refine wpAny_looks_onW (Around.frames_deeper K.stack) rfl hfl fun h₄ held₄ up₄ => wpAny_landsW held₄ fun h₅ held₅ up₅ => ?_
  have up := up₄.trans up₅
  have held := flyingW_base hB held₅
  have F₅ := F.of_stays held.1 (hsm.trans up)
  obtain ⟨ob, hob, hobc⟩ := held.there
  refine wpAny_handleBy_cons (codeAny_handlers_test (name_K F₅ X T ex ?_ hk hx hd)) (by intro z; cases z)
  refine wpAny_excMatches_sub_self (F₅.keep _ _ (X _ _ hCK)) hob hobc hbase (codeAny_handlers_suite ?_)
  refine lands_againW held₅ fun h₆ fly up₆ => ?_
  have fly' := flyingW_base hB fly
  have F₆ := F.of_stays fly'.1 ((hsm.trans up).trans up₆)
  exact wpAny_passesOwnAt hE (k h₆ F₆ fun z hz => ⟨fly.1 _ _ (hl z hz).1, (fun y => by have := (hl z hz).1; rw [y, hL] at this; cases this), (hl z hz).2⟩)
end
end Mine

end
-- part N5
section
open PySem PySem.W PySem.Calls PyProof.Rows PySem.Spec
set_option Elab.async false
set_option maxRecDepth 100000
set_option maxHeartbeats 8000000
set_option linter.unusedVariables false
namespace Mine
theorem fill5 (w : World) : Mine.hk.heap_1 w.params = Mine.hk.heap_1 w.params ∧ PySem.Challenge.rw_nt0171_01.Holds = PySem.Challenge.rw_nt0171_01.Holds := by
  k_fill
  exact ⟨rfl, rfl⟩
/-- the class, written out -/
structure OorCls (K : Frag) (C : Addr) (fI : Addr) (obj : Obj) (N : Addr) (bm : List Value) (cd : ClassData) : Prop where
  at_ : K.lookup C = some obj
  cl : clsIn K C = some cd
  ini : nsIn K N "__init__" = some (some (.ref fI))
  nsok : nsOkIn K N = true
  fn : typeIn K (.ref fI) = some (.type "function")
  set : findIn K (.ref C) "__setattr__" = some (some (.builtin "object.__setattr__"))
  mro : cd.mro = .ref C :: bm
  hd : cd.hasDict = true
theorem oor_of {K : Frag} {C fI N : Addr} {bm : List Value} {cd : ClassData} {nm q : Str} {bs : List Value} {hdct : Bool} {sn : List Str} {sub : List Value} {ab : Bool} {col : Option Bool} {dd : Option Addr} {k0 k1 k2 k3 k5 : Option Value} {newId : String}
  (h1 : K.lookup C = some (excClassObj nm q C N bs bm hdct sn sub ab col dd k0 k1 k2 k3 k5 newId)) (h2 : clsIn K C = some cd) (h3 : nsIn K N "__init__" = some (some (.ref fI))) (h4 : nsOkIn K N = true) (h5 : typeIn K (.ref fI) = some (.type "function"))
   (h6 : findIn K (.ref C) "__setattr__" = some (some (.builtin "object.__setattr__"))) (h7 : cd.mro = .ref C :: bm) (h8 : cd.hasDict = true) :
   ∃ nm q bs hdct sn sub ab col dd k0 k1 k2 k3 k5 cd, OorCls K C fI (excClassObj nm q C N bs bm hdct sn sub ab col dd k0 k1 k2 k3 k5 newId) N bm cd := ⟨_, _, _, _, _, _, _, _, _, _, _, _, _, _, _, h1, h2, h3, h4, h5, h6, h7, h8⟩
theorem oor (w : World) : ∃ nm q bs hdct sn sub ab col dd k0 k1 k2 k3 k5 cd, OorCls (Mine.hk.heap_1 w.params) 51 48 (excClassObj nm q 51 50 bs [.ref 31, .type "Exception", .type "BaseException", .type "object"] hdct sn sub ab col dd k0 k1 k2 k3 k5 "Exception.__new__") 50 [.ref 31, .type "Exception", .type "BaseException", .type "object"] cd := by
  refine' oor_of ?h1 ?h2 ?h3 ?h4 ?h5 ?h6 ?h7 ?h8
  case h1 => k_is
  case h2 => k_is
  case h3 => k_is
  case h4 => kernel_rfl
  case h5 => k_is
  case h6 => k_is
  case h7 => rfl
  case h8 => rfl
theorem oor_pass (self : Value) : refuseLoop self "__setattr__" [.ref 51, .ref 31, .type "Exception", .type "BaseException", .type "object"] = pure () := by
  rw [refuseLoop_ref, refuseLoop_ref]
  exact PySem.F.store_Exception.passes self
end Mine

end
-- part N6
section
open PySem PySem.W PySem.Calls PyProof.Rows PySem.Spec
set_option Elab.async false
set_option maxRecDepth 100000
set_option maxHeartbeats 8000000
set_option linter.unusedVariables false
namespace Mine
theorem fill6 (w : World) : Mine.hk.heap_1 w.params = Mine.hk.heap_1 w.params ∧ PySem.Challenge.rw_nt0171_01.Holds = PySem.Challenge.rw_nt0171_01.Holds := by
  k_fill
  exact ⟨rfl, rfl⟩
theorem ns_some_of {K : Frag} {h : Heap} {N : Addr} {mg : Str → Option Value} {n : Str} {v : Value} (X : K.In h) (G : h.Ns N mg) (e : nsIn K N n = some (some v)) : mg n = some v := by
  obtain ⟨o, es, ep, ho, hd, _, hf⟩ := G
  unfold nsIn at e
  split at e
  · rename_i c d es' n' sl q
    have := X _ _ q
    rw [ho] at this
    cases this
    cases hd
    split at e
    · rename_i he
      cases e
      rw [← hf]
      unfold nsFind findBy
      rw [← Array.find?_toList, he]
      rfl
    · split at e <;> cases e
  · cases e
theorem fn_at {K : Frag} {a : Addr} {o : Obj} (h : K.lookup a = some o) (hc : o.cls = .type "function") : ∃ o, K.lookup a = some o ∧ o.cls = .type "function" := ⟨o, h, hc⟩
theorem oor_fn (w : World) : ∃ o, (Mine.hk.heap_1 w.params).lookup 48 = some o ∧ o.cls = .type "function" := by
  refine' fn_at ?h1 ?h2
  case h1 => k_is
  case h2 => rfl
variable {w : World} {loose : List Str} {mean : ExcName → Option Value} {mg mb : Str → Option Value}
/-- what x_set1 and x_setN ask of the class -/
structure SetOk (K : Frag) (C : Addr) (cd : ClassData) : Prop where
  hc : clsIn K C = some cd
  hdict : cd.hasDict = true
  hs : findIn K (.ref C) "__setattr__" = some (some (.builtin "object.__setattr__"))
  hne : cd.mro.isEmpty = false
  hobj : cd.mro.contains (.type "object") = true
  hpass : ∀ self, refuseLoop self "__setattr__" cd.mro = pure ()
theorem set_of {K : Frag} {C fI N : Addr} {obj : Obj} {cd : ClassData} (O : OorCls K C fI obj N [.ref 31, .type "Exception", .type "BaseException", .type "object"] cd) (hC : C = 51) : SetOk K C cd := by
  subst hC
  exact ⟨O.cl, O.hd, O.set, by rw [O.mro]; rfl, by rw [O.mro]; rfl, fun self => by rw [O.mro]; exact oor_pass self⟩
theorem tk_word (w : World) : takerIn (Mine.hk.heap_1 w.params) 51 "word" = some none := by k_is
theorem tk_irr (w : World) : takerIn (Mine.hk.heap_1 w.params) 51 "irritants" = some none := by k_is
theorem tk_name (w : World) : takerIn (Mine.hk.heap_1 w.params) 51 "name" = some none := by k_is
theorem tk_place (w : World) : takerIn (Mine.hk.heap_1 w.params) 51 "place" = some none := by k_is
theorem tk_datum (w : World) : takerIn (Mine.hk.heap_1 w.params) 51 "datum" = some none := by k_is
theorem se_init {A : Around} {h₀ : Heap} {L : Addr} {m : Str → Option Value} {tl : Led} {s : Shared} {e t l : Addr} {x : Str} {t1 : Tok} {cd : ClassData} {Q : Value → Shared → Prop} {env₀ : Env} {outer : List Env} {A₀ : Around} {base : Heap}
   (hA : A.frames = some (env₀ :: outer)) (hf : env₀.frame = some L) (hk : env₀.scope.kind = .function) (B : Below A₀ base outer h₀) (X : (Mine.hk.heap_1 w.params).In h₀) (T : Top topProg loose mean mg mb h₀) (hroom : A.depth + 2 < recursionLimit) (S : SetOk (Mine.hk.heap_1 w.params) 51 cd)
   (F : Fr h₀ L s.heap m) (N : News h₀ L s.heap ((e, excObj 51 t none) :: tl)) (off : ∀ p ∈ tl, p.1 ≠ e)
   (back : ∀ dx oD h' tk, Fr h₀ L h' m → News h₀ L h' ((e, excObj 51 t (some dx)) :: (dx, oD) :: tl) → dx ≠ e → (∀ p ∈ tl, p.1 ≠ dx) → DOk oD ["irritants", "word"] → Q .none { s with heap := h', toks := tk }) :
   wpAny (model PySem.Challenge.rw_nt0171_01.row.prog w) A (call (.ref 28) [.ref e, .str x t1, .ref l]) Q (fun _ _ => False) s := by
  refine' wpAny_call (code_def (binds := [("self", .ref e), ("word", .str x t1), ("irritants", .ref l)]) B F X N T hA hf hk ?k6 ?k7 ?k8 ?k9 ?kB ?_ ?c2 ?c3 ?c4 ?c5)
  case k6 => k_is
  case k7 => k_is
  case k8 => omega
  case k9 => exact BindsTo.of_eq rfl
  case c5 => decide
  case kB => exact locs rfl
  case c2 => exact rfl
  case c3 => exact rfl
  case c4 => exact rfl
  intro g' L' h'' FG' F' N' B' X' T'
  dsimp only
  clear F N X T B
  k_steps
  refine x_set1 F' X' N' off (fun c z => by cases z) S.hc S.hdict S.hs (tk_word w) S.hne S.hobj S.hpass fun h2 tk2 dx oD F2 N2 hxe off2 D2 => ?_
  clear F' N'
  dsimp only
  k_steps
  refine x_setN F2 X' N2 off hxe off2 D2 (by decide) (fun c z => by cases z) S.hc S.hdict S.hs (tk_irr w) S.hne S.hobj S.hpass fun h3 tk3 oD3 F3 N3 D3 => ?_
  clear F2 N2
  dsimp only
  refine wpAny_execs_nil ?_
  exact leaveK_ F3 N3 fun F4 N4 => back dx oD3 h3 _ F4 N4 hxe off2 D3
theorem oor_call {A : Around} {h₀ : Heap} {L : Addr} {m : Str → Option Value} {tl : Led} {s : Shared} {x : Str} {i : Int} {y : Addr} {t1 t2 : Tok} {Q : Value → Shared → Prop} {env₀ : Env} {outer : List Env} {A₀ : Around} {base : Heap}
   (hA : A.frames = some (env₀ :: outer)) (hf : env₀.frame = some L) (hk : env₀.scope.kind = .function) (B : Below A₀ base outer h₀) (X : (Mine.hk.heap_1 w.params).In h₀) (T : Top topProg loose mean mg mb h₀) (hroom : A.depth + 6 < recursionLimit)
   (F : Fr h₀ L s.heap m) (N : News h₀ L s.heap tl)
   (back : ∀ e t dx nt h' tk, Fr h₀ L h' m → News h₀ L h' ((e, excObj 51 t (some dx)) :: (t, ({ cls := .type "tuple", data := .seq [.str x t1, .int i t2, .ref y].toArray nt } : Obj)) :: tl) → (∀ q ∈ tl, q.1 ≠ e) → (∀ q ∈ tl, q.1 ≠ t) → t ≠ e → Q (.ref e) { s with heap := h', toks := tk }) :
   wpAny (model PySem.Challenge.rw_nt0171_01.row.prog w) A (call (.ref 51) [.str x t1, .int i t2, .ref y]) Q (fun _ _ => False) s := by
  obtain ⟨nm, q, bs, hdct, sn, sub, ab, col, dd, k0, k1, k2, k3, k5, cd, O⟩ := oor w
  obtain ⟨oI, hoI, hoc⟩ := oor_fn w
  obtain ⟨hh, g, d, tk, os⟩ := s
  have X1 := X.keeps F.keep
  have hns := Heap.Ns.of_isNs (isNs_of_in X1 O.nsok)
  refine x_call PySem.F.excBase_Exception ⟨rfl, rfl, rfl⟩ (X1 _ _ O.at_) hns (ns_some_of X1 hns O.ini) (X1 _ _ hoI) hoc (fun h' e hm => ?_) (by size_fits)
  obtain ⟨hkeep, hnew, t, he, htn, ht⟩ := hm
  have F1 : Fr h₀ L h' m := F.keeps hkeep
  have fr : ∀ b, hh.get? b = none → h₀.get? b = none ∧ b ≠ L := fun b hb => by
    constructor
    · cases z : h₀.get? b with
      | none => rfl
      | some o =>
        have := F.keep _ _ z
        rw [hb] at this
        cases this
    · intro z
      obtain ⟨o, _, _, ho, _⟩ := F.ns
      rw [z] at hb
      rw [hb] at ho
      cases ho
  have N1 : News h₀ L h' ((e, excObj 51 t none) :: (t, ({ cls := .type "tuple", data := .seq [.str x t1, .int i t2, .ref y].toArray } : Obj)) :: tl) := fun p hp => by
    rcases List.mem_cons.mp hp with rfl | hp
    · exact ⟨he, (fr _ hnew).2, (fr _ hnew).1⟩
    · rcases List.mem_cons.mp hp with rfl | hp
      · exact ⟨ht, (fr _ htn).2, (fr _ htn).1⟩
      · exact ⟨hkeep _ _ (N p hp).1, (N p hp).2⟩
  have off : ∀ q ∈ tl, q.1 ≠ e := fun q hq z => by have := (N q hq).1; rw [z, hnew] at this; cases this
  have off2 : ∀ q ∈ tl, q.1 ≠ t := fun q hq z => by have := (N q hq).1; rw [z, htn] at this; cases this
  have hte : t ≠ e := fun z => by rw [z, he] at ht; cases ht
  refine' wpAny_call (code_def (binds := [("self", .ref e), ("name", .str x t1), ("place", .int i t2), ("datum", .ref y)]) B F1 X N1 T hA hf hk ?k6 ?k7 ?k8 ?k9 ?kB ?_ ?c2 ?c3 ?c4 ?c5)
  case k6 => k_is
  case k7 => k_is
  case k8 =>
    show A.depth + 1 < recursionLimit
    omega
  case k9 => exact BindsTo.of_eq rfl
  case c5 => decide
  case kB => exact locs rfl
  case c2 => exact rfl
  case c3 => exact rfl
  case c4 => exact rfl
  intro g' L' h'' FG' F' N' B' X' T'
  dsimp only
  clear F N F1 N1 X X1 T B hns hkeep he ht hnew htn fr
  have S := set_of O rfl
  clear O
  k_steps
  rename News _ _ _ _ => N9
  rename Fr _ _ _ _ => F9
  refine' wpAny_mono (E := fun _ _ => False) (se_init (tl := (t, ({ cls := .type "tuple", data := .seq [.str x t1, .int i t2, .ref y].toArray } : Obj)) :: tl) ?hA ?hf ?hk B' X' T' ?hr S ?hF ?hN ?ho ?back) (fun _ _ q => q) (fun _ _ q => q.elim)
  case hA =>
    show A.frames.map _ = _
    rw [hA]; rfl
  case hf => rfl
  case hk => rfl
  case hr =>
    show A.depth + 1 + 1 + 2 < _
    omega
  case hF => exact F9
  case hN =>
    intro p hp
    exact N9 p (.tail _ hp)
  case ho =>
    intro p hp
    rcases List.mem_cons.mp hp with rfl | hp
    · exact hte
    · exact off p hp
  intro dx oD h2 tk2 F2 N2 hxe off3 D2
  clear F9 N9
  dsimp only
  k_steps
  refine x_setN F2 X' N2 ?_ hxe off3 D2 (by decide) (fun c z => by cases z) S.hc S.hdict S.hs (tk_name w) S.hne S.hobj S.hpass fun h3 tk3 oD3 F3 N3 D3 => ?_
  · intro p hp
    rcases List.mem_cons.mp hp with rfl | hp
    · exact hte
    · exact off p hp
  clear F2 N2
  dsimp only
  k_steps
  refine x_setN F3 X' N3 ?_ hxe off3 D3 (by decide) (fun c z => by cases z) S.hc S.hdict S.hs (tk_place w) S.hne S.hobj S.hpass fun h4 tk4 oD4 F4 N4 D4 => ?_
  · intro p hp
    rcases List.mem_cons.mp hp with rfl | hp
    · exact hte
    · exact off p hp
  clear F3 N3
  dsimp only
  k_steps
  refine x_setN F4 X' N4 ?_ hxe off3 D4 (by decide) (fun c z => by cases z) S.hc S.hdict S.hs (tk_datum w) S.hne S.hobj S.hpass fun h5 tk5 oD5 F5 N5 D5 => ?_
  · intro p hp
    rcases List.mem_cons.mp hp with rfl | hp
    · exact hte
    · exact off p hp
  clear F4 N4
  dsimp only
  refine wpAny_execs_nil ?_
  refine leaveK_ F5 N5 fun F6 N6 => ⟨rfl, ?_⟩
  exact back e t dx 0 h5 _ F6 (fun p hp => N6 p (by
    simp only [List.mem_cons] at hp ⊢
    rcases hp with hp | hp | hp
    · exact .inl hp
    · exact .inr (.inr (.inl hp))
    · exact .inr (.inr (.inr hp)))) off off2 hte
end Mine

end
-- part N7
section
open PySem PySem.W PySem.Calls PyProof.Rows PySem.Spec
set_option Elab.async false
set_option maxRecDepth 100000
set_option maxHeartbeats 8000000
set_option linter.unusedVariables false
namespace Mine
variable {w : World} {loose : List Str} {mean : ExcName → Option Value} {mg mb : Str → Option Value}
noncomputable def OorMade (w : World) (E : Value → Shared → Prop) (v : Value) (s₁ : Shared) : Prop := ∃ a t dx, v = .ref a ∧ (Mine.hk.heap_1 w.params).In s₁.heap ∧ s₁.heap.get? a = some (excObj 51 t (some dx)) ∧ E (.ref a) s₁
theorem oor_raise {A : Around} {E : Value → Shared → Prop} {s : Shared} {env : Env} {e : Expr} {pos : Pos} {Q : Flow → Shared → Prop} (hh : A.handled = none)
    (h : wpAny (model PySem.Challenge.rw_nt0171_01.row.prog w) A (eval e env) (OorMade w E) E s) : wpAny (model PySem.Challenge.rw_nt0171_01.row.prog w) A (exec (.Raise (some e) none pos) env) Q E s := by
  obtain ⟨nm, q, bs, hdct, sn, sub, ab, col, dd, k0, k1, k2, k3, k5, cd, O⟩ := oor w
  exact x_raise (by rfl) hh (wpAny_mono h (fun v s₁ ⟨a, t, dx, h1, h2, h3, h4⟩ => ⟨a, t, dx, h1, h2 _ _ O.at_, h3, h4⟩) fun _ _ x => x)

/-- the raise's value is made, and the frame is left -/
theorem oor_made {A₁ : Around} {h₀ : Heap} {L a : Addr} {m : Str → Option Value} {news : Led} {s : Shared} {x : Str} {i : Int} {y : Addr} {t1 t2 : Tok} {outer : List Env} {base : Heap} {name : Str} {scope : Scope} {cd : Value} {R : Value → Shared → Prop}
   (K : Below A₁ base outer h₀) (X : (Mine.hk.heap_1 w.params).In h₀) (T : Top topProg loose mean mg mb h₀) (hroom : A₁.depth + 7 < recursionLimit) (hk : scope.kind = .function)
   (F : Fr h₀ L s.heap m) (N : News h₀ L s.heap news)
   (back : ∀ e t h' tk, RaisedK base outer e (.ref 51) t [.str x t1, .int i t2, .ref y] news h' → h₀.UpToSlots h' → R (.ref e) { s with heap := h', toks := tk }) :
   wpAny (model PySem.Challenge.rw_nt0171_01.row.prog w) (A₁.deeper (envOf name scope L a cd)) (call (.ref 51) [.str x t1, .int i t2, .ref y])
     (OorMade w fun e s' => wpAny (model PySem.Challenge.rw_nt0171_01.row.prog w) (A₁.deeper (envOf name scope L a cd)) (leaving (envOf name scope L a cd) e) (fun _ s'' => R e s'') (fun e' s'' => R e' s'') s')
     (fun e s' => wpAny (model PySem.Challenge.rw_nt0171_01.row.prog w) (A₁.deeper (envOf name scope L a cd)) (leaving (envOf name scope L a cd) e) (fun _ s'' => R e s'') (fun e' s'' => R e' s'') s') s := by
  refine wpAny_mono (oor_call (env₀ := envOf name scope L a cd) (outer := outer) (Around.frames_deeper K.stack) rfl hk K X T (by show A₁.depth + 1 + 6 < _; omega) F N fun e t dx nt h' tk F' N' n1 n2 n3 => ?_) (fun _ _ q => q) (fun _ _ q => q.elim)
  refine ⟨e, t, dx, rfl, X.keeps F'.keep, (N' _ (.head _)).1, ?_⟩
  exact x_leave K F' N' n1 n2 n3 (fun h2 R2 U2 => back e t h2 tk R2 U2) hk
end Mine

end
-- part N8
section
open PySem PySem.W PySem.Calls PyProof.Rows PySem.Spec
set_option Elab.async false
set_option maxRecDepth 100000
set_option maxHeartbeats 8000000
set_option linter.unusedVariables false
namespace Mine
theorem fill8 (w : World) : Mine.hk.heap_1 w.params = Mine.hk.heap_1 w.params ∧ PySem.Challenge.rw_nt0171_01.Holds = PySem.Challenge.rw_nt0171_01.Holds := by
  k_fill
  exact ⟨rfl, rfl⟩
theorem oor_ns (w : World) : nsIn (Mine.hk.heap_1 w.params) mainGlobals "OutOfRange" = some (some (.ref 51)) := by k_is
section
variable {M : Model} {A : Around} {E : Value → Shared → Prop} {s' : Shared} {base g g₂ : Heap} {outer : List Env} {L e t : Addr} {m : Str → Option Value} {env : Env} {Q : Unit → Shared → Prop} {news : List (Addr × Obj)} {cls : Value} {vs : List Value}
theorem x_leave_on (K : Below A base outer g) (F : Fr g L g₂ m) (R : RaisedK base (env :: outer) e cls t vs news s'.heap) (hsm : g₂.UpToSlots s'.heap)
    (hQ : ∀ h', RaisedK base outer e cls t vs news h' → g.UpToSlots h' → Q () { s' with heap := h' }) (hf : env.frame = some L := by rfl) :
    wpAny M (A.deeper env) (leaving env (.ref e)) Q E s' := by
  obtain ⟨⟨B, hB, hl, hfl, hnew⟩, htup⟩ := R
  exact wpAny_leaves_onW (Around.frames_deeper K.stack) hf hfl fun h' x1 x2 => hQ h' ⟨⟨B, hB, hl, x1, hnew⟩, htup.of_slots x2⟩ ((Heap.UpToSlots.of_keeps F.keep).trans (hsm.trans x2))
end
variable {w : World} {loose : List Str} {mean : ExcName → Option Value} {mg mb : Str → Option Value}
theorem oor_caught {A₀ : Around} {E : Value → Shared → Prop} {s' : Shared} {h₀ h : Heap} {outer : List Env} {L a e t : Addr} {m : Str → Option Value} {name : Str} {scope : Scope} {cd : Value}
  {vs : List Value} {b₀ : Stmt} {suite : List Stmt} {pos np : Pos} {rest : List ExceptHandler} {Q : Flow → Shared → Prop} {news : List (Addr × Obj)}
    (K : Below A₀ h₀ outer h₀) (F : Fr h₀ L h m) (hsm : h.UpToSlots s'.heap) (R : RaisedK h₀ (envOf name scope L a cd :: outer) e (.ref 51) t vs news s'.heap)
    (X : (Mine.hk.heap_1 w.params).In h₀) (T : Top topProg loose mean mg mb h₀)
    (k : ∀ h', Fr h₀ L h' m → News h₀ L h' news →
      wpAny (model PySem.Challenge.rw_nt0171_01.row.prog w) ((A₀.deeper (envOf name scope L a cd)).mark (some (.ref e))) (execs (b₀ :: suite) (envOf name scope L a cd)) Q E { s' with heap := h' })
    (hE : PassesOwnAt (model PySem.Challenge.rw_nt0171_01.row.prog w) ((A₀.deeper (envOf name scope L a cd)).mark (some (.ref e))) (A₀.deeper (envOf name scope L a cd)) (envOf name scope L a cd) E)
    (hk : scope.kind = .function) (hx : (envOf name scope L a cd).kindOf "OutOfRange" = some .globalImplicit) :
    wpAny (model PySem.Challenge.rw_nt0171_01.row.prog w) (A₀.deeper (envOf name scope L a cd)) (noteFrame (.ref e) (envOf name scope L a cd))
      (fun _ s₂ => wpAny (model PySem.Challenge.rw_nt0171_01.row.prog w) (A₀.deeper (envOf name scope L a cd)) (setFlight (.ref e) none) (fun _ s₃ =>
        wpAny (model PySem.Challenge.rw_nt0171_01.row.prog w) (A₀.deeper (envOf name scope L a cd)) (handleBy (.ref e) (envOf name scope L a cd) (.ExceptHandler (some (.Name "OutOfRange" np)) none (b₀ :: suite) pos :: rest)) Q E s₃) E s₂) E s' := by
  obtain ⟨nm, q, bs, hdct, sn, sub, ab, col, dd, k0, k1, k2, k3, k5, cd', O⟩ := oor w
  exact x_caught K F hsm R X (topRead_of T) (oor_ns w) O.at_ (by rfl) k hE hk hx
end Mine

end
-- part L3
section
open PySem PySem.W PySem.Calls PyProof.Rows Mine
set_option Elab.async false
set_option maxRecDepth 100000
set_option maxHeartbeats 8000000
theorem Mine.bits_ok (n : Nat) : 2 ≤ 2 + (n : Int).fmod 4 ∧ 2 + (n : Int).fmod 4 ≤ 5 := by
  rw [Int.fmod_eq_emod_of_nonneg _ (by decide)]
  omega
theorem Mine.law_led {cs cc ct : Pos × Str} {h₀ h : Heap} {L : Addr} {m : Str → Option Value} {t : Tabs} {nw : Led} {b : Int} {tb : Tok} (S : LSt cs cc ct [] h₀ L m h t nw) (hb : m "bits" = some (.int b tb)) :
    Fr h₀ L h (fun (y : Str) => if y = "bits" then some (.int b tb) else m y) ∧ News h₀ L h [(305, tabObj t.1), (312, tabObj t.2.1), (326, tabObj t.2.2)] := by
  have e : (fun (y : Str) => if y = "bits" then some (Value.int b tb) else m y) = m := funext fun y => by
    by_cases q : y = "bits"
    · rw [if_pos q, q, hb]
    · rw [if_neg q]
  rw [e]
  exact ⟨S.st.F, fun p hp => S.st.N p (List.mem_append_left _ hp)⟩
local macro_rules | `(tactic| walk_at "exec Raise some none") => `(tactic| (k_here; k_dflt (refine' Mine.oor_raise ?zhh ?_; (case zhh => first | rfl | assumption); k_whole)))
local macro_rules | `(tactic| k_qdec) => `(tactic| fail "no twin")
theorem Mine.walk : ∀ d kwd, defOf view PySem.Challenge.rw_nt0171_01.row.name = some (d, kwd) → WalkO view ["REACH"] (XL view [("REACH", .int 65536)]) (kmHook hk.heap_1 kas kas_is [326, 312, 305]).says PySem.Challenge.rw_nt0171_01.row.toRowW d kwd fun f vs => PySem.call f vs := by
  refine walk_of (by rfl) ?_
  w_strict (
  k_go0
  (all_goals try k_fold)
  k_steps
  rename News _ _ _ _ => N9
  rename Fr _ _ _ _ => F9
  rename IntsAre _ _ => I9
  rename Frag.In _ _ => X9
  rename Top _ _ _ _ _ _ => T9
  rename Below _ _ _ _ => B9
  obtain ⟨cs, cc, ct, CV⟩ := curves_of X9 T9
  refine' law_loop CV X9 T9 B9 ?c1 ?c2 ?c3 F9 N9 I9 ?z1 ?z2 ?z3 ?hb ?hb2 ?hk ?hcs ?hR ?hl ?hg ?done
  case c1 => assumption
  case c2 => assumption
  case c3 => assumption
  case z1 => simp
  case z2 => simp
  case z3 => simp
  case hb => exact rfl
  case hb2 => exact Mine.bits_ok _
  case hk => rfl
  case hcs => decide +kernel
  case hR => exact fun b c => Eq.trans (by kernel_rfl) (R_turn opsR Kmark b c)
  case hl => decide +kernel
  case hg => decide +kernel
  intro m1 t1 nw1 h1 tk1 tb1 S1 hb1
  show wpAny _ _ _ _ _ _
  refine' law_some CV X9 T9 B9 ?c1 ?c2 ?c3 ?hk ?hcs ?hl ?hg ?hsw ?hlc ?hrhs ?hbm ?fS ?fC ?fT hb1 S1 ?back
  case c1 => assumption
  case c2 => assumption
  case c3 => assumption
  case hk => rfl
  case hcs => decide +kernel
  case hl => decide +kernel
  case hg => decide +kernel
  case hsw => rfl
  case hlc => kernel_rfl
  case hrhs => kernel_rfl
  case hbm => rfl
  case fS => exact (zero_all (Mine.bits_ok _)).1
  case fC => exact (zero_all (Mine.bits_ok _)).2.1
  case fT => exact (zero_all (Mine.bits_ok _)).2.2
  intro m2 t2 nw2 h2 tk2 S2 sub2 hb2
  obtain ⟨F', N'⟩ := Mine.law_led S2 hb2
  clear F9 N9 I9 S1 hb1 S2 sub2 hb2 CV
  dsimp only
  k_steps
  refine' Mine.oor_made ?qK ?qX ?qT ?qr ?qk ?qF ?qN ?qb
  case qF => assumption
  case qN => assumption
  case qK => assumption
  case qX => assumption
  case qT => assumption
  case qr => exact (by decide +kernel : 1 + claimMargin + 1 + 1 + 7 < recursionLimit)
  case qk => rfl
  intro e9 t9 h9 tk9 R9 U9
  dsimp only
  refine' Mine.x_leave_on ?rK ?rF ?rR ?rU ?rb
  case rR => exact R9
  case rU => exact U9
  case rF => assumption
  case rK => assumption
  intro h10 R10 U10
  dsimp only
  refine' Mine.oor_caught ?tK ?tF ?tU ?tR ?tX ?tT ?tk ?tE ?tq ?tx
  case tR => exact R10
  case tU => exact U10
  case tF => assumption
  case tK => assumption
  case tX => assumption
  case tT => assumption
  case tE => passes_own
  case tq => rfl
  case tx => rfl
  intro h11 F' N'
  clear R9 U9 R10 U10
  dsimp only
  k_steps
  )

end
-- part Z1
section
open PySem PySem.W PySem.Calls PyProof.Rows
set_option maxRecDepth 100000
set_option maxHeartbeats 8000000
namespace Mine
-- These names are taken so that the library's Fast.makeTwin, which names a twin of a constant of an
-- async theorem under the theorem's own name, makes none for hx's own constants: the top's run goes
-- through without them, and their proofs (some 40 MB) would break the lid on the compiled file.
section
set_option Elab.async false
namespace hx
theorem tw10111687324866010389 : True := trivial
theorem tw1011593914326734453 : True := trivial
theorem tw10116244012155279326 : True := trivial
theorem tw10143001506211119355 : True := trivial
theorem tw1016313470199982537 : True := trivial
theorem tw10307356883056191786 : True := trivial
theorem tw10413734220558041264 : True := trivial
theorem tw1042766333825479770 : True := trivial
theorem tw10471693372546886218 : True := trivial
theorem tw10596243801935397713 : True := trivial
theorem tw10610913765530660747 : True := trivial
theorem tw10704556739469484813 : True := trivial
theorem tw10782636077873877296 : True := trivial
theorem tw10783175264176337430 : True := trivial
theorem tw10864032600957282309 : True := trivial
theorem tw10918413460159112602 : True := trivial
theorem tw10939141181510983603 : True := trivial
theorem tw10973832126581270915 : True := trivial
theorem tw1100523350065315309 : True := trivial
theorem tw11068126759796092325 : True := trivial
theorem tw11074221192868344092 : True := trivial
theorem tw11133863230559657982 : True := trivial
theorem tw11153277219916700167 : True := trivial
theorem tw11501113234145657499 : True := trivial
theorem tw11511833604947660874 : True := trivial
theorem tw11516083673652718094 : True := trivial
theorem tw11529457255951468018 : True := trivial
theorem tw1153333593483202143 : True := trivial
theorem tw11542809368468670571 : True := trivial
theorem tw11576060578404032109 : True := trivial
theorem tw11578488819760341122 : True := trivial
theorem tw11612918611221602328 : True := trivial
theorem tw11638055344888591642 : True := trivial
theorem tw11652467807154655573 : True := trivial
theorem tw11868710178002341650 : True := trivial
theorem tw11950744475718057257 : True := trivial
theorem tw12087079219971932454 : True := trivial
theorem tw12122080299700438669 : True := trivial
theorem tw12203261482158421150 : True := trivial
theorem tw12377959399836290067 : True := trivial
theorem tw12392353606877693820 : True := trivial
theorem tw12476055800596261357 : True := trivial
theorem tw12545834286116690562 : True := trivial
theorem tw12677999345953698985 : True := trivial
theorem tw12764173250460046966 : True := trivial
theorem tw12770057050171300576 : True := trivial
theorem tw12821517133369311258 : True := trivial
theorem tw12840931332580689146 : True := trivial
theorem tw12867322890000570906 : True := trivial
theorem tw12876500496384970917 : True := trivial
theorem tw12886684066980348408 : True := trivial
theorem tw12938584960106786947 : True := trivial
theorem tw13028522948772262508 : True := trivial
theorem tw13047111702688295373 : True := trivial
theorem tw13051606616835114215 : True := trivial
theorem tw13100434611214814302 : True := trivial
theorem tw13173629366862862663 : True := trivial
theorem tw13232853683838472331 : True := trivial
theorem tw13251139996166171883 : True := trivial
theorem tw13273623471580055978 : True := trivial
theorem tw13327334872544604925 : True := trivial
theorem tw13348707166376220045 : True := trivial
theorem tw13360980773314081272 : True := trivial
theorem tw13418063953174990607 : True := trivial
theorem tw1343601587134825943 : True := trivial
theorem tw13458227961471406816 : True := trivial
theorem tw1352479365382649514 : True := trivial
theorem tw13573091367720918108 : True := trivial
theorem tw13574767429253134702 : True := trivial
theorem tw1358250369764232750 : True := trivial
theorem tw13588689596132362657 : True := trivial
theorem tw1359767371040273477 : True := trivial
theorem tw13733715944362664559 : True := trivial
theorem tw1375955018112806077 : True := trivial
theorem tw13887421244684101553 : True := trivial
theorem tw13923397955430767758 : True := trivial
theorem tw13944549294047831903 : True := trivial
theorem tw13970432741380693950 : True := trivial
theorem tw13988871589513257693 : True := trivial
theorem tw13994185481600150508 : True := trivial
theorem tw14109388121306216238 : True := trivial
theorem tw14150925457611720700 : True := trivial
theorem tw1415654423932628287 : True := trivial
theorem tw14169341511654307922 : True := trivial
theorem tw14304415443402900283 : True := trivial
theorem tw14311561367197305191 : True := trivial
theorem tw14344502140286423506 : True := trivial
theorem tw14364079368883715770 : True := trivial
theorem tw14364110991727458282 : True := trivial
theorem tw14618633012687346700 : True := trivial
theorem tw14626987222883238387 : True := trivial
theorem tw14629616601678125156 : True := trivial
theorem tw1463196147053303394 : True := trivial
theorem tw14648767878841662682 : True := trivial
theorem tw1472627028676479429 : True := trivial
theorem tw14728151803300476778 : True := trivial
theorem tw14817645703785147396 : True := trivial
theorem tw14864025909548159269 : True := trivial
theorem tw14919038862432082165 : True := trivial
theorem tw14958249954385249000 : True := trivial
theorem tw14992983214800064602 : True := trivial
theorem tw15003182733627720372 : True := trivial
theorem tw15020162214462287587 : True := trivial
theorem tw15031465929163138751 : True := trivial
theorem tw15088012910613175391 : True := trivial
theorem tw15097703535185493621 : True := trivial
theorem tw15102594672415386349 : True := trivial
theorem tw1510941156237703019 : True := trivial
theorem tw15192764956840726322 : True := trivial
theorem tw15215796203213042296 : True := trivial
theorem tw15222671194020912597 : True := trivial
theorem tw15369465458315143963 : True := trivial
theorem tw15462683395770930534 : True := trivial
theorem tw15656486127985483219 : True := trivial
theorem tw15687806069674188760 : True := trivial
theorem tw15695149568941424871 : True := trivial
theorem tw15719070241404046249 : True := trivial
theorem tw15871474243252748558 : True := trivial
theorem tw15882349035831147880 : True := trivial
theorem tw15902653346226055279 : True := trivial
theorem tw15964317271155168136 : True := trivial
theorem tw16044307587897543647 : True := trivial
theorem tw16051292036045715728 : True := trivial
theorem tw16053221933270867258 : True := trivial
theorem tw16131195338128503568 : True := trivial
theorem tw16174250225865239651 : True := trivial
theorem tw16179723595558240676 : True := trivial
theorem tw16220354117797179089 : True := trivial
theorem tw1628044414854275119 : True := trivial
theorem tw16360138091275608265 : True := trivial
theorem tw16403607636861804150 : True := trivial
theorem tw16422446190411312259 : True := trivial
theorem tw16447564128994577934 : True := trivial
theorem tw16503685224865804450 : True := trivial
theorem tw16503919762052067167 : True := trivial
theorem tw16509932877354490577 : True := trivial
theorem tw16514233136784977297 : True := trivial
theorem tw16562810249119712046 : True := trivial
theorem tw1658197193684275316 : True := trivial
theorem tw16600827452279821873 : True := trivial
theorem tw16617463825281310940 : True := trivial
theorem tw16619632684288853345 : True := trivial
theorem tw16625174259953595169 : True := trivial
theorem tw16653890388018469145 : True := trivial
theorem tw16670953707802882552 : True := trivial
theorem tw16751661018229691023 : True := trivial
theorem tw1680849517792564725 : True := trivial
theorem tw16810214309375985759 : True := trivial
theorem tw16889384090722931010 : True := trivial
theorem tw16929762562273154506 : True := trivial
theorem tw16937982806788184370 : True := trivial
theorem tw17001873279354605088 : True := trivial
theorem tw1709533345360563255 : True := trivial
theorem tw17158850808337323685 : True := trivial
theorem tw17275657276791012314 : True := trivial
theorem tw17393156024033759196 : True := trivial
theorem tw17453721029707611201 : True := trivial
theorem tw17469929296604087836 : True := trivial
theorem tw1749809594243765621 : True := trivial
theorem tw17573937718456619690 : True := trivial
theorem tw17601551063327761115 : True := trivial
theorem tw1765193833724418456 : True := trivial
theorem tw17699125900338286826 : True := trivial
theorem tw17809212181156274236 : True := trivial
theorem tw17812654206654028429 : True := trivial
theorem tw18021650032858729757 : True := trivial
theorem tw18025658111944671314 : True := trivial
theorem tw18119002219515010161 : True := trivial
theorem tw18141915107381044649 : True := trivial
theorem tw18163383231904437410 : True := trivial
theorem tw18288557733248936724 : True := trivial
theorem tw1837536587343590555 : True := trivial
theorem tw18383182533153586477 : True := trivial
theorem tw1881273628141950129 : True := trivial
theorem tw1972047601138287618 : True := trivial
theorem tw2063962012853046974 : True := trivial
theorem tw2087738239193673434 : True := trivial
theorem tw2101144305115712416 : True := trivial
theorem tw2146883442004570292 : True := trivial
theorem tw2313343453469587 : True := trivial
theorem tw2358503780328766540 : True := trivial
theorem tw2492048929613541025 : True := trivial
theorem tw2504348554245470067 : True := trivial
theorem tw2530950033039335674 : True := trivial
theorem tw2559257357635606366 : True := trivial
theorem tw2580623763806008135 : True := trivial
theorem tw2598453218603719200 : True := trivial
theorem tw2618490190428073017 : True := trivial
theorem tw2660992353704633501 : True := trivial
theorem tw2690994299918733986 : True := trivial
theorem tw2702912257362749870 : True := trivial
theorem tw2745991006798580251 : True := trivial
theorem tw2786521351924353169 : True := trivial
theorem tw2822385975729611342 : True := trivial
theorem tw2848357750357388338 : True := trivial
theorem tw288411641489606368 : True := trivial
theorem tw2911593502983421243 : True := trivial
theorem tw2927320300579833983 : True := trivial
theorem tw2951018021206863066 : True := trivial
theorem tw3011061140052219710 : True := trivial
theorem tw3035972135482712479 : True := trivial
theorem tw30516888858077971 : True := trivial
theorem tw3064612590093021604 : True := trivial
theorem tw3089318795281737075 : True := trivial
theorem tw3126803895974666599 : True := trivial
theorem tw3127049559752940807 : True := trivial
theorem tw313783033510757027 : True := trivial
theorem tw3151352308241419672 : True := trivial
theorem tw3169779510389522523 : True := trivial
theorem tw3221206007101484751 : True := trivial
theorem tw3228090532262280768 : True := trivial
theorem tw3264777137382535416 : True := trivial
theorem tw3275178236903027326 : True := trivial
theorem tw3461369719786860586 : True := trivial
theorem tw3502533989761060701 : True := trivial
theorem tw3548908381971391680 : True := trivial
theorem tw3597224387928761530 : True := trivial
theorem tw3722370046394560457 : True := trivial
theorem tw3750262793593453663 : True := trivial
theorem tw3770322921552031231 : True := trivial
theorem tw3772895889506965678 : True := trivial
theorem tw3840107357115572158 : True := trivial
theorem tw3897231576808763883 : True := trivial
theorem tw3952756967378608505 : True := trivial
theorem tw396350801418547936 : True := trivial
theorem tw4003515419551643288 : True := trivial
theorem tw4039083011212233968 : True := trivial
theorem tw4081245987573513101 : True := trivial
theorem tw4232555702244796835 : True := trivial
theorem tw4277992108151645805 : True := trivial
theorem tw4311935586957980807 : True := trivial
theorem tw432897219053493142 : True := trivial
theorem tw440200682837978379 : True := trivial
theorem tw4443683451718327492 : True := trivial
theorem tw4518221268279412019 : True := trivial
theorem tw4538214954667625120 : True := trivial
theorem tw45817232647829279 : True := trivial
theorem tw4638685165426952821 : True := trivial
theorem tw4709067958626073384 : True := trivial
theorem tw4743368475946334711 : True := trivial
theorem tw4778239293986166988 : True := trivial
theorem tw4790614838382506437 : True := trivial
theorem tw4820356001183778062 : True := trivial
theorem tw4835485041952420608 : True := trivial
theorem tw4951867800294161291 : True := trivial
theorem tw4957977497641929111 : True := trivial
theorem tw4987836685589693749 : True := trivial
theorem tw5002266203513084153 : True := trivial
theorem tw5003379905787062580 : True := trivial
theorem tw5012581791309765258 : True := trivial
theorem tw5033423968699698886 : True := trivial
theorem tw5060404574720663952 : True := trivial
theorem tw5074251886428752240 : True := trivial
theorem tw5229663503899665235 : True := trivial
theorem tw5286479519828484009 : True := trivial
theorem tw5302141714640544522 : True := trivial
theorem tw5398259560503285783 : True := trivial
theorem tw540753489051694059 : True := trivial
theorem tw5492716820719653743 : True := trivial
theorem tw551878033868750631 : True := trivial
theorem tw5548490626718368004 : True := trivial
theorem tw5644764048023550207 : True := trivial
theorem tw568883250039891352 : True := trivial
theorem tw576899675763343441 : True := trivial
theorem tw5859954059831970930 : True := trivial
theorem tw5971702529781738994 : True := trivial
theorem tw5973647403945334939 : True := trivial
theorem tw5987738072841988675 : True := trivial
theorem tw6014501639692155450 : True := trivial
theorem tw6094537120995972945 : True := trivial
theorem tw616740878971486716 : True := trivial
theorem tw6225824510542169761 : True := trivial
theorem tw634369046800973281 : True := trivial
theorem tw6346493079076818392 : True := trivial
theorem tw6382291294955211999 : True := trivial
theorem tw64630411898889128 : True := trivial
theorem tw6572394689701441669 : True := trivial
theorem tw6590801892334686599 : True := trivial
theorem tw663058311725963850 : True := trivial
theorem tw663216957817655072 : True := trivial
theorem tw6700631356736508036 : True := trivial
theorem tw6768751125542400157 : True := trivial
theorem tw6810229405824084477 : True := trivial
theorem tw6810358813687007468 : True := trivial
theorem tw6821187626703829088 : True := trivial
theorem tw6836243782229160083 : True := trivial
theorem tw688426785669630529 : True := trivial
theorem tw6905475023927656221 : True := trivial
theorem tw6938760501003799309 : True := trivial
theorem tw6948474134290792126 : True := trivial
theorem tw6951225809539125009 : True := trivial
theorem tw7010757331310601657 : True := trivial
theorem tw7105652820812284432 : True := trivial
theorem tw7117039502732272165 : True := trivial
theorem tw7118774718363930462 : True := trivial
theorem tw7160642757287845954 : True := trivial
theorem tw7168309623211571701 : True := trivial
theorem tw7196959931366684185 : True := trivial
theorem tw7271874215164270623 : True := trivial
theorem tw7291546937901893924 : True := trivial
theorem tw740715605865335615 : True := trivial
theorem tw7411675879612560423 : True := trivial
theorem tw7445733027249461639 : True := trivial
theorem tw7448076970475776704 : True := trivial
theorem tw7462397087798485187 : True := trivial
theorem tw7492030116529166354 : True := trivial
theorem tw7789537453598603269 : True := trivial
theorem tw7822962280082496512 : True := trivial
theorem tw7864485984771250624 : True := trivial
theorem tw7891766511613034010 : True := trivial
theorem tw7924969997821631868 : True := trivial
theorem tw7992169660659198757 : True := trivial
theorem tw8013753438709209555 : True := trivial
theorem tw8063799498105216150 : True := trivial
theorem tw8069092538493481521 : True := trivial
theorem tw8072070048918887560 : True := trivial
theorem tw8078265402885471976 : True := trivial
theorem tw8089808293607095345 : True := trivial
theorem tw811370354263480444 : True := trivial
theorem tw8153351105357841641 : True := trivial
theorem tw8210334511716523686 : True := trivial
theorem tw8280520150143245440 : True := trivial
theorem tw8294567603793468075 : True := trivial
theorem tw829882407734958542 : True := trivial
theorem tw8339939058450410749 : True := trivial
theorem tw8374021121780711109 : True := trivial
theorem tw8383832312975943185 : True := trivial
theorem tw8462949007004437653 : True := trivial
theorem tw8576703452051888039 : True := trivial
theorem tw8629640164197408899 : True := trivial
theorem tw8644560031705490810 : True := trivial
theorem tw8680568747675894556 : True := trivial
theorem tw8683918616840425538 : True := trivial
theorem tw8719310546069769394 : True := trivial
theorem tw8791178820788453978 : True := trivial
theorem tw8800404311707590821 : True := trivial
theorem tw8866640492970853812 : True := trivial
theorem tw8916866690797206258 : True := trivial
theorem tw899982699746041680 : True := trivial
theorem tw9067985455519472299 : True := trivial
theorem tw9071423850677124175 : True := trivial
theorem tw9115037031211061566 : True := trivial
theorem tw9160301636639237467 : True := trivial
theorem tw919350103801827390 : True := trivial
theorem tw9201398526625960060 : True := trivial
theorem tw9229111910879503682 : True := trivial
theorem tw9300793153402489460 : True := trivial
theorem tw9425653185733914764 : True := trivial
theorem tw9440667166201527827 : True := trivial
theorem tw9463795675075205437 : True := trivial
theorem tw9504622745713830366 : True := trivial
theorem tw9580440979016352591 : True := trivial
theorem tw9661119599188179355 : True := trivial
theorem tw9728156084186220081 : True := trivial
theorem tw9728688711462037987 : True := trivial
theorem tw9733707994341241046 : True := trivial
theorem tw9776661771263451771 : True := trivial
theorem tw9838419238923530799 : True := trivial
theorem tw990764820897086996 : True := trivial
theorem tw9960968122618143832 : True := trivial
theorem tw9975269523818592724 : True := trivial
end hx
end
theorem walk_at {q : Program} {d : DefRec} {kwd : List (Str × Expr)} (e : q = view) (h : defOf view PySem.Challenge.rw_nt0171_01.row.name = some (d, kwd)) : WalkO q ["REACH"] (XL q [("REACH", .int 65536)]) (kmHook hk.heap_1 kas kas_is [326, 312, 305]).says PySem.Challenge.rw_nt0171_01.row.toRowW d kwd fun f vs => PySem.call f vs := by
  subst e
  exact walk _ _ h
set_option Elab.async true in
theorem hx : PySem.Challenge.rw_nt0171_01.Holds := by
  w_on
  o_law
  o_head (kmHook hk.heap_1 kas kas_is [326, 312, 305])
  case hw => w_witness2
  exact walk_at (by kernel_rfl) (by kernel_rfl)
end Mine
theorem PySem.Challenge.cw_nt0171_01_holds : PySem.Challenge.rw_nt0171_01.Holds := by
  exact Mine.hx

end
