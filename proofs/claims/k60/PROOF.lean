import PyProof.Rows.All
import Wide.All
import OpenK.AllK
import Wide.FinOn
import HandS.ForMost
import HandS.Deep
import HandS.Zip
import HandS.IsInst
import HandS.Conv
import HandS.Walk
import HandS.Wide
import HandS.Style
import HandS.Exc
import HandS.WordsExc
import KE.DataCmp
import KE.SortData
import HandS.More
import HandS.TupLen
import PySem.Challenge.RW_bitsbetween_k60_whole_known_blocks_and_c
import Lean
import KE.KStateDown
import HandS.Defaults
import HandS.Head0
import HandS.Head1
import HandS.Head2
import HandS.HeadEnd
import HandS.HeadHook1
import HandS.HeadHook2
set_option Elab.async false
set_option linter.all false
set_option maxRecDepth 100000
set_option maxHeartbeats 4000000
/-! The compact texts of defs (Ex, Sx), what is checked of them against the row's own text (ck..), their readings (rd..), and that the readings hold. -/
namespace Bb
open L2 PyProof.Rows PySem.Spec PySem

/-! ### compact texts -/
inductive Bop | add | sub | mul | fdiv | mod | pow deriving DecidableEq
def Bop.op : Bop → Operator
  | .add => .Add | .sub => .Sub | .mul => .Mult | .fdiv => .FloorDiv | .mod => .Mod | .pow => .Pow
inductive Cop | eq | ne | lt | le | gt | ge | isin | notin deriving DecidableEq
def Cop.op : Cop → CmpOp
  | .eq => .Eq | .ne => .NotEq | .lt => .Lt | .le => .LtE | .gt => .Gt | .ge => .GtE | .isin => .In | .notin => .NotIn
inductive Bf | len | abs | all | any | sorted | min1 | max1 | min2 | max2 | sum | int | list | tuple | dict | isinst deriving DecidableEq
inductive Kd | non | bool | int | str | list | tuple | dict
def Kd.name : Kd → String
  | .non => "NoneType" | .bool => "bool" | .int => "int" | .str => "str" | .list => "list" | .tuple => "tuple" | .dict => "dict"
def Kd.code : Kd → Nat
  | .non => 0 | .bool => 1 | .int => 2 | .str => 3 | .list => 4 | .tuple => 5 | .dict => 6
inductive Tg | nm (i : Nat) | tp (is : List Nat) deriving DecidableEq
mutual
inductive Ex where
  | var (i : Nat) | non | bl (b : Bool) | int (i : Int) | str (s : Str) | ty (n : Kd)
  | bin (o : Bop) (a b : Ex) | neg (a : Ex) | not (a : Ex) | and (a b : Ex) | or (a b : Ex)
  | cmp (o : Cop) (a b : Ex) | isN (a : Ex) | notN (a : Ex) | ite (c a b : Ex)
  | lst (es : Exs) | tup (es : Exs) | dnew (t : Bool)
  | comp (elt : Ex) (tg : Tg) (it : Itx) (cond : Exs) (own : List Nat)
  | call (f : Nat) (es : Exs) | bf (b : Bf) (es : Exs) | lrng (es : Exs)
  | idx (a i : Ex) | slice (a : Ex) (lo hi : Exs)
  | callk (f : Nat) (es : Exs) | never | pop0 (a : Ex)
inductive Exs where
  | nil | cons (e : Ex) (es : Exs)
inductive Itx where
  | val (e : Ex) | rng (es : Exs) | enum (e : Ex) | zip (a b : Ex)
end
mutual
inductive Sx where
  | set (i : Nat) (e : Ex) | par (i j : Nat) (a b : Ex) | par3 (i j l : Nat) (a b c : Ex) | asg (is : List Nat) (e : Ex)
  | put (o i v : Ex) | app (o v : Ex) | ext (o v : Ex)
  | ite (c : Ex) (a b : Sxs) | for (tg : Tg) (it : Itx) (b : Sxs) | while (c : Ex) (b : Sxs)
  | ret (e : Ex) | retN | drop (e : Ex) | pass | never
inductive Sxs where
  | nil | cons (s : Sx) (ss : Sxs)
end

/-- a def that may be called: its name, its parameters, whether all of them may be told by name -/
structure FnE where
  x : Str
  ps : List Str
  kw : Bool

/-! ### names -/
def bfName : Bf → Str
  | .len => "len" | .abs => "abs" | .all => "all" | .any => "any" | .sorted => "sorted" | .min1 => "min" | .max1 => "max" | .min2 => "min" | .max2 => "max"
  | .sum => "sum" | .int => "int" | .list => "list" | .tuple => "tuple" | .dict => "dict" | .isinst => "isinstance"
def bfMany : Bf → Nat
  | .min2 => 2 | .max2 => 2 | .isinst => 2 | _ => 1
def bNames : List Str := ["len", "abs", "all", "any", "sorted", "min", "max", "sum", "int", "list", "tuple", "dict", "isinstance", "range", "enumerate", "zip", "bool", "str"]
def tyNames : List (Str × String) := [("int", "int"), ("bool", "bool"), ("str", "str"), ("list", "list"), ("tuple", "tuple"), ("dict", "dict")]
def vis (sc : Scope) (x : Str) : Bool := match sc.names.lookup x with
  | some .local => true | some .cell => true | some .free => true | _ => false
def loc (sc : Scope) (x : Str) : Bool := match sc.names.lookup x with
  | some .local => true | some .cell => true | _ => false
def gl (sc : Scope) (x : Str) : Bool := match sc.names.lookup x with
  | some .globalImplicit => true | _ => false
def okN (x : Str) : Bool := !(x == ("__debug__" : Str)) && !(x == ("__classdict__" : Str))
/-! ### shapes of expressions -/
def nst : Expr → Bool | .Starred _ _ => false | _ => true
def nsl : Expr → Bool | .Slice _ _ _ _ => false | _ => true
def nif : Expr → Bool | .IfExp _ _ _ _ => false | _ => true
def ncomp : Expr → Bool | .ListComp _ _ _ _ => false | .SetComp _ _ _ _ => false | .DictComp _ _ _ _ _ => false | _ => true
def ntup : Expr → Bool | .Tuple _ _ _ => false | _ => true
def isTupE : Expr → Bool | .Tuple _ _ _ => true | _ => false
def isBO : Expr → Bool | .BoolOp _ _ _ => true | _ => false
def nset : Expr → Bool | .Set _ _ _ => false | _ => true
def nnest : Expr → Bool | .Call _ _ _ _ => false | _ => true
def kx (N : List Str) (sc : Scope) (i : Nat) (x : Str) : Bool := decide (N[i]? = some x) && loc sc x
def ckNs (N : List Str) (sc : Scope) : List Nat → List Expr → Bool
  | [], [] => true
  | i :: is, .Name x _ :: es => kx N sc i x && ckNs N sc is es
  | _, _ => false
def ckTg (N : List Str) (sc : Scope) : Tg → Expr → Bool
  | .nm i, .Name x _ => kx N sc i x
  | .tp is, .Tuple es _ _ => ckNs N sc is es
  | _, _ => false
def ownOf (N : List Str) (own : List Nat) : List (Str × Nat) := own.map fun i => ((N[i]?).getD "", i)

def nnest1 : Expr → Bool | .Call _ _ _ _ => false | _ => true
theorem base_of {x : Expr} {n : Str} {env : Env} (h : nnest1 x = true) : attributeBase x n env (eval x env) = eval x env := by
  cases x <;> first | rfl | (cases h; done)
def ckKs : List Str → List Keyword → Bool
  | [], [] => true
  | p :: ps, k :: ks => decide (k.arg = some p) && ckKs ps ks
  | _, _ => false
mutual
def ckE (N : List Str) (FN : List FnE) (sc : Scope) : Ex → Expr → Bool
  | .var i, x => match x with | .Name y _ => decide (N[i]? = some y) && vis sc y && okN y | _ => false
  | .non, x => match x with | .Constant .none _ _ => true | _ => false
  | .bl b, x => match x with | .Constant (.bool c) _ _ => b == c | _ => false
  | .int i, x => match x with | .Constant (.int j) _ _ => i == j | _ => false
  | .str s, x => match x with | .Constant (.str t) _ _ => s == t | _ => false
  | .ty n, x => match x with | .Name y _ => decide ((y, n.name) ∈ tyNames) && gl sc y | _ => false
  | .bin o a b, x => match x with | .BinOp l op r _ => decide (op = o.op) && ckE N FN sc a l && ckE N FN sc b r | _ => false
  | .neg a, x => match x with | .UnaryOp .USub l _ => ckE N FN sc a l | _ => false
  | .not a, x => match x with | .UnaryOp .Not l _ => nif l && ckE N FN sc a l | _ => false
  | .and a b, x => match x with
    | .BoolOp .And (l :: r :: t) p => nif l && ckE N FN sc a l && (match t with | [] => nif r && ckE N FN sc b r | _ :: _ => ckE N FN sc b (.BoolOp .And (r :: t) p))
    | _ => false
  | .or a b, x => match x with
    | .BoolOp .Or (l :: r :: t) p => nif l && ckE N FN sc a l && (match t with | [] => nif r && ckE N FN sc b r | _ :: _ => ckE N FN sc b (.BoolOp .Or (r :: t) p))
    | _ => false
  | .cmp o a b, x => match x with | .Compare l [op] [r] _ => decide (op = o.op) && nset r && ckE N FN sc a l && ckE N FN sc b r | _ => false
  | .isN a, x => match x with | .Compare l [.Is] [.Constant .none _ _] _ => ckE N FN sc a l | _ => false
  | .notN a, x => match x with | .Compare l [.IsNot] [.Constant .none _ _] _ => ckE N FN sc a l | _ => false
  | .ite c a b, x => match x with | .IfExp t l r _ => nif t && ckE N FN sc c t && ckE N FN sc a l && ckE N FN sc b r | _ => false
  | .lst es, x => match x with | .List xs _ => ckEs N FN sc es xs | _ => false
  | .tup es, x => match x with | .Tuple xs _ _ => ckEs N FN sc es xs | _ => false
  | .dnew _, x => match x with | .Dict [] [] _ => true | _ => false
  | .comp elt tg it cond own, x => match x with
    | .ListComp l [⟨t, i, fs, 0⟩] s _ => blkC N sc s (ownOf N own) && nset i && ckTg N s tg t && ckI N FN sc t it i && ckC N FN s cond fs && ckE N FN s elt l
    | _ => false
  | .call f es, x => match x with
    | .Call (.Name y _) (l :: ls) [] _ => (match FN[f]? with | some d => decide (d.x = y) | none => false) && gl sc y && okN y && ckEs N FN sc es (l :: ls)
    | _ => false
  | .bf b es, x => match x with
    | .Call (.Name y _) (l :: ls) [] _ => decide (y = bfName b) && gl sc y && decide ((l :: ls).length = bfMany b) && ckEs N FN sc es (l :: ls)
    | _ => false
  | .lrng es, x => match x with
    | .Call (.Name y _) [.Call (.Name z _) ls [] _] [] _ => decide (y = ("list" : Str)) && gl sc y && decide (z = ("range" : Str)) && gl sc z && (decide (ls.length = 1) || decide (ls.length = 2)) && ckEs N FN sc es ls
    | _ => false
  | .idx a i, x => match x with | .Subscript l s _ => nsl s && ckE N FN sc a l && ckE N FN sc i s | _ => false
  | .slice a lo hi, x => match x with | .Subscript l (.Slice u v none _) _ => ckE N FN sc a l && ckO N FN sc lo u && ckO N FN sc hi v | _ => false
  | .callk f es, x => match x with
    | .Call (.Name y _) [] kws _ => (match FN[f]? with | some d => decide (d.x = y) && d.kw && ckKs d.ps.reverse kws | none => false) && gl sc y && okN y && ckEs N FN sc es (kws.map (·.value))
    | _ => false
  | .never, _ => true
  | .pop0 a, x => match x with
    | .Call (.Attribute l n p) [.Constant (.int 0) _ _] [] q => decide (n = ("pop" : Str)) && (p.endLine == q.line) && nnest1 l && ckE N FN sc a l
    | _ => false
def ckEs (N : List Str) (FN : List FnE) (sc : Scope) : Exs → List Expr → Bool
  | .nil, xs => match xs with | [] => true | _ => false
  | .cons e es, xs => match xs with | l :: ls => nst l && ckE N FN sc e l && ckEs N FN sc es ls | _ => false
def ckC (N : List Str) (FN : List FnE) (sc : Scope) : Exs → List Expr → Bool
  | .nil, xs => match xs with | [] => true | _ => false
  | .cons e _, xs => match xs with | [l] => nif l && ckE N FN sc e l | _ => false
def ckO (N : List Str) (FN : List FnE) (sc : Scope) : Exs → Option Expr → Bool
  | .nil, x => match x with | none => true | _ => false
  | .cons e _, x => match x with | some l => ckE N FN sc e l | _ => false
def ckI (N : List Str) (FN : List FnE) (sc : Scope) (tg : Expr) : Itx → Expr → Bool
  | .val e, x => ckE N FN sc e x
  | .rng es, x => match x with
    | .Call (.Name y _) ls [] _ => decide (y = ("range" : Str)) && gl sc y && (decide (ls.length = 1) || decide (ls.length = 2)) && ckEs N FN sc es ls
    | _ => false
  | .enum e, x => match x with
    | .Call (.Name y _) [l] [] _ => isTupE tg && decide (y = ("enumerate" : Str)) && gl sc y && nst l && ckE N FN sc e l
    | _ => false
  | .zip a b, x => match x with
    | .Call (.Name y _) [l, r] [] _ => isTupE tg && decide (y = ("zip" : Str)) && gl sc y && nst l && nst r && ckE N FN sc a l && ckE N FN sc b r
    | _ => false
end

/-! ### what the readings know: the promises of the defs by their numbers -/
structure RC where
  K : PySem.W.Frag
  sp : Nat → Sp
  k : Nat
  xa : Nat → Addr
  xf : Nat → Str
/-- all parameters told by name, from the last to the first -/
def KB0 (K : PySem.W.Frag) (fd : FuncData) (ps : List Str) : Prop := ∀ (s : Shared) (ws : List Value), K.In s.heap → ws.length = ps.length → BindsTo s fd ⟨[], ps.reverse.zip ws⟩ (ps.zip ws.reverse)
/-- the module's side -/
structure GOk (C : RC) (FN : List FnE) (X : Cx) : Prop where
  K : C.K = X.K
  room : Room C.k X.A
  fns : ∀ f d, FN[f]? = some d → ∃ a fd, FnOk X.prog X.w X.K X.mg X.base (L2.CX X.prog X.w) C.k a fd d.ps (C.sp f) ∧ X.mg d.x = some (.ref a) ∧ PySem.W.keepIn X.K (.ref a) = true ∧ Binds X.K fd d.ps [] ∧ (d.kw = true → KB0 X.K fd d.ps)
  blt : ∀ x ∈ bNames, X.mg x = none
/-- the context -/
structure CxOk (C : RC) (N : List Str) (FN : List FnE) (sc : Scope) (E : XK) (X : Cx) : Prop where
  nN : X.N = N
  nd : N.Nodup
  scp : ∀ x k, sc.names.lookup x = some k → X.env.scope.names.lookup x = some k ∨ (k = .free ∧ X.env.scope.names.lookup x = some .cell)
  fnp : ∀ x, sc.names.lookup x = some .cell → X.fn x = true
  calm : X.calm = true
  g : GOk C FN X
  pass : Passes (L2.CX X.prog X.w) X E

/-! ### by values -/
def binR (K : PySem.W.Frag) : Bop → R2
  | .add => fun x y H Q => (rI0 fun i j => .int (i + j)) x y H Q ∨ rCat x y H Q ∨ rCatT K x y H Q
  | .sub => rI0 fun i j => .int (i - j)
  | .mul => fun x y H Q => (rI CMul fun i j => .int (i * j)) x y H Q ∨ (rI CMulW fun i j => .int (i * j)) x y H Q ∨ rRep x y H Q
  | .fdiv => fun x y H Q => (rI CDivN fun i j => .int (i.fdiv j)) x y H Q ∨ (rI CDivW fun i j => .int (i / j)) x y H Q
  | .mod => rI (fun _ j => j ≠ 0) fun i j => .int (i.fmod j)
  | .pow => rI CPow fun i j => .int (i ^ j.toNat)
theorem op_bin {X : Cx} (o : Bop) : OpR X (binaryOp o.op) (binR X.K o) := by
  cases o with
  | add => exact op_add.or (op_cat.or op_catT)
  | sub => exact op_sub
  | mul => exact op_mul.or (op_mulW.or op_rep)
  | fdiv => exact op_fdivN.or op_fdivW
  | mod => exact op_modN
  | pow => exact op_pow
/-- data compared -/
def rCmpD (K : PySem.W.Frag) (g : PyData → PyData → Bool) : R2 := fun x y H Q => ∃ d e, Dp K H x d ∧ Dp K H y e ∧ PySem.W.alike d e = true ∧ d ≠ .none ∧ d.depth ≤ 60 ∧ Q (.bl (g d e)) H
theorem op_cmpD {X : Cx} (hu : X.A.units + 64 < cLine) {op : CmpOp} {g : PyData → PyData → Bool}
    (rule : ∀ {a b : Value} {da db : PyData} {as bs : List Addr} {E Q : Value → Shared → Prop} {s : Shared}, Reads s.heap a da as → Reads s.heap b db bs → PySem.W.alike da db = true → da ≠ .none → X.A.units + min da.depth db.depth < cLine → Q (.bool (g da db)) s → wpAny (model X.prog X.w) X.A (compareOp op a b) Q E s) :
    OpR X (compareOp op) (rCmpD X.K g) := by
  intro pins s σ H x y v u Q I rx ry h
  obtain ⟨d, e, hd, he, al, nn, dp, q⟩ := h
  obtain ⟨as, r1⟩ := Dp.reads I d x v hd rx
  obtain ⟨bs, r2⟩ := Dp.reads I e y u he ry
  have h2 : min d.depth e.depth ≤ d.depth := Nat.min_le_left _ _
  exact rule r1 r2 al nn (by omega) ⟨.bl _, H, I, rfl, q⟩
def rDictIn : R2 := fun x y H Q => ∃ a o, y = .ref a ∧ DGet H a x o ∧ Q (.bl o.isSome) H
def rDictNotIn : R2 := fun x y H Q => ∃ a o, y = .ref a ∧ DGet H a x o ∧ Q (.bl (!o.isSome)) H
theorem op_dictIn {X : Cx} (hu : X.A.units + 1 < cLine) : OpR X (compareOp .In) rDictIn := by
  intro pins s σ H x y v u Q I rx ry h
  obtain ⟨a, o, rfl, g, q⟩ := h
  obtain rfl : u = Value.ref a := ry
  exact d_in hu I g rx fun s3 I3 => ⟨.bl o.isSome, H, I3, rfl, q⟩
theorem op_dictNotIn {X : Cx} (hu : X.A.units + 1 < cLine) : OpR X (compareOp .NotIn) rDictNotIn := by
  intro pins s σ H x y v u Q I rx ry h
  obtain ⟨a, o, rfl, g, q⟩ := h
  obtain rfl : u = Value.ref a := ry
  exact d_notIn hu I g rx fun s3 I3 => ⟨.bl (!o.isSome), H, I3, rfl, q⟩
def cmpR (K : PySem.W.Frag) : Cop → R2
  | .eq => fun x y H Q => rEq x y H Q ∨ rEqD K x y H Q
  | .ne => fun x y H Q => rNe x y H Q ∨ rNeD K x y H Q
  | .lt => fun x y H Q => (rI0 fun i j => .bl (decide (i < j))) x y H Q ∨ rCmpD K (fun d e => PySem.W.dataLt d e) x y H Q
  | .le => fun x y H Q => (rI0 fun i j => .bl (decide (i ≤ j))) x y H Q ∨ rCmpD K (fun d e => !PySem.W.dataLt e d) x y H Q
  | .gt => fun x y H Q => (rI0 fun i j => .bl (decide (j < i))) x y H Q ∨ rCmpD K (fun d e => PySem.W.dataLt e d) x y H Q
  | .ge => fun x y H Q => (rI0 fun i j => .bl (decide (j ≤ i))) x y H Q ∨ rCmpD K (fun d e => !PySem.W.dataLt d e) x y H Q
  | .isin => fun x y H Q => rIn K false x y H Q ∨ rInD K x y H Q ∨ rDictIn x y H Q
  | .notin => fun x y H Q => rIn K true x y H Q ∨ rNotInD K x y H Q ∨ rDictNotIn x y H Q
theorem op_cmpC {X : Cx} (hu : X.A.units + 65 < cLine) (o : Cop) : OpR X (compareOp o.op) (cmpR X.K o) := by
  have hu' : X.A.units + 64 < cLine := by omega
  cases o with
  | eq => exact op_eq.or (op_eqD hu')
  | ne => exact op_ne.or (op_neD hu')
  | lt => exact op_lt.or (op_cmpD hu' fun a b c d e f => PySem.W.lt_data a b c d e f)
  | le => exact op_le.or (op_cmpD hu' fun a b c d e f => PySem.W.le_data a b c d e f)
  | gt => exact op_gt.or (op_cmpD hu' fun a b c d e f => PySem.W.gt_data a b c d e f)
  | ge => exact op_ge.or (op_cmpD hu' fun a b c d e f => PySem.W.ge_data a b c d e f)
  | isin => exact op_in_seq.or ((op_inD hu).or (op_dictIn (by omega)))
  | notin => exact op_notIn_seq.or ((op_notInD hu).or (op_dictNotIn (by omega)))
/-- sorted(xs), the items data of one form -/
def rSortD (K : PySem.W.Frag) : List V → Hp → VK → Prop := fun vs H Q => ∃ (a : Addr) (xs : List (V × PyData)), vs = [.ref a] ∧ SqL K H a (xs.map (·.1)) ∧ DpAll K H (xs.map (·.1)) (xs.map (·.2)) ∧ PySem.W.AllAlike (xs.map (·.2)) ∧ PySem.W.Sortable (xs.map (·.2)) ∧
  (∀ p ∈ xs, p.2.depth ≤ 60) ∧ ∀ p, H p = none → Q (.ref p) (upd H p (.lst ((xs.mergeSort (PySem.W.dataLe false fun p => p.2)).map (·.1))))
theorem each_rel : ∀ {xs : List (V × PyData)} {us : List Value}, Vals (xs.map (·.1)) us → PySem.W.EachIs (fun u (p : V × PyData) => RelV p.1 u) us xs
  | [], us, r => by
    have r' : Vals [] us := r
    cases r'
    exact .nil
  | p :: xs, us, r => by
    have r' : Vals (p.1 :: xs.map (·.1)) us := r
    cases r' with
    | cons h t => exact .cons h (each_rel t)
theorem rel_each : ∀ {xs : List (V × PyData)} {us : List Value}, PySem.W.EachIs (fun u (p : V × PyData) => RelV p.1 u) us xs → Vals (xs.map (·.1)) us
  | _, _, .nil => .nil
  | _, _, .cons h t => .cons h (rel_each t)
theorem call_sortD {X : Cx} (hu : X.A.units + 64 < cLine) : CallR X (.builtin "sorted") (rSortD X.K) := by
  intro pins s σ H vs us Q I r h
  obtain ⟨a, xs, rfl, hq, hd, hal, hk, hdep, q⟩ := h
  obtain ⟨u, rfl, rx⟩ := vals1 r
  cases rx
  obtain ⟨its, rv, pl, hz⟩ := I.list hq
  obtain ⟨as, rr⟩ := Dp.readsAll I _ _ _ hd rv
  have hlen : xs.length ≤ sizeLine := by rw [List.length_map] at hz; exact hz
  refine PySem.W.sorted_data (R := fun u (p : V × PyData) => RelV p.1 u) (enc := fun p => p.2) pl.isList (each_rel rv) (PySem.W.readsAll_each (fun p : V × PyData => p.2) rr) hal hk hlen (fun b hb => by have := hdep b hb; omega) fun out hl e => ?_
  obtain ⟨c, hc⟩ := sortedAll_at s.heap its out.toArray
  have hn : H (s.heap.objs.size + 1) = none := I.hok.fresh (Nat.le_succ _)
  refine ⟨.ref (s.heap.objs.size + 1), _, I.laid (t' := s.toks) (fun b o e => sortedAll_old e) (Nat.le_succ _) ?_, rfl, q _ hn⟩
  exact ⟨by rw [List.length_map, ← e.length, hl]; exact hlen, out, c, rel_each e, hc⟩
/-- d's keys, ints, sorted -/
def rSortK : List V → Hp → VK → Prop := fun xs H Q => ∃ (a : Addr) (kvs : List (Key × V)) (ks : List Int), xs = [.ref a] ∧ Rd H a (.dK kvs) ∧ kvs.map (·.1) = ks.map Sum.inl ∧ ks.length < 64 ∧
    ∀ (ys : List Int) (p : Addr), ys.Perm ks → ys.Pairwise (· ≤ ·) → H p = none → Q (.ref p) (upd H p (.lst (ys.map V.int)))
def bfR (K : PySem.W.Frag) : Bf → List V → Hp → VK → Prop
  | .len => fun xs H Q => (∃ x n, xs = [x] ∧ LenV K x H n ∧ Q (.int n) H) ∨ (∃ a kvs, xs = [V.ref a] ∧ H a = some (.dK kvs) ∧ Q (.int kvs.length) H) ∨ rLenT xs H Q
  | .abs => fun xs H Q => ∃ i, xs = [.int i] ∧ Q (.int (if i < 0 then -i else i)) H
  | .all => rAll K
  | .any => rAny K
  | .sorted => fun xs H Q => rSortD K xs H Q ∨ rSortK xs H Q
  | .min1 => rMin K
  | .max1 => rMax K
  | .min2 => fun xs H Q => ∃ i j, xs = [.int i, .int j] ∧ Q (.int (if j < i then j else i)) H
  | .max2 => fun xs H Q => ∃ i j, xs = [.int i, .int j] ∧ Q (.int (if j > i then j else i)) H
  | .sum => rSum K
  | .int => fun xs H Q => (∃ i, xs = [.int i] ∧ Q (.int i) H) ∨ ∃ k, xs = [.bl k] ∧ Q (.int (if k then 1 else 0)) H
  | .list => fun xs H Q => (∃ p ys, xs = [.ref p] ∧ (SqL K H p ys ∨ SqT K H p ys) ∧ ∀ l, H l = none → Q (.ref l) (upd H l (.lst ys))) ∨ rListD xs H Q
  | .tuple => fun xs H Q => ∃ p ys, xs = [.ref p] ∧ ((SqL K H p ys ∧ ∀ l, H l = none → Q (.ref l) (upd H l (.tup ys))) ∨ (SqT K H p ys ∧ Q (.ref p) H))
  | .dict => fun xs H Q => ∃ (a : Addr) (ps : List Addr) (kvs : List (Key × V)), xs = [.ref a] ∧ SqL K H a (ps.map V.ref) ∧ Paired (fun p kv => SqT K H p [kV kv.1, kv.2]) ps kvs ∧ ∀ p, H p = none → Q (.ref p) (upd H p (.dK (mergeK [] kvs)))
  | .isinst => fun xs H Q => rIsi K xs H Q ∨ rIsiT K xs H Q
section
variable {C : RC} {N : List Str} {FN : List FnE} {sc : Scope} {E : XK} {X : Cx}
theorem CxOk.vis (ok : CxOk C N FN sc E X) {x : Str} (h : Bb.vis sc x = true) : Vis X.env.scope x := by
  unfold Bb.vis at h
  split at h
  · rename_i e
    rcases ok.scp x _ e with q | ⟨q, _⟩
    · exact .inl q
    · cases q
  · rename_i e
    rcases ok.scp x _ e with q | ⟨q, _⟩
    · exact .inr (.inl q)
    · cases q
  · rename_i e
    rcases ok.scp x _ e with q | ⟨_, q⟩
    · exact .inr (.inr q)
    · exact .inr (.inl q)
  · cases h
theorem CxOk.gl (ok : CxOk C N FN sc E X) {x : Str} (h : Bb.gl sc x = true) : Gl X x := by
  unfold Bb.gl at h
  split at h
  · rename_i e
    rcases ok.scp x _ e with q | ⟨q, _⟩
    · exact q
    · cases q
  · cases h
theorem CxOk.loc (ok : CxOk C N FN sc E X) {x : Str} (h : Bb.loc sc x = true) : Loc X.env.scope x ∧ (X.fn x = true ∨ X.env.scope.names.lookup x = some .local) := by
  unfold Bb.loc at h
  split at h
  · rename_i e
    rcases ok.scp x _ e with q | ⟨q, _⟩
    · exact ⟨.inl q, .inr q⟩
    · cases q
  · rename_i e
    rcases ok.scp x _ e with q | ⟨q, _⟩
    · exact ⟨.inr q, .inl (ok.fnp x e)⟩
    · cases q
  · cases h
theorem CxOk.hu (ok : CxOk C N FN sc E X) : X.A.units + 65 < cLine := by
  have := ok.g.room.un
  omega
theorem CxOk.hu1 (ok : CxOk C N FN sc E X) : X.A.units + 1 < cLine := by
  have := ok.g.room.un
  omega
theorem okN1 {x : Str} (h : okN x = true) : (x == ("__debug__" : Str)) = false ∧ (x == ("__classdict__" : Str)) = false := by
  unfold okN at h
  rw [Bool.and_eq_true, Bool.not_eq_true', Bool.not_eq_true'] at h
  exact h
theorem starEach_cons {e : Expr} {es : List Expr} {env : Env} (h : nst e = true) : starEach (e :: es) env = (false, eval e env) :: starEach es env := by
  cases e <;> first | rfl | cases h
theorem plainIx_of {e : Expr} (h : nsl e = true) : PlainIx e := by
  cases e <;> first | (intro _ _; rfl) | cases h
theorem noSl_of {e : Expr} (h : nsl e = true) : NoSl e := by
  cases e <;> first | (intro _ _; rfl) | cases h
theorem nomark_of {e : Expr} (h : nset e = true) (op : CmpOp) : behindInMarks op e = false := by
  cases e <;> first | rfl | cases h
theorem fold_of {e : Expr} {env : Env} (h : nset e = true) : ∀ x, foldedSetIterable e env x = pure x := by
  cases e <;> first | (intro _; rfl) | cases h
theorem noswap_of {e : Expr} {t : Option Expr} {l : Nat} {env : Env} (h : ncomp e = true) : swapsWith e t l env = pure false := by
  cases e <;> first | rfl | cases h
theorem PE.imp {e : Expr} {t t' : TE} (h : PE X e t) (i : ∀ σ H Q, t' σ H Q → t σ H Q) : PE X e t' := ⟨fun pins s σ H Q I q => h.run pins s σ H Q I (i σ H Q q)⟩
theorem PE.or {e : Expr} {t t' : TE} (h : PE X e t) (h' : PE X e t') : PE X e (fun σ H Q => t σ H Q ∨ t' σ H Q) := ⟨fun pins s σ H Q I q => q.elim (h.run pins s σ H Q I) (h'.run pins s σ H Q I)⟩
theorem PT.imp {e : Expr} {t t' : TT} (h : PT X e t) (i : ∀ σ H Q, t' σ H Q → t σ H Q) : PT X e t' := ⟨fun pins s σ H Q I q => h.run pins s σ H Q I (i σ H Q q)⟩
theorem PW.imp {e : Expr} {t t' : TT} (h : PW X e t) (i : ∀ σ H Q, t' σ H Q → t σ H Q) : PW X e t' := ⟨fun wh pins s σ H Q I q => h.run wh pins s σ H Q I (i σ H Q q)⟩
theorem PI.or {tg e : Expr} {t t' : TI} (h : PI X tg e t) (h' : PI X tg e t') : PI X tg e (fun σ H Q => t σ H Q ∨ t' σ H Q) := ⟨fun pins s σ H Q I q => q.elim (h.run pins s σ H Q I) (h'.run pins s σ H Q I)⟩
/-- a value as a test -/
def plainT : Expr → Bool
  | .UnaryOp .Not _ _ => false | .BoolOp _ _ _ => false | .IfExp _ _ _ _ => false | .Compare _ _ _ _ => false | _ => true
theorem pt_any {e : Expr} {t : TE} (h : PE X e t) (n : plainT e = true) : PT X e (tB t) := by
  refine pt_val h ?_
  cases e with
  | UnaryOp op a p => cases op <;> first | (intro _; rfl) | cases n
  | BoolOp _ _ _ => cases n
  | IfExp _ _ _ _ => cases n
  | Compare _ _ _ _ => cases n
  | _ => intro _; rfl
theorem map_lookup {c : Str → NameKind → Bool} (hc : ∀ n k, c n k = true → k = .free) {x : Str} {k : NameKind} : ∀ names : List (Str × NameKind), names.lookup x = some k →
    (names.map fun (n, k) => if c n k then (n, NameKind.cell) else (n, k)).lookup x = some k ∨ (k = .free ∧ (names.map fun (n, k) => if c n k then (n, NameKind.cell) else (n, k)).lookup x = some .cell)
  | [], h => by simp at h
  | (n, k₀) :: r, h => by
    have ih := map_lookup hc (x := x) (k := k) r
    show List.lookup x ((if c n k₀ = true then (n, NameKind.cell) else (n, k₀)) :: (r.map fun (n, k) => if c n k then (n, NameKind.cell) else (n, k))) = some k ∨ (k = .free ∧ List.lookup x ((if c n k₀ = true then (n, NameKind.cell) else (n, k₀)) :: (r.map fun (n, k) => if c n k then (n, NameKind.cell) else (n, k))) = some .cell)
    generalize (r.map fun (n, k) => if c n k then (n, NameKind.cell) else (n, k)) = m at ih ⊢
    rw [List.lookup_cons] at h
    cases hx : x == n with
    | false =>
      rw [hx] at h
      have ih' := ih h
      by_cases q : c n k₀ = true
      · rw [if_pos q]
        simp only [List.lookup_cons, hx]
        exact ih'
      · rw [if_neg q]
        simp only [List.lookup_cons, hx]
        exact ih'
    | true =>
      rw [hx] at h
      have e : k₀ = k := Option.some.inj h
      by_cases q : c n k₀ = true
      · rw [if_pos q]
        simp only [List.lookup_cons, hx]
        exact .inr ⟨e ▸ hc n k₀ q, trivial⟩
      · rw [if_neg q]
        simp only [List.lookup_cons, hx]
        exact .inl h
theorem relS_lookup {sc scope : Scope} {x : Str} {k : NameKind} (h : scope.names.lookup x = some k) : (relS scope sc).names.lookup x = some k ∨ (k = .free ∧ (relS scope sc).names.lookup x = some .cell) :=
  map_lookup (c := fun n k => k == NameKind.free && sc.kind == .function && sc.names.lookup n == some .cell) (fun n k q => by
    simp only [Bool.and_eq_true, beq_iff_eq] at q
    exact q.1.1) scope.names h
/-- a comprehension's block -/
theorem CxOk.blk (ok : CxOk C N FN sc E X) {scope : Scope} (s : Shared) (H : Hp) (D : Addr) (cl : List (Str × Addr)) (fp : List Addr) : CxOk C N FN scope E0 (X.blk s H scope (compEnvC scope cl D X.env) fp) where
  nN := ok.nN
  nd := ok.nd
  scp := fun x k h => relS_lookup (sc := X.env.scope) h
  fnp := fun x h => by
    show (scope.names.lookup x == some .cell) = true
    rw [h]
    rfl
  calm := ok.calm
  g := ⟨ok.g.K, ok.g.room, ok.g.fns, ok.g.blt⟩
  pass := passL
theorem CxOk.blkOk (ok : CxOk C N FN sc E X) {scope : Scope} {own : List (Str × Nat)} (h : blkC N sc scope own = true) : BlkOk X.N X.env.scope scope own := by
  have b := blkOk_by h
  refine ⟨b.kind, b.uniq, ?_, fun y hy e => ?_, ?_⟩
  · rw [ok.nN]
    exact b.ix
  · rcases b.free y hy e with q | q
    · rcases ok.scp _ _ q with z | ⟨z, _⟩
      · exact .inl z
      · cases z
    · rcases ok.scp _ _ q with z | ⟨_, z⟩
      · exact .inr z
      · exact .inl z
  · rw [ok.nN]
    exact b.own
end
end Bb

set_option maxRecDepth 100000
set_option maxHeartbeats 4000000
namespace Bb
open L2 PyProof.Rows PySem.Spec PySem

/-! ### readings -/
def rdNs : List Nat → TGs
  | [] => gNil
  | i :: is => gCons (gName i) (rdNs is)
def rdTg (K : PySem.W.Frag) : Tg → TG
  | .nm i => gName i
  | .tp is => gTup K is.length (rdNs is)
def exsLen : Exs → Nat
  | .nil => 0
  | .cons _ es => exsLen es + 1
/-- the ends of a range by its arguments -/
def rngArgs : List V → Option (Int × Int)
  | [.int j] => some (0, j)
  | [.int i, .int j] => some (i, j)
  | _ => none
mutual
def rdE (C : RC) (E : XK) : Ex → TE
  | .var i => tVar i
  | .non => tC .non
  | .bl b => tC (.bl b)
  | .int i => tC (.int i)
  | .str s => tC (.str s)
  | .ty n => tC (.ty n.name)
  | .bin o a b => tOp (binR C.K o) (rdE C E a) (rdE C E b)
  | .neg a => tUn (rU fun i => .int (-i)) (rdE C E a)
  | .not a => tNotV (rdE C E a)
  | .and a b => tAndV (rdE C E a) (rdE C E b)
  | .or a b => tOrV (rdE C E a) (rdE C E b)
  | .cmp o a b => tOp (cmpR C.K o) (rdE C E a) (rdE C E b)
  | .isN a => tIsN (rdE C E a)
  | .notN a => tNotN (rdE C E a)
  | .ite c a b => tIf (tB (rdE C E c)) (rdE C E a) (rdE C E b)
  | .lst es => tLst (rdEs C E es)
  | .tup es => tTup (rdEs C E es)
  | .dnew t => if t then tDNewT else tDNewK
  | .comp elt tg it cond own => tLc (rdI C E it) (rdTg C.K tg) (rdC C cond) (rdE C E0 elt) own
  | .call f es => tCall (C.sp f) [] E (rdEs C E es)
  | .bf b es => tCB (bfR C.K b) (rdEs C E es)
  | .lrng es => fun σ H Q => rdEs C E es σ H fun vs H1 => ∃ i j, rngArgs vs = some (i, j) ∧ RgOk i j ∧ ∀ q, H1 q = none → Q (.ref q) (upd H1 q (.lst (rgV i j)))
  | .idx a i => fun σ H Q => tOp (rIx C.K) (rdE C E a) (rdE C E i) σ H Q ∨ tDGet (rdE C E a) (rdE C E i) σ H Q
  | .slice a lo hi => tSl (fun x l h H Q => rSlL C.K x l h H Q ∨ rSlT C.K x l h H Q) (rdE C E a) (rdO C E lo) (rdO C E hi)
  | .callk f es => fun σ H Q => rdEs C E es σ H fun zs H1 => C.sp f zs.reverse H1 Q E
  | .never => fun _ _ _ => False
  | .pop0 a => tBM C.K "list" rPopAt (rdE C E a) (tCons (tC (.int 0)) tNil)
def rdEs (C : RC) (E : XK) : Exs → TA
  | .nil => tNil
  | .cons e es => tCons (rdE C E e) (rdEs C E es)
def rdC (C : RC) : Exs → TT
  | .nil => tYes
  | .cons e _ => tB (rdE C E0 e)
def rdO (C : RC) (E : XK) : Exs → TO
  | .nil => tNoPart
  | .cons e _ => tPart (rdE C E e)
def rdI (C : RC) (E : XK) : Itx → TI
  | .val e => fun σ H R => iList C.K (rdE C E e) σ H R ∨ iTup C.K (rdE C E e) σ H R
  | .rng es => if exsLen es = 1 then iRng1 (rdEs C E es) else iRng2 (rdEs C E es)
  | .enum e => iEnum C.K (tCons (rdE C E e) tNil)
  | .zip a b => RZ.iZipA C.K (tCons (rdE C E a) (tCons (rdE C E b) tNil))
end

/-- the arguments, each by its own -/
inductive PA' (X : Cx) : List Expr → TA → Prop where
  | nil : PA' X [] tNil
  | cons {e : Expr} {es : List Expr} {te : TE} {t : TA} : PE X e te → PA' X es t → PA' X (e :: es) (tCons te t)
section
variable {C : RC} {N : List Str} {FN : List FnE} {sc : Scope} {E : XK} {X : Cx}
/-! ### targets -/
theorem kx_of (ok : CxOk C N FN sc E X) {i : Nat} {x : Str} {pos : Pos} (h : kx N sc i x = true) : PG X (.Name x pos) (gName i) := by
  unfold kx at h
  rw [Bool.and_eq_true] at h
  obtain ⟨l1, l2⟩ := ok.loc h.2
  exact pg_name (by rw [ok.nN]; exact ok.nd) (by rw [ok.nN]; exact of_decide_eq_true h.1) l1 l2
theorem ckNs_ok (ok : CxOk C N FN sc E X) : ∀ (is : List Nat) (es : List Expr), ckNs N sc is es = true → PGs X es (rdNs is) ∧ (assignEach es X.env).length = is.length ∧ (assignEach es X.env).findIdx? (·.1) = none
  | [], [], _ => ⟨pgs_nil, rfl, rfl⟩
  | [], _ :: _, h => by cases h
  | _ :: _, [], h => by cases h
  | i :: is, e :: es, h => by
    cases e with
    | Name x pos =>
      have h : (kx N sc i x && ckNs N sc is es) = true := h
      rw [Bool.and_eq_true] at h
      obtain ⟨a, b, c⟩ := ckNs_ok ok is es h.2
      refine ⟨pgs_cons (kx_of ok h.1) a rfl, ?_, ?_⟩
      · show (assignEach es X.env).length + 1 = is.length + 1
        rw [b]
      · show (List.findIdx? (·.1) ((false, _) :: assignEach es X.env)) = none
        rw [List.findIdx?_cons]
        simp only [Bool.false_eq_true, if_false]
        rw [c]
        rfl
    | _ => exact absurd h (by simp [ckNs])
theorem ckTg_ok (ok : CxOk C N FN sc E X) : ∀ (t : Tg) (e : Expr), ckTg N sc t e = true → PG X e (rdTg C.K t)
  | .nm i, e, h => by
    cases e with
    | Name x pos => exact kx_of ok h
    | _ => exact absurd h (by simp [ckTg])
  | .tp is, e, h => by
    cases e with
    | Tuple es k pos =>
      obtain ⟨a, b, c⟩ := ckNs_ok ok is es h
      rw [ok.g.K]
      exact pg_tup ok.calm a b c
    | _ => exact absurd h (by simp [ckTg])

/-! ### values as tests -/
theorem tb_not (t : TE) : ∀ σ H Q, tB (tNotV t) σ H Q → tNot (tB t) σ H Q := by
  intro σ H Q h
  have e : (fun (x : V) (H1 : Hp) => ∃ c, x = .bl c ∧ ∃ d, V.bl (!c) = .bl d ∧ Q d H1) = fun x H1 => ∃ c, x = .bl c ∧ Q (!c) H1 := by
    funext x H1
    refine propext ⟨fun ⟨c, e1, d, e2, q⟩ => ⟨c, e1, ?_⟩, fun ⟨c, e1, q⟩ => ⟨c, e1, _, rfl, q⟩⟩
    cases e2
    exact q
  have h' : t σ H (fun (x : V) (H1 : Hp) => ∃ c, x = .bl c ∧ ∃ d, V.bl (!c) = .bl d ∧ Q d H1) := h
  rw [e] at h'
  exact h'
theorem tb_and (t u : TE) : ∀ σ H Q, tB (tAndV t u) σ H Q → tAnd (tB t) (tB u) σ H Q := by
  intro σ H Q h
  have e : (fun (x : V) (H1 : Hp) => ∃ c, x = .bl c ∧ if c = true then u σ H1 (fun y H2 => ∃ d, y = .bl d ∧ Q d H2) else ∃ d, V.bl false = .bl d ∧ Q d H1) =
      fun x H1 => ∃ c, x = .bl c ∧ if c = true then u σ H1 (fun y H2 => ∃ d, y = .bl d ∧ Q d H2) else Q false H1 := by
    funext x H1
    refine congrArg (fun g : Bool → Prop => ∃ c, x = V.bl c ∧ g c) (funext fun c => ?_)
    have e2 : (∃ d, V.bl false = .bl d ∧ Q d H1) = Q false H1 := propext ⟨fun ⟨d, e1, q⟩ => by cases e1; exact q, fun q => ⟨false, rfl, q⟩⟩
    rw [e2]
  have h' : t σ H (fun (x : V) (H1 : Hp) => ∃ c, x = .bl c ∧ if c = true then u σ H1 (fun y H2 => ∃ d, y = .bl d ∧ Q d H2) else ∃ d, V.bl false = .bl d ∧ Q d H1) := h
  rw [e] at h'
  exact h'
theorem tb_or (t u : TE) : ∀ σ H Q, tB (tOrV t u) σ H Q → tOr (tB t) (tB u) σ H Q := by
  intro σ H Q h
  have e : (fun (x : V) (H1 : Hp) => ∃ c, x = .bl c ∧ if c = true then (∃ d, V.bl true = .bl d ∧ Q d H1) else u σ H1 (fun y H2 => ∃ d, y = .bl d ∧ Q d H2)) =
      fun x H1 => ∃ c, x = .bl c ∧ if c = true then Q true H1 else u σ H1 (fun y H2 => ∃ d, y = .bl d ∧ Q d H2) := by
    funext x H1
    refine congrArg (fun g : Bool → Prop => ∃ c, x = V.bl c ∧ g c) (funext fun c => ?_)
    have e2 : (∃ d, V.bl true = .bl d ∧ Q d H1) = Q true H1 := propext ⟨fun ⟨d, e1, q⟩ => by cases e1; exact q, fun q => ⟨true, rfl, q⟩⟩
    rw [e2]
  have h' : t σ H (fun (x : V) (H1 : Hp) => ∃ c, x = .bl c ∧ if c = true then (∃ d, V.bl true = .bl d ∧ Q d H1) else u σ H1 (fun y H2 => ∃ d, y = .bl d ∧ Q d H2)) := h
  rw [e] at h'
  exact h'
/-- what is shown of an expression -/
def ExOk (X : Cx) (x : Expr) (t : TE) : Prop := PE X x t ∧ (nif x = true → PT X x (tB t)) ∧ (isBO x = true → PW X x (tB t))
theorem exOk_of {x : Expr} {t : TE} (h : PE X x t) (n : plainT x = true) : ExOk X x t := ⟨h, fun _ => pt_any h n, fun b => by
  exfalso
  cases x <;> first | (cases b; done) | (cases n; done)⟩
theorem exOk_cmp {l r : Expr} {op : CmpOp} {pos : Pos} {t : TE} (h : PE X (.Compare l [op] [r] pos) t) (h2 : PT X (.Compare l [op] [r] pos) (tB t)) : ExOk X (.Compare l [op] [r] pos) t := ⟨h, fun _ => h2, fun b => by cases b⟩
theorem PT.or {e : Expr} {t t' : TT} (h : PT X e t) (h' : PT X e t') : PT X e (fun σ H Q => t σ H Q ∨ t' σ H Q) := ⟨fun pins s σ H Q I q => q.elim (h.run pins s σ H Q I) (h'.run pins s σ H Q I)⟩
theorem all_ns {N : List Str} {FN : List FnE} {sc : Scope} : ∀ (es : Exs) (xs : List Expr), ckEs N FN sc es xs = true → ∀ (env : Env) (pos : Pos), (backTo pos (starEach xs env)).any (·.1) = false ∧ (∀ x r, xs = x :: r → starEach xs env = (false, eval x env) :: starEach r env)
  | .nil, [], _, env, pos => ⟨rfl, fun x r e => by cases e⟩
  | .nil, _ :: _, h, _, _ => by simp [ckEs] at h
  | .cons _ _, [], h, _, _ => by simp [ckEs] at h
  | .cons e es, x :: xs, h, env, pos => by
    simp only [ckEs, Bool.and_eq_true] at h
    obtain ⟨⟨h1, _⟩, h3⟩ := h
    obtain ⟨a, b⟩ := all_ns es xs h3 env pos
    have s := starEach_cons (es := xs) (env := env) h1
    refine ⟨?_, fun y r e => by cases e; exact s⟩
    rw [s]
    show (false || (backTo pos (starEach xs env)).any (·.1)) = false
    rw [a]
    rfl
theorem all_ns1 {N : List Str} {FN : List FnE} {sc : Scope} {es : Exs} {x : Expr} {xs : List Expr} (h : ckEs N FN sc es (x :: xs) = true) (env : Env) (pos : Pos) : (backTo pos (starEach xs env)).any (·.1) = false := by
  cases es with
  | nil => simp [ckEs] at h
  | cons e es =>
    simp only [ckEs, Bool.and_eq_true] at h
    exact (all_ns es xs h.2 env pos).1
theorem Vals.rev : ∀ {vs : List V} {us : List Value}, Vals vs us → Vals vs.reverse us.reverse
  | _, _, .nil => .nil
  | _, _, .cons h t => by
    rw [List.reverse_cons, List.reverse_cons]
    exact (Vals.rev t).append (.cons h .nil)
theorem kw_names {ps : List Str} {kws : List Keyword} {pos : Pos} {env : Env} (h : ckKs ps kws = true) : (backToKw pos (keywordEach kws env)).all (·.1.isSome) = true ∧ (backToKw pos (keywordEach kws env)).filterMap (·.1) = ps ∧ (backToKw pos (keywordEach kws env)).any (·.1.isNone) = false := by
  induction ps generalizing kws with
  | nil =>
    cases kws with
    | nil => exact ⟨rfl, rfl, rfl⟩
    | cons k ks => cases h
  | cons p ps ih =>
    cases kws with
    | nil => cases h
    | cons k ks =>
      have h : (decide (k.arg = some p) && ckKs ps ks) = true := h
      rw [Bool.and_eq_true, decide_eq_true_eq] at h
      obtain ⟨a, b, c⟩ := ih h.2
      obtain ⟨nm, e, kp⟩ := k
      have h1 : nm = some p := h.1
      subst h1
      have e1 : backToKw pos (keywordEach (⟨some p, e, kp⟩ :: ks) env) = (some p, do let v ← eval e env; standAt pos; pure v) :: backToKw pos (keywordEach ks env) := rfl
      rw [e1]
      refine ⟨?_, ?_, ?_⟩
      · rw [List.all_cons, a]; rfl
      · rw [List.filterMap_cons]; show p :: _ = _; rw [b]
      · rw [List.any_cons, c]; rfl
theorem pk_of : ∀ {kws : List Keyword} {t : TA}, PA' X (kws.map (·.value)) t → PK X kws t
  | [], t, h => by
    cases h
    exact pk_nil
  | ⟨nm, e, kp⟩ :: ks, t, h => by
    cases h with
    | cons a b => exact pk_cons a (pk_of b)
theorem pe_callR {k : Nat} {f : Addr} {fd : FuncData} {ps : List Str} {sp : Sp} {x : Str} {p pos : Pos} {kws : List Keyword} {tk : TA} (F : FnOk X.prog X.w X.K X.mg X.base (L2.CX X.prog X.w) k f fd ps sp) (hr : Room k X.A) (hg : Gl X x) (hm : X.mg x = some (.ref f)) (hk : PySem.W.keepIn X.K (.ref f) = true) (hb : KB0 X.K fd ps) (hx : Passes (L2.CX X.prog X.w) X E)
    (hkw : PK X kws tk) (hn : ckKs ps.reverse kws = true) (hdb : (x == ("__debug__" : Str)) = false) : PE X (.Call (.Name x p) [] kws pos) (fun σ H Q => tk σ H fun zs H1 => sp zs.reverse H1 Q E) := by
  obtain ⟨n1, n2, n3⟩ := kw_names (pos := pos) (env := X.env) hn
  refine ⟨fun pins s σ H Q I h => ?_⟩
  refine wpAny_Call_Name_kw (ld_glob I hg hm ?_ hdb)
  refine PySem.W.callWith_KW0 (h₀ := X.base) I.ok.mod.kin hk n1 ?_ (by rw [n3]; rfl)
  refine thn (hkw.run pos pins s σ H _ I h) fun ws s2 ⟨zs, H2, I2, rz, q2⟩ => ⟨I2.kIn, ?_⟩
  rw [n2]
  have r2 := Vals.rev rz
  have hl : ws.reverse.length = ps.length := by rw [← r2.length]; exact F.len _ _ _ _ q2
  rw [List.length_reverse] at hl
  show wpAny (model X.prog X.w) X.A (call (.ref f) [] (ps.reverse.zip ws)) (EP X pins σ Q) X.xe s2
  refine wpAny_call (codeAny_mono (F.run X.A X.stack s2 H2 ⟨[], ps.reverse.zip ws⟩ ws.reverse zs.reverse Q E hr I2.env0 (hb s2 ws I2.kIn hl) r2 q2) fun r s' hq => ?_)
  cases r with
  | error e => exact hx pins σ H2 s2 e s' I2 hq
  | ok fl =>
    cases fl with
    | ret u => exact I2.after hq
    | next => exact False.elim hq
    | brk => exact False.elim hq
    | cont => exact False.elim hq
theorem ty_ok (ok : CxOk C N FN sc E X) {y : Str} {n : String} {pos : Pos} (h : (y, n) ∈ tyNames) (g : Bb.gl sc y = true) : PE X (.Name y pos) (tC (.ty n)) := by
  have hg := ok.gl g
  have hb := ok.g.blt
  simp only [tyNames, List.mem_cons, List.not_mem_nil, or_false, Prod.mk.injEq] at h
  rcases h with ⟨rfl, rfl⟩ | ⟨rfl, rfl⟩ | ⟨rfl, rfl⟩ | ⟨rfl, rfl⟩ | ⟨rfl, rfl⟩ | ⟨rfl, rfl⟩
  · exact pe_bltn hg (hb _ (by simp [bNames])) PySem.Pv.boot_int rfl
  · exact pe_bltn hg (hb _ (by simp [bNames])) PySem.Pv.boot_bool rfl
  · exact pe_bltn hg (hb _ (by simp [bNames])) PySem.Pv.boot_str rfl
  · exact pe_bltn hg (hb _ (by simp [bNames])) PySem.Pv.boot_list rfl
  · exact pe_bltn hg (hb _ (by simp [bNames])) PySem.Pv.boot_tuple rfl
  · exact pe_bltn hg (hb _ (by simp [bNames])) PySem.Pv.boot_dict rfl
/-! ### built-in calls -/
def bfV : Bf → Value
  | .len => .builtin "len" | .abs => .builtin "abs" | .all => .builtin "all" | .any => .builtin "any" | .sorted => .builtin "sorted" | .min1 => .builtin "min" | .max1 => .builtin "max" | .min2 => .builtin "min" | .max2 => .builtin "max"
  | .sum => .builtin "sum" | .int => .type "int" | .list => .type "list" | .tuple => .type "tuple" | .dict => .type "dict" | .isinst => .builtin "isinstance"
theorem bf_boot (b : Bf) : bootBuiltins (bfName b) = some (bfV b) := by cases b <;> decide +kernel
theorem bf_in (b : Bf) : bfName b ∈ bNames := by cases b <;> simp [bfName, bNames]
theorem bf_rule (hc : X.calm = true) (hu : X.A.units + 64 < cLine) (b : Bf) : CallR X (bfV b) (bfR X.K b) := by
  cases b with
  | len => exact call_len.or (call_lenD.or call_len_dT)
  | abs => exact call_abs
  | all => exact cr_all hc
  | any => exact cr_any hc
  | sorted => exact (call_sortD hu).or (call_sortedDI hc)
  | min1 => exact cr_min hc
  | max1 => exact cr_max hc
  | min2 => exact call_min2 hc
  | max2 => exact call_max2 hc
  | sum => exact cr_sum hc
  | int => exact call_int1
  | list => exact call_list_of.or (call_list_dK hc)
  | tuple => exact call_tuple_of
  | dict => exact call_dictP hc
  | isinst => exact call_isi.or call_isiT
theorem pe_bf (ok : CxOk C N FN sc E X) {b : Bf} {p pos : Pos} {e : Expr} {es : List Expr} {t : TA} (g : Gl X (bfName b)) (ha : PA X (e :: es) t) (he : starEach (e :: es) X.env = (false, eval e X.env) :: starEach es X.env) (hpl : (backTo pos (starEach es X.env)).any (·.1) = false) :
    PE X (.Call (.Name (bfName b) p) (e :: es) [] pos) (tCB (bfR X.K b) t) := by
  have hu : X.A.units + 64 < cLine := by have := ok.hu; omega
  have hm := ok.g.blt _ (bf_in b)
  have hv := bf_boot b
  have hn : bfName b ≠ "__name__" := by cases b <;> decide
  have hd : (bfName b == ("__debug__" : Str)) = false := by cases b <;> decide
  have hr := bf_rule ok.calm hu b
  cases b <;> first
    | exact pe_callB hr g hm hv ha hn hd he hpl
    | exact pe_callTy hr g hm hv ha hn hd he hpl
end
end Bb

set_option maxRecDepth 100000
set_option maxHeartbeats 8000000
namespace Bb
open L2 PyProof.Rows PySem.Spec PySem
section
variable {C : RC} {N : List Str} {FN : List FnE} {sc : Scope} {E : XK} {X : Cx}
theorem bo_and {x y : Expr} {r : List Expr} {p : Pos} {ta tb : TE} (ha : PE X x ta) (ta' : PT X x (tB ta)) (hb : PE X (.BoolOp .And (y :: r) p) tb) (tb' : PW X (.BoolOp .And (y :: r) p) (tB tb)) : ExOk X (.BoolOp .And (x :: y :: r) p) (tAndV ta tb) := by
  have w := PW.imp (pw_and (pos := p) ta' tb') (tb_and ta tb)
  exact ⟨pe_and ha hb, fun _ => w.pt, fun _ => w⟩
theorem bo_or {x y : Expr} {r : List Expr} {p : Pos} {ta tb : TE} (ha : PE X x ta) (ta' : PT X x (tB ta)) (hb : PE X (.BoolOp .Or (y :: r) p) tb) (tb' : PW X (.BoolOp .Or (y :: r) p) (tB tb)) : ExOk X (.BoolOp .Or (x :: y :: r) p) (tOrV ta tb) := by
  have w := PW.imp (pw_or (pos := p) ta' tb') (tb_or ta tb)
  exact ⟨pe_or ha hb, fun _ => w.pt, fun _ => w⟩
theorem cmp_ok (ok : CxOk C N FN sc E X) {o : Cop} {l r : Expr} {pos : Pos} {ta tb : TE} (hr : nset r = true) (ha : PE X l ta) (hb : PE X r tb) : ExOk X (.Compare l [o.op] [r] pos) (tOp (cmpR C.K o) ta tb) := by
  rw [ok.g.K]
  have h1 := op_cmpC ok.hu o
  have hm := nomark_of hr o.op
  exact exOk_cmp (pe_cmpR h1 ha hb hm) (pt_cmpR h1 ha hb hm)
theorem isn_ok {l : Expr} {j : Nat} {p pos : Pos} {ta : TE} (ha : PE X l ta) : ExOk X (.Compare l [.Is] [.Constant .none j p] pos) (tIsN ta) := exOk_cmp (pe_cmp (pc_isN ha) rfl) (pt_cmp (pc_isN ha) rfl)
theorem notn_ok {l : Expr} {j : Nat} {p pos : Pos} {ta : TE} (ha : PE X l ta) : ExOk X (.Compare l [.IsNot] [.Constant .none j p] pos) (tNotN ta) := exOk_cmp (pe_cmp (pc_notN ha) rfl) (pt_cmp (pc_notN ha) rfl)
theorem not_ok {l : Expr} {pos : Pos} {ta : TE} (ha : PE X l ta) (ta' : PT X l (tB ta)) : ExOk X (.UnaryOp .Not l pos) (tNotV ta) := by
  refine ⟨pe_not ha, fun _ => PT.imp (pt_not ta') (tb_not ta), fun b => ?_⟩
  cases b
theorem lrng_of (ok : CxOk C N FN sc E X) {e : Expr} {p pos : Pos} {t : L2.St → Hp → (Int → Int → Hp → Prop) → Prop} (g1 : Gl X "list") (hr : PRg X e t) (hs : starEach [e] X.env = (false, eval e X.env) :: starEach [] X.env) : PE X (.Call (.Name "list" p) [e] [] pos) (tLstRg t) :=
  pe_listRg ok.calm g1 (ok.g.blt _ (by simp [bNames])) hr hs
theorem rng1_eq {Q : VK} : (fun (x : V) (H1 : Hp) => ∃ i j, rngArgs [x] = some (i, j) ∧ RgOk i j ∧ ∀ q, H1 q = none → Q (.ref q) (upd H1 q (.lst (rgV i j)))) = fun x H1 => ∃ n, x = V.int n ∧ RgOk 0 n ∧ ∀ q, H1 q = none → Q (.ref q) (upd H1 q (.lst (rgV 0 n))) := by
  funext x H1
  refine propext ⟨fun ⟨i, j, e, h⟩ => ?_, fun ⟨n, e, h⟩ => ⟨0, n, by rw [e]; rfl, h⟩⟩
  cases x <;> first | cases e | skip
  exact ⟨_, rfl, h⟩
theorem rng2_eq {Q : VK} {x : V} : (fun (y : V) (H1 : Hp) => ∃ i j, rngArgs [x, y] = some (i, j) ∧ RgOk i j ∧ ∀ q, H1 q = none → Q (.ref q) (upd H1 q (.lst (rgV i j)))) = fun y H1 => ∃ i j, x = V.int i ∧ y = V.int j ∧ RgOk i j ∧ ∀ q, H1 q = none → Q (.ref q) (upd H1 q (.lst (rgV i j))) := by
  funext y H1
  refine propext ⟨fun ⟨i, j, e, h⟩ => ?_, fun ⟨i, j, e1, e2, h⟩ => ⟨i, j, by rw [e1, e2]; rfl, h⟩⟩
  cases x <;> cases y <;> first | cases e | skip
  exact ⟨_, _, rfl, rfl, h⟩
theorem lrng_ok (ok : CxOk C N FN sc E X) {es : Exs} {ls : List Expr} {p p2 pos pos2 : Pos} (g1 : Gl X "list") (g2 : Gl X "range") (h : ls.length = 1 ∨ ls.length = 2) (hc : ckEs N FN sc es ls = true)
    (sub : ∀ e x, ckE N FN sc e x = true → (∃ r, es = .cons e r) ∨ (∃ a r, es = .cons a (.cons e r)) → PE X x (rdE C E e)) :
    PE X (.Call (.Name "list" p) [.Call (.Name "range" p2) ls [] pos2] [] pos) (rdE C E (.lrng es)) := by
  have m2 : X.mg "range" = none := ok.g.blt _ (by simp [bNames])
  have n1 := (all_ns es ls hc X.env pos2).2
  match es, ls, h, hc with
  | .nil, [], h, _ => simp at h
  | .cons a .nil, [x], _, hc =>
    simp only [ckEs, Bool.and_eq_true] at hc
    have pa := sub a x hc.1.2 (.inl ⟨_, rfl⟩)
    refine PE.imp (lrng_of ok g1 (prg_1 (pos := pos2) (p := p2) g2 m2 pa (n1 _ _ rfl)) rfl) fun σ H Q h => ?_
    have h' : rdE C E a σ H (fun x H1 => ∃ i j, rngArgs [x] = some (i, j) ∧ RgOk i j ∧ ∀ q, H1 q = none → Q (.ref q) (upd H1 q (.lst (rgV i j)))) := by
      simp only [rdE, rdEs] at h
      exact h
    rw [rng1_eq] at h'
    exact h'
  | .cons a (.cons b .nil), [x, y], _, hc =>
    simp only [ckEs, Bool.and_eq_true] at hc
    have pa := sub a x hc.1.2 (.inl ⟨_, rfl⟩)
    have pb := sub b y hc.2.1.2 (.inr ⟨_, _, rfl⟩)
    refine PE.imp (lrng_of ok g1 (prg_2 (pos := pos2) (p := p2) g2 m2 pa pb (n1 _ _ rfl) (starEach_cons hc.2.1.1) (by rw [starEach_cons hc.2.1.1]; rfl)) rfl) fun σ H Q h => ?_
    have h' : rdE C E a σ H (fun x H1 => rdE C E b σ H1 (fun y H2 => ∃ i j, rngArgs [x, y] = some (i, j) ∧ RgOk i j ∧ ∀ q, H2 q = none → Q (.ref q) (upd H2 q (.lst (rgV i j))))) := by
      simp only [rdE, rdEs] at h
      exact h
    simp only [rng2_eq] at h'
    exact h'
  | .cons _ .nil, [], h, _ => simp at h
  | .cons _ .nil, _ :: _ :: _, _, hc => simp [ckEs] at hc
  | .nil, _ :: _, _, hc => simp [ckEs] at hc
  | .cons _ (.cons _ _), [], h, _ => simp at h
  | .cons _ (.cons _ _), [_], _, hc => simp [ckEs] at hc
  | .cons _ (.cons _ (.cons _ _)), [_, _], _, hc => simp [ckEs] at hc
  | .cons _ (.cons _ _), _ :: _ :: _ :: _, h, _ => simp at h
/-! ### the theorem -/
mutual
theorem ckE_ok : ∀ (e : Ex) (x : Expr) {sc : Scope} {E : XK} {X : Cx}, CxOk C N FN sc E X → ckE N FN sc e x = true → ExOk X x (rdE C E e)
  | .var i, x, _, _, _, ok, h => by
    simp only [ckE] at h
    split at h
    · simp only [Bool.and_eq_true, decide_eq_true_eq] at h
      exact exOk_of (pe_var (by rw [ok.nN]; exact h.1.1) (ok.vis h.1.2) (okN1 h.2).1 (okN1 h.2).2) rfl
    · cases h
  | .non, x, _, _, _, ok, h => by
    simp only [ckE] at h
    split at h
    · exact exOk_of pe_non rfl
    · cases h
  | .bl b, x, _, _, _, ok, h => by
    simp only [ckE] at h
    split at h
    · rw [beq_iff_eq] at h
      subst h
      exact exOk_of pe_bl rfl
    · cases h
  | .int b, x, _, _, _, ok, h => by
    simp only [ckE] at h
    split at h
    · rw [beq_iff_eq] at h
      subst h
      exact exOk_of pe_int rfl
    · cases h
  | .str b, x, _, _, _, ok, h => by
    simp only [ckE] at h
    split at h
    · rw [beq_iff_eq] at h
      subst h
      exact exOk_of pe_str rfl
    · cases h
  | .ty n, x, _, _, _, ok, h => by
    simp only [ckE] at h
    split at h
    · simp only [Bool.and_eq_true, decide_eq_true_eq] at h
      exact exOk_of (ty_ok ok h.1 h.2) rfl
    · cases h
  | .bin o a b, x, _, _, _, ok, h => by
    simp only [ckE] at h
    split at h
    · simp only [Bool.and_eq_true, decide_eq_true_eq] at h
      obtain ⟨⟨h1, h2⟩, h3⟩ := h
      subst h1
      simp only [rdE]
      rw [ok.g.K]
      exact exOk_of (pe_op (op_bin o) (ckE_ok a _ ok h2).1 (ckE_ok b _ ok h3).1) rfl
    · cases h
  | .neg a, x, _, _, _, ok, h => by
    simp only [ckE] at h
    split at h
    · exact exOk_of (pe_un un_neg (ckE_ok a _ ok h).1) rfl
    · cases h
  | .not a, x, _, _, _, ok, h => by
    simp only [ckE] at h
    split at h
    · rw [Bool.and_eq_true] at h
      have ia := ckE_ok a _ ok h.2
      exact not_ok ia.1 (ia.2.1 h.1)
    · cases h
  | .and a b, x, _, _, _, ok, h => by
    simp only [ckE] at h
    split at h
    · rename_i l r t p
      rw [Bool.and_eq_true, Bool.and_eq_true] at h
      obtain ⟨⟨h1, h2⟩, h3⟩ := h
      have ia := ckE_ok a _ ok h2
      cases t with
      | nil =>
        rw [Bool.and_eq_true] at h3
        have ib := ckE_ok b _ ok h3.2
        exact bo_and ia.1 (ia.2.1 h1) (pe_one ib.1) (pw_and1 (ib.2.1 h3.1))
      | cons t0 ts =>
        have ib := ckE_ok b _ ok h3
        exact bo_and ia.1 (ia.2.1 h1) ib.1 (ib.2.2 rfl)
    · cases h
  | .or a b, x, _, _, _, ok, h => by
    simp only [ckE] at h
    split at h
    · rename_i l r t p
      rw [Bool.and_eq_true, Bool.and_eq_true] at h
      obtain ⟨⟨h1, h2⟩, h3⟩ := h
      have ia := ckE_ok a _ ok h2
      cases t with
      | nil =>
        rw [Bool.and_eq_true] at h3
        have ib := ckE_ok b _ ok h3.2
        exact bo_or ia.1 (ia.2.1 h1) (pe_one ib.1) (pw_or1 (ib.2.1 h3.1))
      | cons t0 ts =>
        have ib := ckE_ok b _ ok h3
        exact bo_or ia.1 (ia.2.1 h1) ib.1 (ib.2.2 rfl)
    · cases h
  | .cmp o a b, x, _, _, _, ok, h => by
    simp only [ckE] at h
    split at h
    · simp only [Bool.and_eq_true, decide_eq_true_eq] at h
      obtain ⟨⟨⟨h1, h2⟩, h3⟩, h4⟩ := h
      subst h1
      exact cmp_ok ok h2 (ckE_ok a _ ok h3).1 (ckE_ok b _ ok h4).1
    · cases h
  | .isN a, x, _, _, _, ok, h => by
    simp only [ckE] at h
    split at h
    · exact isn_ok (ckE_ok a _ ok h).1
    · cases h
  | .notN a, x, _, _, _, ok, h => by
    simp only [ckE] at h
    split at h
    · exact notn_ok (ckE_ok a _ ok h).1
    · cases h
  | .ite c a b, x, _, _, _, ok, h => by
    simp only [ckE] at h
    split at h
    · simp only [Bool.and_eq_true] at h
      obtain ⟨⟨⟨h1, h2⟩, h3⟩, h4⟩ := h
      refine ⟨pe_ifExp ((ckE_ok c _ ok h2).2.1 h1) (ckE_ok a _ ok h3).1 (ckE_ok b _ ok h4).1, ?_, ?_⟩
      · intro z
        cases z
      · intro z
        cases z
    · cases h
  | .lst es, x, _, _, _, ok, h => by
    simp only [ckE] at h
    split at h
    · exact exOk_of (pe_lst (ckEs_ok es _ ok h)) rfl
    · cases h
  | .tup es, x, _, _, _, ok, h => by
    simp only [ckE] at h
    split at h
    · exact exOk_of (pe_tup (ckEs_ok es _ ok h)) rfl
    · cases h
  | .dnew t, x, _, _, _, ok, h => by
    simp only [ckE] at h
    split at h
    · cases t
      · exact exOk_of pe_dnewK rfl
      · exact exOk_of pe_dnewT rfl
    · cases h
  | .comp elt tg it cond own, x, _, _, _, ok, h => by
    simp only [ckE] at h
    split at h
    · simp only [Bool.and_eq_true] at h
      obtain ⟨⟨⟨⟨⟨h1, h2⟩, h3⟩, h4⟩, h5⟩, h6⟩ := h
      have hw : own = (ownOf N own).map (·.2) := by
        unfold ownOf
        rw [List.map_map]
        exact (List.map_id own).symm
      simp only [rdE]
      rw [hw]
      refine exOk_of (pe_lc (own := ownOf N own) ok.calm (by rw [ok.nN]; exact ok.nd) (ckI_ok it _ _ ok h4) (ok.blkOk h1) (fun s H D cl fp => ?_) (fun s H D cl fp => ?_) (fun s H D cl fp => ?_) (fold_of h2)) rfl
      · exact ckTg_ok (ok.blk s H D cl fp) tg _ h3
      · exact ckC_ok (E := E0) cond _ (ok.blk s H D cl fp) h5
      · exact (ckE_ok elt _ (ok.blk s H D cl fp) h6).1
    · cases h
  | .call f es, x, _, _, _, ok, h => by
    simp only [ckE] at h
    split at h
    · simp only [Bool.and_eq_true] at h
      obtain ⟨⟨⟨h1, h2⟩, h3⟩, h4⟩ := h
      split at h1
      case h_2 => cases h1
      rename_i d hd
      have hy := of_decide_eq_true h1
      subst hy
      obtain ⟨a, fd, F, hm, hk, hb, _⟩ := ok.g.fns f _ hd
      have hst := fun env => (all_ns es _ h4 env ⟨0, 0, 0, 0⟩).2
      exact exOk_of (pe_call F ok.g.room (ok.gl h2) hm hk hb .nil ok.pass (ckEs_ok es _ ok h4) (okN1 h3).1 (hst _ _ _ rfl) (all_ns1 h4 _ _)) rfl
    · cases h
  | .bf b es, x, _, _, _, ok, h => by
    simp only [ckE] at h
    split at h
    · simp only [Bool.and_eq_true, decide_eq_true_eq] at h
      obtain ⟨⟨⟨h1, h2⟩, h3⟩, h4⟩ := h
      subst h1
      have hst := fun env => (all_ns es _ h4 env ⟨0, 0, 0, 0⟩).2
      simp only [rdE]
      rw [ok.g.K]
      exact exOk_of (pe_bf ok (ok.gl h2) (ckEs_ok es _ ok h4) (hst _ _ _ rfl) (all_ns1 h4 _ _)) rfl
    · cases h
  | .lrng es, x, _, _, _, ok, h => by
    simp only [ckE] at h
    split at h
    · simp only [Bool.and_eq_true, Bool.or_eq_true, decide_eq_true_eq] at h
      obtain ⟨⟨⟨⟨⟨h1, h2⟩, h3⟩, h4⟩, h5⟩, h6⟩ := h
      subst h1
      subst h3
      refine exOk_of (lrng_ok ok (ok.gl h2) (ok.gl h4) h5 h6 fun e x hx he => ?_) rfl
      rcases he with ⟨r, he⟩ | ⟨a, r, he⟩
      · subst he
        exact (ckE_ok e x ok hx).1
      · subst he
        exact (ckE_ok e x ok hx).1
    · cases h
  | .idx a i, x, _, _, _, ok, h => by
    simp only [ckE] at h
    split at h
    · simp only [Bool.and_eq_true] at h
      obtain ⟨⟨h1, h2⟩, h3⟩ := h
      have ia := (ckE_ok a _ ok h2).1
      have ib := (ckE_ok i _ ok h3).1
      simp only [rdE]
      rw [ok.g.K]
      exact exOk_of (PE.or (pe_ix ix_seq ia ib (plainIx_of h1)) (pe_dget ok.hu1 ia ib (noSl_of h1))) rfl
    · cases h
  | .slice a lo hi, x, _, _, _, ok, h => by
    simp only [ckE] at h
    split at h
    · simp only [Bool.and_eq_true] at h
      obtain ⟨⟨h1, h2⟩, h3⟩ := h
      simp only [rdE]
      rw [ok.g.K]
      exact exOk_of (pe_slice (sl_list.or sl_tup) (ckE_ok a _ ok h1).1 (ckO_ok lo _ ok h2) (ckO_ok hi _ ok h3)) rfl
    · cases h
  | .callk f es, x, _, _, _, ok, h => by
    simp only [ckE] at h
    split at h
    · simp only [Bool.and_eq_true] at h
      obtain ⟨⟨⟨h1, h2⟩, h3⟩, h4⟩ := h
      split at h1
      case h_2 => cases h1
      rename_i d hd
      rw [Bool.and_eq_true, Bool.and_eq_true] at h1
      obtain ⟨⟨hy, hkw⟩, hn⟩ := h1
      have hy := of_decide_eq_true hy
      subst hy
      obtain ⟨a, fd, F, hm, hk, hb, hb0⟩ := ok.g.fns f _ hd
      exact exOk_of (pe_callR F ok.g.room (ok.gl h2) hm hk (hb0 hkw) ok.pass (pk_of (ckEs_ok' es _ ok h4)) hn (okN1 h3).1) rfl
    · cases h
  | .never, x, _, _, _, ok, h => ⟨⟨fun _ _ _ _ _ _ h => h.elim⟩, fun _ => ⟨fun _ _ _ _ _ _ h => h.elim⟩, fun _ => ⟨fun _ _ _ _ _ _ _ h => h.elim⟩⟩
  | .pop0 a, x, _, _, X, ok, h => by
    simp only [ckE] at h
    split at h
    · simp only [Bool.and_eq_true, decide_eq_true_eq] at h
      obtain ⟨⟨⟨h1, h2⟩, h3⟩, h4⟩ := h
      subst h1
      simp only [rdE]
      rw [ok.g.K]
      exact exOk_of (pe_bm PySem.F.plainAttrs_list PySem.F.slot_list_pop PySem.F.type_list_pop mt_popAt (ckE_ok a _ ok h4).1 (pa_cons pe_int pa_nil rfl) (base_of h3) rfl h2 rfl rfl) rfl
    · cases h
theorem ckEs_ok' : ∀ (es : Exs) (xs : List Expr) {sc : Scope} {E : XK} {X : Cx}, CxOk C N FN sc E X → ckEs N FN sc es xs = true → PA' X xs (rdEs C E es)
  | .nil, xs, _, _, _, ok, h => by
    simp only [ckEs] at h
    split at h
    · exact .nil
    · cases h
  | .cons e es, xs, _, _, _, ok, h => by
    simp only [ckEs] at h
    split at h
    · simp only [Bool.and_eq_true] at h
      exact .cons (ckE_ok e _ ok h.1.2).1 (ckEs_ok' es _ ok h.2)
    · cases h
theorem ckEs_ok : ∀ (es : Exs) (xs : List Expr) {sc : Scope} {E : XK} {X : Cx}, CxOk C N FN sc E X → ckEs N FN sc es xs = true → PA X xs (rdEs C E es)
  | .nil, xs, _, _, _, ok, h => by
    simp only [ckEs] at h
    split at h
    · exact pa_nil
    · cases h
  | .cons e es, xs, _, _, _, ok, h => by
    simp only [ckEs] at h
    split at h
    · simp only [Bool.and_eq_true] at h
      exact pa_cons (ckE_ok e _ ok h.1.2).1 (ckEs_ok es _ ok h.2) (starEach_cons h.1.1)
    · cases h
theorem ckC_ok : ∀ (es : Exs) (xs : List Expr) {sc : Scope} {E : XK} {X : Cx}, CxOk C N FN sc E0 X → ckC N FN sc es xs = true → PTs X xs (rdC C es)
  | .nil, xs, _, _, _, ok, h => by
    simp only [ckC] at h
    split at h
    · exact pts_nil
    · cases h
  | .cons e es, xs, _, _, _, ok, h => by
    simp only [ckC] at h
    split at h
    · rw [Bool.and_eq_true] at h
      exact pts_one ((ckE_ok e _ ok h.2).2.1 h.1)
    · cases h
theorem ckO_ok : ∀ (es : Exs) (x : Option Expr) {sc : Scope} {E : XK} {X : Cx}, CxOk C N FN sc E X → ckO N FN sc es x = true → PO X x (rdO C E es)
  | .nil, x, _, _, _, ok, h => by
    simp only [ckO] at h
    split at h
    · exact po_none
    · cases h
  | .cons e es, x, _, _, _, ok, h => by
    simp only [ckO] at h
    split at h
    · exact po_some (ckE_ok e _ ok h).1
    · cases h
theorem ckI_ok : ∀ (it : Itx) (tg : Expr) (x : Expr) {sc : Scope} {E : XK} {X : Cx}, CxOk C N FN sc E X → ckI N FN sc tg it x = true → PI X tg x (rdI C E it)
  | .val e, tg, x, _, _, _, ok, h => by
    simp only [ckI] at h
    simp only [rdI]
    rw [ok.g.K]
    have i := (ckE_ok e _ ok h).1
    exact PI.or (pi_list i) (pi_tup i)
  | .rng es, tg, x, _, _, _, ok, h => by
    simp only [ckI] at h
    split at h
    · simp only [Bool.and_eq_true, Bool.or_eq_true, decide_eq_true_eq] at h
      obtain ⟨⟨⟨h1, h2⟩, h3⟩, h4⟩ := h
      subst h1
      have pa := ckEs_ok es _ ok h4
      have n1 := fun env => (all_ns es _ h4 env ⟨0, 0, 0, 0⟩).2
      have g2 := ok.gl h2
      have m2 : _ = none := ok.g.blt "range" (by simp [bNames])
      simp only [rdI]
      rename_i p1 ls p2
      match es, ls, h3, h4, pa, n1 with
      | .nil, [], h3, _, _, _ => simp at h3
      | .cons a .nil, [x], _, hc, pa, n1 => exact pi_range1 g2 m2 pa (n1 _ _ _ rfl)
      | .cons a (.cons b .nil), [x, y], _, hc, pa, n1 =>
        simp only [ckEs, Bool.and_eq_true] at hc
        exact pi_range2 g2 m2 pa (by rw [n1 _ _ _ rfl, starEach_cons hc.2.1.1]; rfl) (starEach_cons hc.2.1.1)
      | .cons _ .nil, [], h3, _, _, _ => simp at h3
      | .cons _ .nil, _ :: _ :: _, _, hc, _, _ => simp [ckEs] at hc
      | .nil, _ :: _, _, hc, _, _ => simp [ckEs] at hc
      | .cons _ (.cons _ _), [], h3, _, _, _ => simp at h3
      | .cons _ (.cons _ _), [_], _, hc, _, _ => simp [ckEs] at hc
      | .cons _ (.cons _ (.cons _ _)), [_, _], _, hc, _, _ => simp [ckEs] at hc
      | .cons _ (.cons _ _), _ :: _ :: _ :: _, h3, _, _, _ => simp at h3
    · cases h
  | .enum e, tg, x, _, _, _, ok, h => by
    simp only [ckI] at h
    split at h
    · simp only [Bool.and_eq_true, decide_eq_true_eq] at h
      obtain ⟨⟨⟨⟨h0, h1⟩, h2⟩, h3⟩, h4⟩ := h
      subst h1
      cases tg <;> first | (cases h0; done) | skip
      simp only [rdI]
      rw [ok.g.K]
      exact pi_enum (ok.gl h2) (ok.g.blt _ (by simp [bNames])) (pa_cons (ckE_ok e _ ok h4).1 pa_nil (starEach_cons h3)) (starEach_cons h3)
    · cases h
  | .zip a b, tg, x, _, _, _, ok, h => by
    simp only [ckI] at h
    split at h
    · simp only [Bool.and_eq_true, decide_eq_true_eq] at h
      obtain ⟨⟨⟨⟨⟨⟨h0, h1⟩, h2⟩, h3⟩, h4⟩, h5⟩, h6⟩ := h
      subst h1
      cases tg <;> first | (cases h0; done) | skip
      simp only [rdI]
      rw [ok.g.K]
      have s2 := fun env => starEach_cons (es := []) (env := env) h4
      exact RZ.pi_zipA (ok.gl h2) (ok.g.blt _ (by simp [bNames])) (pa_cons (ckE_ok a _ ok h5).1 (pa_cons (ckE_ok b _ ok h6).1 pa_nil (s2 _)) (starEach_cons h3)) (starEach_cons h3) (by rw [s2]; rfl)
    · cases h
end
end
end Bb

set_option maxRecDepth 100000
set_option maxHeartbeats 8000000
namespace Bb
open L2 PyProof.Rows PySem.Spec PySem

/-! ### statements: what is checked -/
def lcl (sc : Scope) (x : Str) : Bool := match sc.names.lookup x with | some .local => true | _ => false
/-- no stores are swapped: constants alone, or not two or three, or a target that is no plain local -/
def swNone (sc : Scope) (ts : List Expr) : Expr → Bool
  | .Tuple vs _ _ => (!(ts.length == 2 || ts.length == 3)) || vs.all (foldedForSure 8) || (ts.any fun t => match t with | .Name x _ => !lcl sc x | _ => false)
  | _ => true
def setC (sc : Scope) (x : Str) (p : Pos) : Expr → Bool
  | .ListComp _ _ s q => (!lcl sc x) || (p.line == q.line && !(s.names.any fun (n, k) => n == x && (k == .local || k == .cell)))
  | _ => false
mutual
def ckS (N : List Str) (FN : List FnE) (sc : Scope) : Sx → Stmt → Bool
  | .set i e, s => match s with
    | .Assign [.Name x p] v _ => kx N sc i x && ckE N FN sc e v && (ncomp v || setC sc x p v)
    | _ => false
  | .par i j a b, s => match s with
    | .Assign [.Tuple [.Name x p, .Name y q] _ _] (.Tuple [l, r] _ _) _ => decide (N[i]? = some x) && decide (N[j]? = some y) && lcl sc x && lcl sc y && decide (i ≠ j) && !(x == y) && (q.line == p.line) && nst l && nst r && !(foldedForSure 8 l && foldedForSure 8 r) && !(constantsAlone 8 l && constantsAlone 8 r) && ckE N FN sc a l && ckE N FN sc b r
    | _ => false
  | .par3 i j k a b c, s => match s with
    | .Assign [.Tuple [.Name x p, .Name y q, .Name z o] _ _] (.Tuple [l, r, t] _ _) _ => decide (N[i]? = some x) && decide (N[j]? = some y) && decide (N[k]? = some z) && lcl sc x && lcl sc y && lcl sc z && decide (i ≠ j) && decide (i ≠ k) && decide (j ≠ k) && !(x == y) && !(x == z) && !(y == z) && (q.line == p.line) && (o.line == p.line) && nst l && nst r && nst t &&
        !(foldedForSure 8 l && foldedForSure 8 r && foldedForSure 8 t) && !(constantsAlone 8 l && constantsAlone 8 r && constantsAlone 8 t) && ckE N FN sc a l && ckE N FN sc b r && ckE N FN sc c t
    | _ => false
  | .asg is e, s => match s with
    | .Assign [.Tuple ts _ _] v _ => ncomp v && ckNs N sc is ts && swNone sc ts v && ckE N FN sc e v
    | _ => false
  | .put o i v, s => match s with
    | .Assign [.Subscript x y _] z _ => nsl y && ckE N FN sc o x && ckE N FN sc i y && ckE N FN sc v z
    | _ => false
  | .app o v, s => match s with
    | .Expr (.Call (.Attribute x n p) [y] [] q) _ => decide (n = ("append" : Str)) && (p.endLine == q.line) && nnest1 x && nst y && ckE N FN sc o x && ckE N FN sc v y
    | _ => false
  | .ext o v, s => match s with
    | .Expr (.Call (.Attribute x n p) [y] [] q) _ => decide (n = ("extend" : Str)) && (p.endLine == q.line) && nnest1 x && nst y && ckE N FN sc o x && ckE N FN sc v y
    | _ => false
  | .ite c a b, s => match s with
    | .If x ys zs _ => nif x && ckE N FN sc c x && ckSs N FN sc a ys && ckSs N FN sc b zs
    | _ => false
  | .for tg it b, s => match s with
    | .For t i ys [] _ => nset i && ckTg N sc tg t && ckI N FN sc t it i && ckSs N FN sc b ys
    | _ => false
  | .while c b, s => match s with
    | .While x ys [] _ => nif x && ckE N FN sc c x && ckSs N FN sc b ys
    | _ => false
  | .ret e, s => match s with | .Return (some x) _ => ckE N FN sc e x | _ => false
  | .retN, s => match s with | .Return none _ => true | _ => false
  | .drop e, s => match s with | .Expr x _ => ncomp x && ckE N FN sc e x | _ => false
  | .pass, s => match s with | .Pass _ => true | _ => false
  | .never, _ => true
def ckSs (N : List Str) (FN : List FnE) (sc : Scope) : Sxs → List Stmt → Bool
  | .nil, ss => match ss with | [] => true | _ => false
  | .cons s r, ss => match ss with | t :: ts => ckS N FN sc s t && ckSs N FN sc r ts | _ => false
end
mutual
def rdS (C : RC) (E : XK) : Sx → TS
  | .set i e => tAsg (rdE C E e) (gName i)
  | .par i j a b => tPar i j (tCons (rdE C E a) (tCons (rdE C E b) tNil))
  | .par3 i j l a b c => tPar3 i j l (tCons (rdE C E a) (tCons (rdE C E b) (tCons (rdE C E c) tNil)))
  | .asg is e => tAsg (rdE C E e) (gTup C.K is.length (rdNs is))
  | .put o i v => fun D σ H => tAsg (rdE C E v) (gSub (rdE C E o) (rdE C E i) rSetL) D σ H ∨ sDPut (rdE C E o) (rdE C E i) (rdE C E v) D σ H
  | .app o v => tDrop (tBM C.K "list" rAppend (rdE C E o) (tCons (rdE C E v) tNil))
  | .ext o v => tDrop (tBM C.K "list" rExtend (rdE C E o) (tCons (rdE C E v) tNil))
  | .ite c a b => tIfS (tB (rdE C E c)) (rdSs C E a) (rdSs C E b)
  | .for tg it b => tFor (rdI C E it) (rdTg C.K tg) (rdSs C E b)
  | .while c b => tWhile (tB (rdE C E c)) (rdSs C E b)
  | .ret e => tRet (rdE C E e)
  | .retN => tRetN
  | .drop e => tDrop (rdE C E e)
  | .pass => tNext
  | .never => tNever
def rdSs (C : RC) (E : XK) : Sxs → TS
  | .nil => tNext
  | .cons s r => tSeq (rdS C E s) (rdSs C E r)
end
/-- the context of a body -/
structure SOk (C : RC) (N : List Str) (FN : List FnE) (sc : Scope) (E : XK) (X : Cx) : Prop extends CxOk C N FN sc E X where
  sce : X.env.scope = sc
  kind : sc.kind = .function
  hp : PassesOwn (model X.prog X.w) X.A X.env X.xe
section
variable {C : RC} {N : List Str} {FN : List FnE} {sc : Scope} {E : XK} {X : Cx}
theorem lcl_of {x : Str} (h : lcl sc x = true) : sc.names.lookup x = some .local := by
  unfold lcl at h
  split at h
  · assumption
  · cases h
theorem SOk.bk (ok : SOk C N FN sc E X) : X.env.blockKind = .function := by
  unfold Env.blockKind
  rw [ok.sce, ok.kind]
  rfl
theorem SOk.kind_lcl (ok : SOk C N FN sc E X) {x : Str} (h : lcl sc x = true) : X.env.kindOf x = some .local := by
  show X.env.scope.names.lookup x = _
  rw [ok.sce]
  exact lcl_of h
theorem SOk.kind_ncl (ok : SOk C N FN sc E X) {x : Str} (h : lcl sc x = false) : (X.env.kindOf x == some .local) = false := by
  have e : X.env.kindOf x = sc.names.lookup x := by
    show X.env.scope.names.lookup x = _
    rw [ok.sce]
  rw [e]
  unfold lcl at h
  split at h
  · cases h
  · rename_i q
    cases z : sc.names.lookup x with
    | none => rfl
    | some k =>
      cases k <;> first | rfl | exact absurd z q
theorem sw2 (ok : SOk C N FN sc E X) {x y : Str} {p q pt pv : Pos} {k k2 : Nat} {l r : Expr} (h1 : lcl sc x = true) (h2 : lcl sc y = true) (hne : (x == y) = false) (hl : (q.line == p.line) = true) (n1 : nst l = true) (n2 : nst r = true)
    (f : (foldedForSure 8 l && foldedForSure 8 r) = false) (c : (constantsAlone 8 l && constantsAlone 8 r) = false) :
    swappedStores [.Tuple [.Name x p, .Name y q] k pt] (.Tuple [l, r] k2 pv) X.env = pure (some [x, y]) := by
  have s1 : ∀ e : Expr, nst e = true → (match e with | .Starred .. => true | _ => false) = false := fun e h => by cases e <;> first | rfl | cases h
  have hl' : (p.line == p.line) = true := by simp
  have hne' : (y == x) = false := by
    rw [beq_eq_false_iff_ne] at hne ⊢
    exact fun e => hne e.symm
  unfold swappedStores
  simp only [List.length_cons, List.length_nil, ok.bk, List.any_cons, List.any_nil, s1 l n1, s1 r n2, List.head?_cons, Option.map_some, Option.getD_some, Expr.pos, List.filterMap_cons, List.filterMap_nil, ok.kind_lcl h1, ok.kind_lcl h2, hl, hl', List.all_cons, List.all_nil, Bool.and_true, f, c]
  simp [List.eraseDups_cons, hne, hne', beq_iff_eq]
  intro h
  exfalso
  rcases h with h | h
  · cases l <;> first | (cases h; done) | (cases n1; done)
  · cases r <;> first | (cases h; done) | (cases n2; done)
theorem sw3 (ok : SOk C N FN sc E X) {x y z : Str} {p q o pt pv : Pos} {k k2 : Nat} {l r t : Expr} (h1 : lcl sc x = true) (h2 : lcl sc y = true) (h3 : lcl sc z = true) (e1 : (x == y) = false) (e2 : (x == z) = false) (e3 : (y == z) = false) (hl : (q.line == p.line) = true) (hl2 : (o.line == p.line) = true) (n1 : nst l = true) (n2 : nst r = true) (n3 : nst t = true)
    (f : (foldedForSure 8 l && foldedForSure 8 r && foldedForSure 8 t) = false) (c : (constantsAlone 8 l && constantsAlone 8 r && constantsAlone 8 t) = false) :
    swappedStores [.Tuple [.Name x p, .Name y q, .Name z o] k pt] (.Tuple [l, r, t] k2 pv) X.env = pure (some [x, y, z]) := by
  have hl' : (p.line == p.line) = true := by simp
  have sy : ∀ a b : Str, (a == b) = false → (b == a) = false := fun a b h => by
    rw [beq_eq_false_iff_ne] at h ⊢
    exact fun e => h e.symm
  rw [Bool.and_assoc] at f c
  unfold swappedStores
  simp only [List.length_cons, List.length_nil, ok.bk, List.any_cons, List.any_nil, List.head?_cons, Option.map_some, Option.getD_some, Expr.pos, List.filterMap_cons, List.filterMap_nil, ok.kind_lcl h1, ok.kind_lcl h2, ok.kind_lcl h3, hl, hl2, hl', List.all_cons, List.all_nil, Bool.and_true, f, c]
  simp [List.eraseDups_cons, e1, e2, e3, sy _ _ e1, sy _ _ e2, sy _ _ e3, beq_iff_eq]
  intro h
  exfalso
  rcases h with h | h | h
  · cases l <;> first | (cases h; done) | (cases n1; done)
  · cases r <;> first | (cases h; done) | (cases n2; done)
  · cases t <;> first | (cases h; done) | (cases n3; done)
theorem names_less (ok : SOk C N FN sc E X) (ln : Nat) : ∀ ts : List Expr, (ts.any fun t => match t with | .Name x _ => !lcl sc x | _ => false) = true →
    ((ts.filterMap fun | .Name id pos => if X.env.kindOf id == some .local && pos.line == ln then some id else none | _ => none).length != ts.length) = true := by
  have le : ∀ ts : List Expr, (ts.filterMap fun | .Name id pos => if X.env.kindOf id == some .local && pos.line == ln then some id else none | _ => none).length ≤ ts.length := fun ts => List.length_filterMap_le _ _
  intro ts h
  induction ts with
  | nil => simp at h
  | cons t ts ih =>
    have l1 := le ts
    rw [bne_iff_ne]
    rw [List.any_cons, Bool.or_eq_true] at h
    have step : (List.filterMap (fun | .Name id pos => if X.env.kindOf id == some .local && pos.line == ln then some id else none | _ => none) (t :: ts)).length ≤ 1 + (ts.filterMap fun | .Name id pos => if X.env.kindOf id == some .local && pos.line == ln then some id else none | _ => none).length := by
      rw [List.filterMap_cons]
      split
      · omega
      · rw [List.length_cons]
        omega
    rw [List.length_cons]
    rcases h with h | h
    · cases t with
      | Name x p =>
        have hx : lcl sc x = false := by simpa using h
        have e : (List.filterMap (fun | .Name id pos => if X.env.kindOf id == some .local && pos.line == ln then some id else none | _ => none) (Expr.Name x p :: ts)) = (ts.filterMap fun | .Name id pos => if X.env.kindOf id == some .local && pos.line == ln then some id else none | _ => none) := by
          rw [List.filterMap_cons]
          simp only [ok.kind_ncl hx, Bool.false_and, Bool.false_eq_true, if_false]
        rw [e]
        omega
      | _ => cases h
    · have q := ih h
      rw [bne_iff_ne] at q
      omega
theorem ite_none {α : Type} {p : Prop} [Decidable p] {x : Sem (Option α)} (h : ¬ p → x = pure none) : (if p then pure none else x) = pure none := by
  by_cases q : p
  · rw [if_pos q]
  · rw [if_neg q]
    exact h q
theorem swn (ok : SOk C N FN sc E X) {ts : List Expr} {k : Nat} {pt : Pos} {v : Expr} (h : swNone sc ts v = true) : swappedStores [.Tuple ts k pt] v X.env = pure none := by
  cases v with
  | Tuple vs k2 pv =>
    have h : (!(ts.length == 2 || ts.length == 3) || vs.all (foldedForSure 8) || (ts.any fun t => match t with | .Name x _ => !lcl sc x | _ => false)) = true := h
    unfold swappedStores
    refine ite_none fun a => ite_none fun b => ite_none fun c => ite_none fun d => ?_
    exfalso
    rw [Bool.or_eq_true, Bool.or_eq_true] at a h
    rw [Bool.or_eq_true] at c
    rcases h with (h | h) | h
    · exact a (.inl (.inl h))
    · exact d h
    · exact c (.inl (names_less ok _ ts h))
  | _ => rfl
theorem PS.or {st : Stmt} {t t' : TS} (h : PS X st t) (h' : PS X st t') : PS X st (fun D σ H => t D σ H ∨ t' D σ H) := ⟨fun pins s σ H D I q => q.elim (h.run pins s σ H D I) (h'.run pins s σ H D I)⟩
theorem meth1 (ok : SOk C N FN sc E X) {x y : Expr} {n : Str} {id : String} {p q pos : Pos} {r : V → List V → Hp → VK → Prop} {to tv : TE} (slot : Slot "list" n id) (hty : typeOf (.builtin id) = pure (.type "method_descriptor")) (hm : MtR X id r)
    (hl : (p.endLine == q.line) = true) (h1 : nnest1 x = true) (h2 : nst y = true) (ho : PE X x to) (hv : PE X y tv) : PS X (.Expr (.Call (.Attribute x n p) [y] [] q) pos) (tDrop (tBM C.K "list" r to (tCons tv tNil))) := by
  rw [ok.g.K]
  have s := starEach_cons (es := []) (env := X.env) h2
  exact ps_expr (pe_bm PySem.F.plainAttrs_list slot hty hm ho (pa_cons hv pa_nil s) (base_of h1) (by rw [s]; rfl) hl s rfl) rfl
theorem set_ok (ok : SOk C N FN sc E X) {x : Str} {i : Nat} {p pos : Pos} {v : Expr} {e : Ex} (h1 : kx N sc i x = true) (h2 : ckE N FN sc e v = true)
    (h3 : (ncomp v || setC sc x p v) = true) :
    PS X (.Assign [.Name x p] v pos) (tAsg (rdE C E e) (gName i)) := by
  have he := (ckE_ok e v ok.toCxOk h2).1
  have hk : N[i]? = some x ∧ loc sc x = true := by
    unfold kx at h1
    rw [Bool.and_eq_true] at h1
    exact ⟨of_decide_eq_true h1.1, h1.2⟩
  obtain ⟨l1, l2⟩ := ok.toCxOk.loc hk.2
  have nd : X.N.Nodup := by rw [ok.nN]; exact ok.nd
  have hi : X.N[i]? = some x := by rw [ok.nN]; exact hk.1
  rw [Bool.or_eq_true] at h3
  rcases h3 with h3 | h3
  · exact ps_set nd hi l1 he (noswap_of h3) l2
  · cases v with
    | ListComp l gs s q =>
      have h3 : ((!lcl sc x) || (p.line == q.line && !(s.names.any fun (n, k) => n == x && (k == .local || k == .cell)))) = true := h3
      rw [Bool.or_eq_true, Bool.and_eq_true] at h3
      rcases h3 with h3 | ⟨h3, h4⟩
      · have z : swapsWith (.ListComp l gs s q) (some (.Name x p)) pos.line X.env = pure false := by
          have z := ok.kind_ncl (x := x) (by simpa using h3)
          unfold swapsWith
          simp only [ok.bk, z, Bool.and_false, Bool.false_and]
          try rfl
        exact ps_set nd hi l1 he z l2
      · by_cases hll : lcl sc x = true
        · have hl : X.env.scope.names.lookup x = some .local := ok.kind_lcl hll
          have hkf : X.env.scope.kind = .function := by rw [ok.sce]; exact ok.kind
          have ha : (s.names.any fun (n, k) => n == x && (k == .local || k == .cell)) = false := by simpa using h4
          have sw := sw_true (elt := l) (gs := gs) (scope := s) (pos := q) (py := p) (l := pos.line) hkf hl h3 ha
          -- the comprehension, stored within
          cases e with
          | comp elt tg it cond own =>
            simp only [ckE] at h2
            split at h2
            · rename_i l' t i' fs s' p' heq
              injection heq with e1 e2 e3 e4
              subst e1 e2 e3 e4
              simp only [Bool.and_eq_true] at h2
              obtain ⟨⟨⟨⟨⟨g1, g2⟩, g3⟩, g4⟩, g5⟩, g6⟩ := h2
              have hw : own = (ownOf N own).map (·.2) := by
                unfold ownOf
                rw [List.map_map]
                exact (List.map_id own).symm
              simp only [rdE]
              rw [hw]
              exact ps_setLc (own := ownOf N own) ok.calm nd hi hl sw (ckI_ok it _ _ ok.toCxOk g4) (ok.toCxOk.blkOk g1) (fun s H D cl fp => ckTg_ok (ok.toCxOk.blk s H D cl fp) tg _ g3) (fun s H D cl fp => ckC_ok (E := E0) cond _ (ok.toCxOk.blk s H D cl fp) g5)
                (fun s H D cl fp => (ckE_ok elt _ (ok.toCxOk.blk s H D cl fp) g6).1) (fold_of g2)
            · cases h2
          | never =>
            simp only [rdE]
            exact ⟨fun _ _ _ _ _ _ z => False.elim z⟩
          | _ => simp [ckE] at h2
        · have z : swapsWith (.ListComp l gs s q) (some (.Name x p)) pos.line X.env = pure false := by
            have z := ok.kind_ncl (x := x) (by simpa using hll)
            unfold swapsWith
            simp only [ok.bk, z, Bool.and_false, Bool.false_and]
            try rfl
          exact ps_set nd hi l1 he z l2
    | _ => cases h3
mutual
theorem ckS_ok (ok : SOk C N FN sc E X) : ∀ (s : Sx) (st : Stmt), ckS N FN sc s st = true → PS X st (rdS C E s)
  | .set i e, st, h => by
    simp only [ckS] at h
    split at h
    · rw [Bool.and_eq_true, Bool.and_eq_true] at h
      exact set_ok ok h.1.1 h.1.2 h.2
    · cases h
  | .par i j a b, st, h => by
    simp only [ckS] at h
    split at h
    · simp only [Bool.and_eq_true, decide_eq_true_eq, Bool.not_eq_true'] at h
      obtain ⟨⟨⟨⟨⟨⟨⟨⟨⟨⟨⟨⟨h1, h2⟩, h3⟩, h4⟩, h5⟩, h6⟩, h7⟩, h8⟩, h9⟩, h10⟩, h11⟩, h12⟩, h13⟩ := h
      have ea := (ckE_ok a _ ok.toCxOk h12).1
      have eb := (ckE_ok b _ ok.toCxOk h13).1
      have s1 := fun env => starEach_cons (es := []) (env := env) h9
      have s2 := fun es env => starEach_cons (es := es) (env := env) h8
      exact ps_par ok.calm (by rw [ok.nN]; exact ok.nd) (by rw [ok.nN]; exact h1) (by rw [ok.nN]; exact h2) h5 (ok.kind_lcl h3) (ok.kind_lcl h4) (pa_cons ea (pa_cons eb pa_nil (s1 _)) (s2 _ _)) (sw2 ok h3 h4 h6 h7 h8 h9 h10 h11) rfl
    · cases h
  | .par3 i j k a b c, st, h => by
    simp only [ckS] at h
    split at h
    · simp only [Bool.and_eq_true, decide_eq_true_eq, Bool.not_eq_true'] at h
      obtain ⟨⟨⟨⟨⟨⟨⟨⟨⟨⟨⟨⟨⟨⟨⟨⟨⟨⟨⟨⟨⟨h1, h2⟩, h3⟩, h4⟩, h5⟩, h6⟩, h7⟩, h8⟩, h9⟩, h10⟩, h11⟩, h12⟩, h13⟩, h14⟩, h15⟩, h16⟩, h17⟩, h18⟩, h19⟩, h20⟩, h21⟩, h22⟩ := h
      have ea := (ckE_ok a _ ok.toCxOk h20).1
      have eb := (ckE_ok b _ ok.toCxOk h21).1
      have ec := (ckE_ok c _ ok.toCxOk h22).1
      exact ps_par3 ok.calm (by rw [ok.nN]; exact ok.nd) (by rw [ok.nN]; exact h1) (by rw [ok.nN]; exact h2) (by rw [ok.nN]; exact h3) h7 h8 h9 (ok.kind_lcl h4) (ok.kind_lcl h5) (ok.kind_lcl h6) (pa_cons ea (pa_cons eb (pa_cons ec pa_nil (starEach_cons h17)) (starEach_cons h16)) (starEach_cons h15))
        (sw3 ok h4 h5 h6 h10 h11 h12 h13 h14 h15 h16 h17 h18 h19) rfl
    · cases h
  | .asg is e, st, h => by
    simp only [ckS] at h
    split at h
    · simp only [Bool.and_eq_true] at h
      obtain ⟨⟨⟨h1, h2⟩, h3⟩, h4⟩ := h
      obtain ⟨a, b, c⟩ := ckNs_ok ok.toCxOk is _ h2
      simp only [rdS]
      rw [ok.g.K]
      exact ps_asg (ckE_ok e _ ok.toCxOk h4).1 (pg_tup ok.calm a b c) (by unfold swapsWithSole; exact noswap_of h1) (swn ok h3) rfl
    · cases h
  | .put o i v, st, h => by
    simp only [ckS] at h
    split at h
    · simp only [Bool.and_eq_true] at h
      obtain ⟨⟨⟨h1, h2⟩, h3⟩, h4⟩ := h
      have eo := (ckE_ok o _ ok.toCxOk h2).1
      have ei := (ckE_ok i _ ok.toCxOk h3).1
      have ev := (ckE_ok v _ ok.toCxOk h4).1
      rename_i x y tp z ap
      have z1 : swapsWith z (some (.Subscript x y tp)) ap.line X.env = pure false := by cases z <;> rfl
      have ha : PG X (.Subscript x y tp) (gSub (rdE C E o) (rdE C E i) rSetL) := pg_sub eo ei set_list (by cases y <;> first | (intro _; rfl) | (cases h1; done))
      exact PS.or (ps_asg ev ha z1 rfl rfl) (ps_dput ok.toCxOk.hu1 eo ei ev z1)
    · cases h
  | .app o v, st, h => by
    simp only [ckS] at h
    split at h
    · simp only [Bool.and_eq_true, decide_eq_true_eq] at h
      obtain ⟨⟨⟨⟨⟨h1, h2⟩, h3⟩, h4⟩, h5⟩, h6⟩ := h
      subst h1
      exact meth1 ok PySem.F.slot_list_append PySem.F.type_list_append mt_append h2 h3 h4 (ckE_ok o _ ok.toCxOk h5).1 (ckE_ok v _ ok.toCxOk h6).1
    · cases h
  | .ext o v, st, h => by
    simp only [ckS] at h
    split at h
    · simp only [Bool.and_eq_true, decide_eq_true_eq] at h
      obtain ⟨⟨⟨⟨⟨h1, h2⟩, h3⟩, h4⟩, h5⟩, h6⟩ := h
      subst h1
      exact meth1 ok PySem.F.slot_list_extend PySem.F.type_list_extend mt_extend h2 h3 h4 (ckE_ok o _ ok.toCxOk h5).1 (ckE_ok v _ ok.toCxOk h6).1
    · cases h
  | .ite c a b, st, h => by
    simp only [ckS] at h
    split at h
    · simp only [Bool.and_eq_true] at h
      obtain ⟨⟨⟨h1, h2⟩, h3⟩, h4⟩ := h
      exact ps_if ((ckE_ok c _ ok.toCxOk h2).2.1 h1) (ckSs_ok ok a _ h3) (ckSs_ok ok b _ h4)
    · cases h
  | .for tg it b, st, h => by
    simp only [ckS] at h
    split at h
    · simp only [Bool.and_eq_true] at h
      obtain ⟨⟨⟨h1, h2⟩, h3⟩, h4⟩ := h
      exact ps_for ok.hp ok.calm (ckI_ok it _ _ ok.toCxOk h3) (ckTg_ok ok.toCxOk tg _ h2) (ckSs_ok ok b _ h4) (fold_of h1)
    · cases h
  | .while c b, st, h => by
    simp only [ckS] at h
    split at h
    · simp only [Bool.and_eq_true] at h
      obtain ⟨⟨h1, h2⟩, h3⟩ := h
      exact ps_while ok.hp ((ckE_ok c _ ok.toCxOk h2).2.1 h1) (ckSs_ok ok b _ h3)
    · cases h
  | .ret e, st, h => by
    simp only [ckS] at h
    split at h
    · exact ps_ret (ckE_ok e _ ok.toCxOk h).1
    · cases h
  | .retN, st, h => by
    simp only [ckS] at h
    split at h
    · exact ps_retN
    · cases h
  | .drop e, st, h => by
    simp only [ckS] at h
    split at h
    · rw [Bool.and_eq_true] at h
      exact ps_expr (ckE_ok e _ ok.toCxOk h.2).1 (noswap_of h.1)
    · cases h
  | .pass, st, h => by
    simp only [ckS] at h
    split at h
    · exact ps_pass
    · cases h
  | .never, st, h => ps_never
theorem ckSs_ok (ok : SOk C N FN sc E X) : ∀ (ss : Sxs) (st : List Stmt), ckSs N FN sc ss st = true → PSs X st (rdSs C E ss)
  | .nil, st, h => by
    simp only [ckSs] at h
    split at h
    · exact pss_nil
    · cases h
  | .cons s r, st, h => by
    simp only [ckSs] at h
    split at h
    · rw [Bool.and_eq_true] at h
      exact pss_cons (ckS_ok ok s _ h.1) (ckSs_ok ok r _ h.2)
    · cases h
end
end
end Bb

set_option maxRecDepth 100000
set_option maxHeartbeats 4000000
/-! Pure values and the pure evaluator. -/
namespace Bb
open L2 PyProof.Rows PySem.Spec PySem

/-! ### pure values -/
inductive PV where
  | non | bl (b : Bool) | int (i : Int) | str (s : Str) | ty (n : Kd)
  | lst (c : Bool) (xs : List PV) | tup (xs : List PV) | dK (c : Bool) (kvs : List (Key × PV)) | dT (c : Bool) (kvs : List (List Key × PV))
  | strm
instance : Inhabited PV := ⟨.non⟩
/-- the stream of draws: what is left of the script, the digits, the count, the mixed number -/
structure SS where
  script : List Int
  cell : Int
  count : Int
  hash : Int
mutual
def toD : PV → Option PyData
  | .non => some .none
  | .bl b => some (.bool b)
  | .int i => some (.int i)
  | .str s => some (.str s)
  | .lst _ xs => (toDs xs).map .list
  | .tup xs => (toDs xs).map .tuple
  | .ty _ => none
  | .dK _ _ => none
  | .dT _ _ => none
  | .strm => none
def toDs : List PV → Option (List PyData)
  | [] => some []
  | x :: xs => (toD x).bind fun d => (toDs xs).map fun ds => d :: ds
end
def mutb : PV → Bool
  | .lst _ _ => true | .dK _ _ => true | .dT _ _ => true | _ => false
/-! ### results -/
inductive Rs (α : Type) where
  | no | ok (a : α) (S : SS) | ex (c : Nat) (p : PV) (S : SS)
def Rs.bind {α β : Type} (r : Rs α) (f : α → SS → Rs β) : Rs β := match r with
  | .no => .no
  | .ok a S => f a S
  | .ex c p S => .ex c p S
@[simp] theorem Rs.bind_no {α β : Type} (f : α → SS → Rs β) : (Rs.no : Rs α).bind f = .no := rfl
@[simp] theorem Rs.bind_ok {α β : Type} (a : α) (S : SS) (f : α → SS → Rs β) : (Rs.ok a S).bind f = f a S := rfl
@[simp] theorem Rs.bind_ex {α β : Type} (c : Nat) (p : PV) (S : SS) (f : α → SS → Rs β) : (Rs.ex c p S : Rs α).bind f = .ex c p S := rfl
def ofO {α : Type} (o : Option α) (S : SS) : Rs α := match o with
  | none => .no
  | some a => .ok a S
@[simp] theorem ofO_none {α : Type} (S : SS) : ofO (none : Option α) S = .no := rfl
@[simp] theorem ofO_some {α : Type} (a : α) (S : SS) : ofO (some a) S = .ok a S := rfl
def noex {α : Type} (r : Rs α) : Rs α := match r with
  | .ex _ _ _ => .no
  | r => r
@[simp] theorem noex_no {α : Type} : noex (Rs.no : Rs α) = .no := rfl
@[simp] theorem noex_ok {α : Type} (a : α) (S : SS) : noex (Rs.ok a S) = .ok a S := rfl
@[simp] theorem noex_ex {α : Type} (c : Nat) (p : PV) (S : SS) : noex (Rs.ex c p S : Rs α) = .no := rfl
/-! ### slots -/
structure Sl where
  own : Bool
  p : PV
abbrev Env' := List (Option Sl)
def look (ρ : Env') (i : Nat) : Option PV := match ρ[i]? with
  | some (some s) => some s.p
  | _ => none
def lookS (ρ : Env') (i : Nat) : Option PV := match ρ[i]? with
  | some (some ⟨false, p⟩) => some p
  | _ => none
def lookO (ρ : Env') (i : Nat) : Option PV := match ρ[i]? with
  | some (some ⟨true, p⟩) => some p
  | _ => none
def share (is : List Nat) (ρ : Env') : Env' := is.foldr (fun (i : Nat) (ρ : Env') => match ρ[i]? with
  | some (some ⟨true, p⟩) => ρ.set i (some ⟨false, p⟩)
  | _ => ρ) ρ
def putS (ρ : Env') (i : Nat) (p : PV) : Env' := ρ.set i (some ⟨false, p⟩)
def setAll : List Nat → List PV → Env' → Env'
  | i :: is, p :: ps, ρ => setAll is ps (putS ρ i p)
  | _, _, ρ => ρ
def bindTg : Tg → PV → Env' → Option Env'
  | .nm i, p, ρ => some (putS ρ i p)
  | .tp is, .tup ps, ρ => if ps.length = is.length then some (setAll is ps ρ) else none
  | _, _, _ => none
def wipeP (ρ : Env') : List Nat → Env'
  | [] => ρ
  | v :: vs => (wipeP ρ vs).set v none
def tgIn : Tg → List Nat → Bool
  | .nm i, own => own.contains i
  | .tp is, own => is.all own.contains
/-! ### operators by pure values -/
def big : Nat := 1000000
def mulOk (i j : Int) : Bool := decide ((-(2 ^ 64) < i ∧ i < 2 ^ 64) ∨ (-(2 ^ 64) < j ∧ j < 2 ^ 64)) || decide (i.natAbs.log2 + j.natAbs.log2 < 1000000)
def binP : Bop → PV → PV → Option PV
  | .add, .int i, .int j => some (.int (i + j))
  | .add, .lst _ xs, .lst _ ys => if xs.length + ys.length ≤ big then some (.lst true (xs ++ ys)) else none
  | .add, .tup (x :: xs), .tup (y :: ys) => if xs.length + ys.length ≤ big then some (.tup (x :: xs ++ y :: ys)) else none
  | .sub, .int i, .int j => some (.int (i - j))
  | .mul, .int i, .int j => if mulOk i j then some (.int (i * j)) else none
  | .mul, .lst _ xs, .int k => if -1000000 ≤ k ∧ k ≤ 1000000 ∧ xs.length * k.toNat ≤ big then some (.lst true (List.replicate k.toNat xs).flatten) else none
  | .fdiv, .int i, .int j => if (j ≠ 0 ∧ j.natAbs < 1073741824) ∨ (0 < j ∧ j.natAbs.log2 < 9000) then some (.int (i.fdiv j)) else none
  | .mod, .int i, .int j => if j ≠ 0 then some (.int (i.fmod j)) else none
  | .pow, .int i, .int j => if 0 ≤ j ∧ j ≤ 1000000 ∧ i.natAbs < 2 ^ 64 then some (.int (i ^ j.toNat)) else none
  | _, _, _ => none
def negP : PV → Option PV
  | .int i => some (.int (-i))
  | _ => none
def beqL : List Nat → List Nat → Bool
  | [], [] => true
  | x :: xs, y :: ys => Nat.beq x y && beqL xs ys
  | _, _ => false
def beqS (a b : Str) : Bool := beqL a.cps.toList b.cps.toList
def beqI : Int → Int → Bool
  | .ofNat a, .ofNat b => Nat.beq a b
  | .negSucc a, .negSucc b => Nat.beq a b
  | _, _ => false
def eqG (x y : PV) : Option Bool := (toD x).bind fun d => (toD y).bind fun e => if SeqAt.shaped d && SeqAt.shaped e then some (PyData.eqv d e) else none
def eqP (x y : PV) : Option Bool := match x, y with
  | .int i, .int j => some (beqI i j)
  | .str a, .str b => some (beqS a b)
  | .bl a, .bl b => some (a == b)
  | x, y => eqG x y
def isNone : PyData → Bool
  | .none => true | _ => false
/-- data compared by g -/
def cmpD (g : PyData → PyData → Bool) (x y : PV) : Option Bool := (toD x).bind fun d => (toD y).bind fun e => if PySem.W.alike d e && !isNone d && decide (d.depth ≤ 60) then some (g d e) else none
def cmpI (g : Int → Int → Bool) (h : PyData → PyData → Bool) (x y : PV) : Option Bool := match x, y with
  | .int i, .int j => some (g i j)
  | x, y => cmpD h x y
/-- a key of a dict -/
def keyK : PV → Option Key
  | .int i => some (.inl i)
  | .str s => some (.inr s)
  | _ => none
def keysK : List PV → Option (List Key)
  | [] => some []
  | x :: xs => (keyK x).bind fun k => (keysK xs).map fun ks => k :: ks
def keyT : PV → Option (List Key)
  | .tup xs => keysK xs
  | _ => none
class KQ (κ : Type) where
  q : κ → κ → Bool
def beqK : Key → Key → Bool
  | .inl a, .inl b => beqI a b
  | .inr a, .inr b => beqS a b
  | _, _ => false
def beqT : List Key → List Key → Bool
  | [], [] => true
  | x :: xs, y :: ys => beqK x y && beqT xs ys
  | _, _ => false
instance : KQ Key := ⟨beqK⟩
instance : KQ (List Key) := ⟨beqT⟩
def getF {κ : Type} [KQ κ] : List (κ × PV) → κ → Option PV
  | [], _ => none
  | kv :: r, k => if KQ.q kv.1 k then some kv.2 else getF r k
def putF {κ : Type} [KQ κ] : List (κ × PV) → κ → PV → List (κ × PV)
  | [], k, v => [(k, v)]
  | kv :: r, k, v => if KQ.q kv.1 k then (kv.1, v) :: (overF r k v) else kv :: putF r k v
where overF : List (κ × PV) → κ → PV → List (κ × PV)
  | [], _, _ => []
  | kv :: r, k, v => if KQ.q kv.1 k then (kv.1, v) :: overF r k v else kv :: overF r k v
def getP {κ : Type} [DecidableEq κ] (kvs : List (κ × PV)) (k : κ) : Option PV := (kvs.find? fun kv => decide (kv.1 = k)).map (·.2)
def putP {κ : Type} [DecidableEq κ] (kvs : List (κ × PV)) (k : κ) (v : PV) : List (κ × PV) :=
  if (kvs.any fun kv => decide (kv.1 = k)) = true then kvs.map (fun kv => if kv.1 = k then (kv.1, v) else kv) else kvs ++ [(k, v)]
def flatP : PV → Bool
  | .non => true | .bl _ => true | .int _ => true | .str _ => true | _ => false
def inL (x : PV) (ys : List PV) : Option Bool := (toD x).bind fun d => (toDs ys).bind fun ds => if SeqAt.shaped d && SeqAt.shaped (.list ds) then some (ds.any fun z => PyData.eqv z d) else none
/-- in, a tuple of flat things -/
def eqF : PV → PV → Bool
  | .non, .non => true | .bl a, .bl b => a == b | .int a, .int b => beqI a b | .str a, .str b => beqS a b
  | .bl a, .int b => (if a then 1 else 0) == b | .int a, .bl b => a == (if b then 1 else 0)
  | _, _ => false
def inP (x y : PV) : Option Bool := match y with
  | .lst _ ys => inL x ys
  | .tup ys => if flatP x && ys.all flatP then some (ys.any fun z => eqF z x) else none
  | .dK _ kvs => (keyK x).map fun k => (getF kvs k).isSome
  | .dT _ kvs => (keyT x).map fun k => (getF kvs k).isSome
  | _ => none
def cmpP : Cop → PV → PV → Option Bool
  | .eq, x, y => eqP x y
  | .ne, x, y => (eqP x y).map (!·)
  | .lt, x, y => cmpI (fun i j => decide (i < j)) (fun d e => PySem.W.dataLt d e) x y
  | .le, x, y => cmpI (fun i j => decide (i ≤ j)) (fun d e => !PySem.W.dataLt e d) x y
  | .gt, x, y => cmpI (fun i j => decide (j < i)) (fun d e => PySem.W.dataLt e d) x y
  | .ge, x, y => cmpI (fun i j => decide (j ≤ i)) (fun d e => !PySem.W.dataLt d e) x y
  | .isin, x, y => inP x y
  | .notin, x, y => (inP x y).map (!·)
def isNonP : PV → Bool
  | .non => true | _ => false
/-- xs[i] -/
def idxP (x i : PV) : Option PV := match x, i with
  | .lst _ xs, .int j => atI xs j
  | .tup xs, .int j => atI xs j
  | .dK _ kvs, k => (keyK k).bind fun k => getF kvs k
  | .dT _ kvs, k => (keyT k).bind fun k => getF kvs k
  | _, _ => none
def cutP (xs : List PV) (lo hi : Option Int) : List PV := (xs.drop (HT.sIx xs.length 0 lo)).take (HT.sIx xs.length xs.length hi - HT.sIx xs.length 0 lo)
def sliceP (x : PV) (lo hi : Option Int) : Option PV := match x with
  | .lst _ xs => some (.lst true (cutP xs lo hi))
  | .tup xs => if HT.sIx xs.length 0 lo = 0 ∧ HT.sIx xs.length xs.length hi = xs.length then none else some (.tup (cutP xs lo hi))
  | _ => none
/-! ### built-in calls by pure values -/
def intsOf : List PV → Option (List Int)
  | [] => some []
  | .int i :: xs => (intsOf xs).map fun is => i :: is
  | _ => none
def blsOf : List PV → Option (List Bool)
  | [] => some []
  | .bl i :: xs => (blsOf xs).map fun is => i :: is
  | _ => none
def isTupC : PyData → Bool
  | .tuple (_ :: _) => true | _ => false
def isOtherD : PyData → Bool
  | .none => false | .tuple _ => false | _ => true
/-- forms of data -/
inductive DTy where
  | int | bool | str | list (t : DTy) | tup (ts : List DTy)
mutual
def fits : PyData → DTy → Bool
  | .int _, t => match t with | .int => true | _ => false
  | .bool _, t => match t with | .bool => true | _ => false
  | .str _, t => match t with | .str => true | _ => false
  | .list xs, t => match t with | .list t => fitsL xs t | _ => false
  | .tuple xs, t => match t with | .tup ts => fitsT xs ts | _ => false
  | .none, _ => false
  | .dict _, _ => false
def fitsL : List PyData → DTy → Bool
  | [], _ => true
  | x :: xs, t => fits x t && fitsL xs t
def fitsT : List PyData → List DTy → Bool
  | [], ts => match ts with | [] => true | _ => false
  | x :: xs, ts => match ts with | t :: ts => fits x t && fitsT xs ts | _ => false
end
def sortTys : List DTy := [.int, .str, .tup [.list .int, .list .int], .tup [.int, .int], .list .int, .tup [.int, .int, .int], .list (.list .int), .tup [.list .int, .list .int, .int]]
def insD (a : PV × PyData) : List (PV × PyData) → List (PV × PyData)
  | [] => [a]
  | b :: l => if PySem.W.dataLe false (fun (z : PV × PyData) => z.2) a b then a :: b :: l else b :: insD a l
def insI (a : Int) : List Int → List Int
  | [] => [a]
  | b :: l => if a ≤ b then a :: b :: l else b :: insI a l
def sortOk (ds : List PyData) : Bool := ((sortTys.any fun t => ds.all fun d => fits d t) || ds.all fun d => ds.all fun e => PySem.W.alike d e) && (ds.all isTupC || ds.all isOtherD) && ds.all fun d => decide (d.depth ≤ 60)
def sortL (ps : List PV) : Option (List PV) := (toDs ps).bind fun ds => if sortOk ds && decide (ps.length ≤ big) then some (((ps.zip ds).foldr insD []).map (·.1)) else none
def keyInts {α : Type} : List (Key × α) → Option (List Int)
  | [] => some []
  | (.inl i, _) :: r => (keyInts r).map fun is => i :: is
  | _ => none
def tyP : PV → Option Kd
  | .non => some .non | .bl _ => some .bool | .int _ => some .int | .str _ => some .str
  | .lst _ _ => some .list | .tup _ => some .tuple | .dK _ _ => some .dict | .dT _ _ => some .dict | .strm => some .list
  | .ty _ => none
def tyKnown : List Kd := [.int, .bool, .str, .list, .tuple, .dict]
def known : Kd → Bool
  | .non => false | _ => true
def isTy (a b : Kd) : Bool := Nat.beq a.code b.code || (Nat.beq a.code 1 && Nat.beq b.code 2)
def tysOf : List PV → Option (List Kd)
  | [] => some []
  | .ty n :: r => if known n then (tysOf r).map fun ns => n :: ns else none
  | _ => none
def isiP (x t : PV) : Option Bool := (tyP x).bind fun a => match t with
  | .ty n => if known n then some (isTy a n) else none
  | .tup ts => (tysOf ts).map fun ns => ns.any (isTy a)
  | _ => none
def keyPV : Key → PV
  | .inl i => .int i
  | .inr s => .str s
def pairsOf' : List PV → Option (List (Key × PV))
  | [] => some []
  | .tup [k, v] :: r => (keyK k).bind fun k => (pairsOf' r).map fun kvs => (k, v) :: kvs
  | _ => none
def mergeP (kvs more : List (Key × PV)) : List (Key × PV) := more.foldl (fun acc kv => putF acc kv.1 kv.2) kvs
def minI (n : Int) (ns : List Int) : Int := ns.foldl min n
def maxI (n : Int) (ns : List Int) : Int := ns.foldl max n
def bfP : Bf → List PV → Option PV
  | .len, [.lst _ xs] => some (.int xs.length)
  | .len, [.tup xs] => some (.int xs.length)
  | .len, [.str s] => if s.length ≤ big then some (.int s.length) else none
  | .len, [.dK _ kvs] => some (.int kvs.length)
  | .len, [.dT _ kvs] => some (.int kvs.length)
  | .abs, [.int i] => some (.int (if i < 0 then -i else i))
  | .all, [.lst _ xs] => (blsOf xs).map fun bs => .bl (bs.all id)
  | .any, [.lst _ xs] => (blsOf xs).map fun bs => .bl (bs.any id)
  | .sorted, [.lst _ xs] => (sortL xs).map (.lst true)
  | .sorted, [.dK _ kvs] => (keyInts kvs).bind fun ks => if ks.length < 64 then some (.lst true ((ks.foldr insI []).map .int)) else none
  | .min1, [.lst _ xs] => (intsOf xs).bind fun is => match is with | [] => none | i :: is => some (.int (minI i is))
  | .max1, [.lst _ xs] => (intsOf xs).bind fun is => match is with | [] => none | i :: is => some (.int (maxI i is))
  | .min2, [.int i, .int j] => some (.int (if j < i then j else i))
  | .max2, [.int i, .int j] => some (.int (if j > i then j else i))
  | .sum, [.lst _ xs] => (intsOf xs).map fun is => .int is.sum
  | .int, [.int i] => some (.int i)
  | .int, [.bl b] => some (.int (if b then 1 else 0))
  | .list, [.lst _ xs] => some (.lst true xs)
  | .list, [.tup xs] => some (.lst true xs)
  | .list, [.dK _ kvs] => some (.lst true (kvs.map fun kv => keyPV kv.1))
  | .tuple, [.lst _ xs] => some (.tup xs)
  | .tuple, [.tup xs] => some (.tup xs)
  | .dict, [.lst _ xs] => (pairsOf' xs).map fun kvs => .dK true (mergeP [] kvs)
  | .isinst, [x, t] => (isiP x t).map .bl
  | _, _ => none
def rngP : List PV → Option (Int × Int)
  | [.int j] => some (0, j)
  | [.int i, .int j] => some (i, j)
  | _ => none
def rngL (i j : Int) : List PV := (List.range (j - i).toNat).map fun (k : Nat) => PV.int (i + k)
def rngOk (i j : Int) : Bool := decide (-1000000 ≤ i) && decide (i ≤ 1000000) && decide (-1000000 ≤ j) && decide (j ≤ 1000000)
/-! ### escapes, fresh results -/
def escB (a : Ex) (l : List Nat) : List Nat := match a with
  | .var _ => []
  | _ => l
mutual
def esc : Ex → List Nat
  | .var i => [i]
  | .bin _ a b => escB a (esc a) ++ escB b (esc b)
  | .neg a => escB a (esc a)
  | .not a => esc a
  | .and a b => esc a ++ esc b
  | .or a b => esc a ++ esc b
  | .cmp _ a b => escB a (esc a) ++ escB b (esc b)
  | .isN a => escB a (esc a)
  | .notN a => escB a (esc a)
  | .ite c a b => esc c ++ esc a ++ esc b
  | .lst es => escs es
  | .tup es => escs es
  | .comp elt _ it cond _ => esc elt ++ escI it ++ escs cond
  | .call _ es => escs es
  | .bf _ es => escBs es
  | .lrng es => escs es
  | .idx a i => escB a (esc a) ++ escB i (esc i)
  | .slice a lo hi => escB a (esc a) ++ escs lo ++ escs hi
  | .callk _ es => escs es
  | .never => []
  | .pop0 _ => []
  | .non => [] | .bl _ => [] | .int _ => [] | .str _ => [] | .ty _ => [] | .dnew _ => []
def escs : Exs → List Nat
  | .nil => []
  | .cons e es => esc e ++ escs es
def escBs : Exs → List Nat
  | .nil => []
  | .cons e es => escB e (esc e) ++ escBs es
def escI : Itx → List Nat
  | .val e => escB e (esc e)
  | .rng es => escs es
  | .enum e => escB e (esc e)
  | .zip a b => escB a (esc a) ++ escB b (esc b)
end
/-- what a for takes as a value -/
def escF : Itx → List Nat
  | .val (.var i) => [i]
  | .enum (.var i) => [i]
  | .zip (.var i) (.var j) => [i, j]
  | .zip (.var i) b => i :: escI (.zip (.var i) b)
  | .zip a (.var j) => j :: escI (.zip a (.var j))
  | it => escI it
def fresh : Ex → Bool
  | .lst _ => true | .dnew _ => true | .comp _ _ _ _ _ => true | .lrng _ => true | .bin _ _ _ => true | .slice _ _ _ => true
  | .bf .list _ => true | .bf .sorted _ => true | .bf .dict _ => true
  | _ => false
/-! ### the evaluator -/
def brw (a : Ex) (ρ : Env') (S : SS) (r : Rs PV) : Rs PV := match a with
  | .var i => ofO (look ρ i) S
  | _ => r
def compL (f : PV → SS → Rs (Option PV)) : List PV → SS → Rs (List PV)
  | [], S => .ok [] S
  | p :: ps, S => (f p S).bind fun o S1 => (compL f ps S1).bind fun qs S2 => .ok (match o with | none => qs | some q => q :: qs) S2
def blOf : PV → Option Bool
  | .bl b => some b
  | _ => none
def itemsOf : PV → Option (List PV)
  | .lst _ xs => some xs
  | .tup xs => some xs
  | _ => none
def enumL : Nat → List PV → List PV
  | _, [] => []
  | k, x :: xs => .tup [.int k, x] :: enumL (k + 1) xs
def zipL : List PV → List PV → List PV
  | x :: xs, y :: ys => .tup [x, y] :: zipL xs ys
  | _, _ => []
def zipP : PV → PV → Option (List PV)
  | .lst _ xs, .lst _ ys => some (zipL xs ys)
  | .tup xs, .tup ys => some (zipL xs ys)
  | _, _ => none
def enumP : PV → Option (List PV)
  | .lst _ xs => some (enumL 0 xs)
  | _ => none
def intOf : PV → Option Int
  | .int i => some i
  | _ => none
mutual
def evE (F : Nat → List PV → SS → Rs PV) : Ex → Env' → SS → Rs PV
  | .var i, ρ, S => ofO (lookS ρ i) S
  | .non, _, S => .ok .non S
  | .bl b, _, S => .ok (.bl b) S
  | .int i, _, S => .ok (.int i) S
  | .str s, _, S => .ok (.str s) S
  | .ty n, _, S => .ok (.ty n) S
  | .bin o a b, ρ, S => (brw a ρ S (evE F a ρ S)).bind fun x S1 => (brw b ρ S1 (evE F b ρ S1)).bind fun y S2 => ofO (binP o x y) S2
  | .neg a, ρ, S => (brw a ρ S (evE F a ρ S)).bind fun x S1 => ofO (negP x) S1
  | .not a, ρ, S => (evE F a ρ S).bind fun x S1 => ofO ((blOf x).map fun b => .bl (!b)) S1
  | .and a b, ρ, S => (evE F a ρ S).bind fun x S1 => (ofO (blOf x) S1).bind fun c S1 => if c then evE F b ρ S1 else .ok (.bl false) S1
  | .or a b, ρ, S => (evE F a ρ S).bind fun x S1 => (ofO (blOf x) S1).bind fun c S1 => if c then .ok (.bl true) S1 else evE F b ρ S1
  | .cmp o a b, ρ, S => (brw a ρ S (evE F a ρ S)).bind fun x S1 => (brw b ρ S1 (evE F b ρ S1)).bind fun y S2 => ofO ((cmpP o x y).map .bl) S2
  | .isN a, ρ, S => (brw a ρ S (evE F a ρ S)).bind fun x S1 => .ok (.bl (isNonP x)) S1
  | .notN a, ρ, S => (brw a ρ S (evE F a ρ S)).bind fun x S1 => .ok (.bl (!isNonP x)) S1
  | .ite c a b, ρ, S => (evE F c ρ S).bind fun x S1 => (ofO (blOf x) S1).bind fun c S1 => if c then evE F a ρ S1 else evE F b ρ S1
  | .lst es, ρ, S => if exsLen es ≤ 1000 then (evEs F es ρ S).bind fun ps S1 => .ok (.lst true ps) S1 else .no
  | .tup es, ρ, S => if exsLen es ≤ 1000 then (evEs F es ρ S).bind fun ps S1 => .ok (.tup ps) S1 else .no
  | .dnew t, _, S => .ok (if t then .dT true [] else .dK true []) S
  | .comp elt tg it cond own, ρ, S => (evI F it ρ S).bind fun items S1 => if tgIn tg own && decide (items.length ≤ big) then
      (compL (fun p S2 => (ofO (bindTg tg p (wipeP ρ own)) S2).bind fun ρ2 S2 => (noex (evC F cond ρ2 S2)).bind fun b S3 => if b then (noex (evE F elt ρ2 S3)).bind fun q S4 => .ok (some q) S4 else .ok none S3) items S1).bind fun qs S2 => .ok (.lst true qs) S2 else .no
  | .call f es, ρ, S => (evEs F es ρ S).bind fun ps S1 => F f ps S1
  | .bf b es, ρ, S => (evBs F es ρ S).bind fun ps S1 => ofO (bfP b ps) S1
  | .lrng es, ρ, S => (evEs F es ρ S).bind fun ps S1 => (ofO (rngP ps) S1).bind fun ij S1 => if rngOk ij.1 ij.2 then .ok (.lst true (rngL ij.1 ij.2)) S1 else .no
  | .idx a i, ρ, S => (brw a ρ S (evE F a ρ S)).bind fun x S1 => (brw i ρ S1 (evE F i ρ S1)).bind fun y S2 => ofO (idxP x y) S2
  | .slice a lo hi, ρ, S => (brw a ρ S (evE F a ρ S)).bind fun x S1 => (evO F lo ρ S1).bind fun l S2 => (evO F hi ρ S2).bind fun h S3 => ofO (sliceP x l h) S3
  | .callk f es, ρ, S => (evEs F es ρ S).bind fun ps S1 => F f ps.reverse S1
  | .never, _, _ => .no
  | .pop0 _, _, _ => .no
def evEs (F : Nat → List PV → SS → Rs PV) : Exs → Env' → SS → Rs (List PV)
  | .nil, _, S => .ok [] S
  | .cons e es, ρ, S => (evE F e ρ S).bind fun x S1 => (evEs F es ρ S1).bind fun xs S2 => .ok (x :: xs) S2
def evBs (F : Nat → List PV → SS → Rs PV) : Exs → Env' → SS → Rs (List PV)
  | .nil, _, S => .ok [] S
  | .cons e es, ρ, S => (brw e ρ S (evE F e ρ S)).bind fun x S1 => (evBs F es ρ S1).bind fun xs S2 => .ok (x :: xs) S2
def evC (F : Nat → List PV → SS → Rs PV) : Exs → Env' → SS → Rs Bool
  | .nil, _, S => .ok true S
  | .cons e _, ρ, S => (evE F e ρ S).bind fun x S1 => ofO (blOf x) S1
def evO (F : Nat → List PV → SS → Rs PV) : Exs → Env' → SS → Rs (Option Int)
  | .nil, _, S => .ok none S
  | .cons e _, ρ, S => (evE F e ρ S).bind fun x S1 => ofO ((intOf x).map some) S1
def evI (F : Nat → List PV → SS → Rs PV) : Itx → Env' → SS → Rs (List PV)
  | .val e, ρ, S => (brw e ρ S (evE F e ρ S)).bind fun x S1 => ofO (itemsOf x) S1
  | .rng es, ρ, S => if exsLen es ≤ 2 then (evEs F es ρ S).bind fun ps S1 => (ofO (rngP ps) S1).bind fun ij S1 => if rngOk ij.1 ij.2 then .ok (rngL ij.1 ij.2) S1 else .no else .no
  | .enum e, ρ, S => (brw e ρ S (evE F e ρ S)).bind fun x S1 => ofO (enumP x) S1
  | .zip a b, ρ, S => (brw a ρ S (evE F a ρ S)).bind fun x S1 => (brw b ρ S1 (evE F b ρ S1)).bind fun y S2 => ofO (zipP x y) S2
end
inductive Fl where
  | nxt (ρ : Env') | ret (p : PV)
def forL (f : PV → Env' → SS → Rs Fl) : List PV → Env' → SS → Rs Fl
  | [], ρ, S => .ok (.nxt ρ) S
  | p :: ps, ρ, S => (f p ρ S).bind fun fl S1 => match fl with
    | .nxt ρ1 => forL f ps ρ1 S1
    | .ret q => .ok (.ret q) S1
def whL (c : Env' → SS → Rs Bool) (f : Env' → SS → Rs Fl) : Nat → Env' → SS → Rs Fl
  | 0, _, _ => .no
  | n + 1, ρ, S => (c ρ S).bind fun b S1 => if b then (f ρ S1).bind fun fl S2 => (match fl with
    | .nxt ρ1 => whL c f n ρ1 S2
    | .ret q => .ok (.ret q) S2) else .ok (.nxt ρ) S1
def setSl (ρ : Env') (i : Nat) (e : Ex) (p : PV) : Env' := ρ.set i (some ⟨fresh e && mutb p, p⟩)
/-- o[i] = v -/
def putIx (q i v : PV) : Option PV := match q, i with
  | .lst _ xs, .int k => (ixN xs.length k).map fun j => .lst true (xs.set j v)
  | .dK _ kvs, k => if kvs.length < big then (keyK k).map fun k => .dK true (putF kvs k v) else none
  | .dT _ kvs, k => if kvs.length < big then (keyT k).map fun k => .dT true (putF kvs k v) else none
  | _, _ => none
def appP (q v : PV) : Option PV := match q with
  | .lst _ xs => if xs.length < big then some (.lst true (xs ++ [v])) else none
  | _ => none
def extP (q v : PV) : Option PV := match q, v with
  | .lst _ xs, .lst _ ys => if xs.length + ys.length ≤ big then some (.lst true (xs ++ ys)) else none
  | _, _ => none
def varOf : Ex → Option Nat
  | .var i => some i
  | _ => none
def lstOf : PV → Option (List PV)
  | .lst _ ps => some ps
  | _ => none
def tupOf (n : Nat) : PV → Option (List PV)
  | .tup ps => if ps.length = n then some ps else none
  | _ => none
mutual
def evS (F : Nat → List PV → SS → Rs PV) (W : Nat) : Sx → Env' → SS → Rs Fl
  | .set i e, ρ, S => (evE F e (share (esc e) ρ) S).bind fun p S1 => .ok (.nxt (setSl (share (esc e) ρ) i e p)) S1
  | .par i j a b, ρ, S => (evE F a (share (esc a ++ esc b) ρ) S).bind fun p S1 => (evE F b (share (esc a ++ esc b) ρ) S1).bind fun q S2 => if i = j then .no else .ok (.nxt (setSl (setSl (share (esc a ++ esc b) ρ) i a p) j b q)) S2
  | .par3 i j k a b c, ρ, S => (evE F a (share (esc a ++ esc b ++ esc c) ρ) S).bind fun p S1 => (evE F b (share (esc a ++ esc b ++ esc c) ρ) S1).bind fun q S2 => (evE F c (share (esc a ++ esc b ++ esc c) ρ) S2).bind fun r S3 => if i = j ∨ i = k ∨ j = k then .no else .ok (.nxt (setSl (setSl (setSl (share (esc a ++ esc b ++ esc c) ρ) i a p) j b q) k c r)) S3
  | .asg is e, ρ, S => (evE F e (share (esc e) ρ) S).bind fun p S1 => (ofO (tupOf is.length p) S1).bind fun ps S1 => .ok (.nxt (setAll is ps (share (esc e) ρ))) S1
  | .put o i v, ρ, S => (ofO (varOf o) S).bind fun k S => (ofO (lookO (share (esc v ++ esc i) ρ) k) S).bind fun q S => (evE F v (share (esc v ++ esc i) ρ) S).bind fun p S1 => (evE F i (share (esc v ++ esc i) ρ) S1).bind fun x S2 => (ofO (putIx q x p) S2).bind fun q' S2 => .ok (.nxt ((share (esc v ++ esc i) ρ).set k (some ⟨true, q'⟩))) S2
  | .app o v, ρ, S => (ofO (varOf o) S).bind fun k S => (ofO ((lookO (share (esc v) ρ) k).bind lstOf) S).bind fun q S => (evE F v (share (esc v) ρ) S).bind fun p S1 => (ofO (appP (.lst true q) p) S1).bind fun q' S1 => .ok (.nxt ((share (esc v) ρ).set k (some ⟨true, q'⟩))) S1
  | .ext o v, ρ, S => (ofO (varOf o) S).bind fun k S => (ofO ((lookO (share (esc v) ρ) k).bind lstOf) S).bind fun q S => (evE F v (share (esc v) ρ) S).bind fun p S1 => (ofO (extP (.lst true q) p) S1).bind fun q' S1 => .ok (.nxt ((share (esc v) ρ).set k (some ⟨true, q'⟩))) S1
  | .ite c a b, ρ, S => (evE F c (share (esc c) ρ) S).bind fun x S1 => (ofO (blOf x) S1).bind fun t S1 => if t then evSs F W a (share (esc c) ρ) S1 else evSs F W b (share (esc c) ρ) S1
  | .for tg it b, ρ, S => (evI F it (share (escF it) ρ) S).bind fun items S1 => forL (fun p ρ S => (ofO (bindTg tg p ρ) S).bind fun ρ2 S => evSs F W b ρ2 S) items (share (escF it) ρ) S1
  | .while c b, ρ, S => whL (fun ρ S => (evE F c ρ S).bind fun x S1 => ofO (blOf x) S1) (fun ρ S => evSs F W b ρ S) W ρ S
  | .ret e, ρ, S => (evE F e (share (esc e) ρ) S).bind fun p S1 => .ok (.ret p) S1
  | .retN, _, S => .ok (.ret .non) S
  | .drop e, ρ, S => (evE F e (share (esc e) ρ) S).bind fun _ S1 => .ok (.nxt (share (esc e) ρ)) S1
  | .pass, ρ, S => .ok (.nxt ρ) S
  | .never, _, _ => .no
def evSs (F : Nat → List PV → SS → Rs PV) (W : Nat) : Sxs → Env' → SS → Rs Fl
  | .nil, ρ, S => .ok (.nxt ρ) S
  | .cons s r, ρ, S => (evS F W s ρ S).bind fun fl S1 => match fl with
    | .nxt ρ1 => evSs F W r ρ1 S1
    | .ret q => .ok (.ret q) S1
end
end Bb

set_option maxRecDepth 100000
set_option maxHeartbeats 4000000
/-! What a value of the heap stands for, and how the heap may grow. -/
namespace Bb
open L2 PyProof.Rows PySem.Spec PySem

structure Zn where
  st : Option (Addr × Addr)
  old : Addr → Prop
def Sub (H H' : Hp) : Prop := ∀ a o, H a = some o → H' a = some o
def InZ (Z : Zn) (a : Addr) : Prop := ∃ p, Z.st = some p ∧ (a = p.1 ∨ a = p.2)
mutual
inductive Den (Z : Zn) (H : Hp) : V → PV → Prop where
  | non : Den Z H .non .non
  | bl (b : Bool) : Den Z H (.bl b) (.bl b)
  | int (i : Int) : Den Z H (.int i) (.int i)
  | str (s : Str) : Den Z H (.str s) (.str s)
  | ty (n : Kd) : Den Z H (.ty n.name) (.ty n)
  | lst {c : Bool} {a : Addr} {xs : List V} {ps : List PV} : H a = some (.lst xs) → (c = true ↔ ¬ Z.old a) → DenAll Z H xs ps → Den Z H (.ref a) (.lst c ps)
  | tup {a : Addr} {xs : List V} {ps : List PV} : H a = some (.tup xs) → DenAll Z H xs ps → Den Z H (.ref a) (.tup ps)
  | dK {c : Bool} {a : Addr} {xs : List (Key × V)} {ps : List (Key × PV)} : H a = some (.dK xs) → (c = true ↔ ¬ Z.old a) → DenK Z H xs ps → Den Z H (.ref a) (.dK c ps)
  | dT {c : Bool} {a : Addr} {xs : List (List Key × V)} {ps : List (List Key × PV)} : H a = some (.dT xs) → (c = true ↔ ¬ Z.old a) → DenT Z H xs ps → Den Z H (.ref a) (.dT c ps)
  | strm {a b : Addr} : Z.st = some (a, b) → Den Z H (.ref a) .strm
inductive DenAll (Z : Zn) (H : Hp) : List V → List PV → Prop where
  | nil : DenAll Z H [] []
  | cons {v : V} {p : PV} {vs : List V} {ps : List PV} : Den Z H v p → DenAll Z H vs ps → DenAll Z H (v :: vs) (p :: ps)
inductive DenK (Z : Zn) (H : Hp) : List (Key × V) → List (Key × PV) → Prop where
  | nil : DenK Z H [] []
  | cons {k : Key} {v : V} {p : PV} {vs : List (Key × V)} {ps : List (Key × PV)} : Den Z H v p → DenK Z H vs ps → DenK Z H ((k, v) :: vs) ((k, p) :: ps)
inductive DenT (Z : Zn) (H : Hp) : List (List Key × V) → List (List Key × PV) → Prop where
  | nil : DenT Z H [] []
  | cons {k : List Key} {v : V} {p : PV} {vs : List (List Key × V)} {ps : List (List Key × PV)} : Den Z H v p → DenT Z H vs ps → DenT Z H ((k, v) :: vs) ((k, p) :: ps)
end
mutual
theorem Den.mono {Z : Zn} {H H' : Hp} (s : Sub H H') : ∀ {v : V} {p : PV}, Den Z H v p → Den Z H' v p
  | _, _, .non => .non
  | _, _, .bl b => .bl b
  | _, _, .int i => .int i
  | _, _, .str x => .str x
  | _, _, .ty n => .ty n
  | _, _, .lst e c d => .lst (s _ _ e) c (DenAll.mono s d)
  | _, _, .tup e d => .tup (s _ _ e) (DenAll.mono s d)
  | _, _, .dK e c d => .dK (s _ _ e) c (DenK.mono s d)
  | _, _, .dT e c d => .dT (s _ _ e) c (DenT.mono s d)
  | _, _, .strm e => .strm e
theorem DenAll.mono {Z : Zn} {H H' : Hp} (s : Sub H H') : ∀ {v : List V} {p : List PV}, DenAll Z H v p → DenAll Z H' v p
  | _, _, .nil => .nil
  | _, _, .cons d ds => .cons (Den.mono s d) (DenAll.mono s ds)
theorem DenK.mono {Z : Zn} {H H' : Hp} (s : Sub H H') : ∀ {v : List (Key × V)} {p : List (Key × PV)}, DenK Z H v p → DenK Z H' v p
  | _, _, .nil => .nil
  | _, _, .cons d ds => .cons (Den.mono s d) (DenK.mono s ds)
theorem DenT.mono {Z : Zn} {H H' : Hp} (s : Sub H H') : ∀ {v : List (List Key × V)} {p : List (List Key × PV)}, DenT Z H v p → DenT Z H' v p
  | _, _, .nil => .nil
  | _, _, .cons d ds => .cons (Den.mono s d) (DenT.mono s ds)
end
theorem DenAll.length {Z : Zn} {H : Hp} : ∀ {vs : List V} {ps : List PV}, DenAll Z H vs ps → vs.length = ps.length
  | _, _, .nil => rfl
  | _, _, .cons _ t => congrArg (· + 1) (DenAll.length t)
theorem DenAll.get {Z : Zn} {H : Hp} : ∀ {vs : List V} {ps : List PV}, DenAll Z H vs ps → ∀ {i : Nat} {p : PV}, ps[i]? = some p → ∃ v, vs[i]? = some v ∧ Den Z H v p
  | _, _, .nil, i, p, h => by simp at h
  | _, _, .cons (v := v) d t, 0, p, h => by
    simp only [List.getElem?_cons_zero, Option.some.injEq] at h
    subst h
    exact ⟨v, rfl, d⟩
  | _, _, .cons d t, i + 1, p, h => by
    simp only [List.getElem?_cons_succ] at h ⊢
    exact DenAll.get t h
theorem DenAll.get' {Z : Zn} {H : Hp} : ∀ {vs : List V} {ps : List PV}, DenAll Z H vs ps → ∀ {i : Nat} {v : V}, vs[i]? = some v → ∃ p, ps[i]? = some p ∧ Den Z H v p
  | _, _, .nil, i, p, h => by simp at h
  | _, _, .cons (p := p) d t, 0, v, h => by
    simp only [List.getElem?_cons_zero, Option.some.injEq] at h
    subst h
    exact ⟨p, rfl, d⟩
  | _, _, .cons d t, i + 1, p, h => by
    simp only [List.getElem?_cons_succ] at h ⊢
    exact DenAll.get' t h
theorem DenAll.append {Z : Zn} {H : Hp} : ∀ {vs ws : List V} {ps qs : List PV}, DenAll Z H vs ps → DenAll Z H ws qs → DenAll Z H (vs ++ ws) (ps ++ qs)
  | _, _, _, _, .nil, e => e
  | _, _, _, _, .cons d t, e => .cons d (DenAll.append t e)
theorem DenAll.drop {Z : Zn} {H : Hp} : ∀ {vs : List V} {ps : List PV} (n : Nat), DenAll Z H vs ps → DenAll Z H (vs.drop n) (ps.drop n)
  | _, _, 0, d => d
  | _, _, _ + 1, .nil => .nil
  | _, _, n + 1, .cons _ t => DenAll.drop n t
theorem DenAll.take {Z : Zn} {H : Hp} : ∀ {vs : List V} {ps : List PV} (n : Nat), DenAll Z H vs ps → DenAll Z H (vs.take n) (ps.take n)
  | _, _, 0, _ => .nil
  | _, _, _ + 1, .nil => .nil
  | _, _, n + 1, .cons d t => .cons d (DenAll.take n t)
theorem DenAll.set {Z : Zn} {H : Hp} {v : V} {p : PV} (d : Den Z H v p) : ∀ {vs : List V} {ps : List PV} (n : Nat), DenAll Z H vs ps → DenAll Z H (vs.set n v) (ps.set n p)
  | _, _, _, .nil => .nil
  | _, _, 0, .cons _ t => .cons d t
  | _, _, n + 1, .cons e t => .cons e (DenAll.set d n t)
theorem DenAll.rep {Z : Zn} {H : Hp} {vs : List V} {ps : List PV} (d : DenAll Z H vs ps) : ∀ k : Nat, DenAll Z H (List.replicate k vs).flatten (List.replicate k ps).flatten
  | 0 => .nil
  | k + 1 => by
    rw [List.replicate_succ, List.replicate_succ, List.flatten_cons, List.flatten_cons]
    exact d.append (DenAll.rep d k)
theorem DenAll.paired {Z : Zn} {H : Hp} : ∀ {vs : List V} {ps : List PV}, vs.length = ps.length → (∀ z ∈ vs.zip ps, Den Z H z.1 z.2) → DenAll Z H vs ps
  | [], [], _, _ => .nil
  | [], _ :: _, h, _ => by simp at h
  | _ :: _, [], h, _ => by simp at h
  | v :: vs, p :: ps, h, f => .cons (f (v, p) (by simp)) (DenAll.paired (by simpa using h) fun z hz => f z (by simp [hz]))
theorem DenAll.zip {Z : Zn} {H : Hp} : ∀ {vs : List V} {ps : List PV}, DenAll Z H vs ps → ∀ z ∈ vs.zip ps, Den Z H z.1 z.2
  | _, _, .nil, z, hz => by simp at hz
  | _, _, .cons d t, z, hz => by
    rw [List.zip_cons_cons, List.mem_cons] at hz
    rcases hz with rfl | hz
    · exact d
    · exact DenAll.zip t z hz
/-! ### as data -/
mutual
theorem Den.dp {Z : Zn} {K : PySem.W.Frag} {Hf H : Hp} (s : Sub Hf H) : ∀ {v : V} {p : PV} {d : PyData}, Den Z Hf v p → toD p = some d → Dp K H v d
  | _, _, _, .non, e => by simp only [toD, Option.some.injEq] at e; subst e; exact .non
  | _, _, _, .bl b, e => by simp only [toD, Option.some.injEq] at e; subst e; exact .bl b
  | _, _, _, .int b, e => by simp only [toD, Option.some.injEq] at e; subst e; exact .int b
  | _, _, _, .str b, e => by simp only [toD, Option.some.injEq] at e; subst e; exact .str b
  | _, _, _, .ty b, e => by simp [toD] at e
  | _, _, _, .lst h _ a, e => by
    simp only [toD] at e
    obtain ⟨ds, e1, e2⟩ := Option.map_eq_some_iff.mp e
    subst e2
    exact .lst (.inl (.inl (s _ _ h))) (DenAll.dp s a e1)
  | _, _, _, .tup h a, e => by
    simp only [toD] at e
    obtain ⟨ds, e1, e2⟩ := Option.map_eq_some_iff.mp e
    subst e2
    exact .tup (.inl (.inl (s _ _ h))) (DenAll.dp s a e1)
  | _, _, _, .dK _ _ _, e => by simp [toD] at e
  | _, _, _, .dT _ _ _, e => by simp [toD] at e
  | _, _, _, .strm _, e => by simp [toD] at e
theorem DenAll.dp {Z : Zn} {K : PySem.W.Frag} {Hf H : Hp} (s : Sub Hf H) : ∀ {v : List V} {p : List PV} {d : List PyData}, DenAll Z Hf v p → toDs p = some d → DpAll K H v d
  | _, _, _, .nil, e => by simp only [toDs, Option.some.injEq] at e; subst e; exact .nil
  | _, _, _, .cons h a, e => by
    simp only [toDs] at e
    obtain ⟨d, e1, e2⟩ := Option.bind_eq_some_iff.mp e
    obtain ⟨ds, e3, e4⟩ := Option.map_eq_some_iff.mp e2
    subst e4
    exact .cons (Den.dp s h e1) (DenAll.dp s a e3)
end
/-! ### growth -/
structure Ext (Z : Zn) (H Hf H' Hf' : Hp) : Prop where
  old : ∀ a o, H a = some o → ¬ InZ Z a → H' a = some o
  dom : ∀ a o, H a = some o → ∃ o', H' a = some o'
  fz : Sub Hf Hf'
  sub : Sub Hf' H'
  new : ∀ a o, Hf' a = some o → Hf a = none → H a = none
theorem none_of {H : Hp} {a : Addr} (h : ∀ o, H a ≠ some o) : H a = none := by
  cases e : H a with
  | none => rfl
  | some o => exact absurd e (h o)
theorem Sub.none {H H' : Hp} (s : Sub H H') {a : Addr} (h : H' a = none) : H a = none := none_of fun o e => by rw [s a o e] at h; cases h
theorem Ext.refl {Z : Zn} {H Hf : Hp} (s : Sub Hf H) : Ext Z H Hf H Hf := ⟨fun _ _ h _ => h, fun _ o h => ⟨o, h⟩, fun _ _ h => h, s, fun a o h n => by rw [n] at h; cases h⟩
theorem Ext.back {Z : Zn} {H Hf H' Hf' : Hp} (e : Ext Z H Hf H' Hf') {a : Addr} (h : H' a = none) : H a = none := none_of fun o q => by
  obtain ⟨o', q'⟩ := e.dom a o q
  rw [q'] at h
  cases h
theorem Ext.trans {Z : Zn} {H Hf H1 Hf1 H2 Hf2 : Hp} (x : Ext Z H Hf H1 Hf1) (y : Ext Z H1 Hf1 H2 Hf2) : Ext Z H Hf H2 Hf2 where
  old := fun a o h n => y.old a o (x.old a o h n) n
  dom := fun a o h => by
    obtain ⟨o1, h1⟩ := x.dom a o h
    exact y.dom a o1 h1
  fz := fun a o h => y.fz a o (x.fz a o h)
  sub := y.sub
  new := fun a o h n => by
    cases e : Hf1 a with
    | none => exact x.back (y.new a o h e)
    | some o1 => exact x.new a o1 e n
structure StAt (Z : Zn) (H Hf : Hp) (S : SS) : Prop where
  all : ∀ a, Z.old a → ∃ o, H a = some o
  str : ∀ p, Z.st = some p → H p.1 = some (.lst [.ref p.2, .int S.cell, .int S.count, .int S.hash]) ∧ H p.2 = some (.lst (S.script.map .int)) ∧ Hf p.1 = none ∧ Hf p.2 = none ∧ p.1 ≠ p.2
theorem StAt.nz {Z : Zn} {H Hf : Hp} {S : SS} (st : StAt Z H Hf S) {a : Addr} (h : H a = none) : ¬ InZ Z a := fun ⟨p, e, q⟩ => by
  obtain ⟨h1, h2, _⟩ := st.str p e
  rcases q with rfl | rfl
  · rw [h1] at h
    cases h
  · rw [h2] at h
    cases h
theorem Ext.new' {Z : Zn} {H Hf : Hp} {p : Addr} {o : HO} (s : Sub Hf H) (hp : H p = none) : Ext Z H Hf (upd H p o) Hf := by
  have k : Sub H (upd H p o) := fun a u h => by rw [upd_ne (ne_of_none h hp)]; exact h
  exact ⟨fun a u h _ => k a u h, fun a u h => ⟨u, k a u h⟩, fun _ _ h => h, fun a u h => k a u (s a u h), fun a u h n => by rw [n] at h; cases h⟩
theorem Ext.newF {Z : Zn} {H Hf : Hp} {p : Addr} {o : HO} (s : Sub Hf H) (hp : H p = none) : Ext Z H Hf (upd H p o) (upd Hf p o) := by
  have hf : Hf p = none := s.none hp
  have k : ∀ {G : Hp}, G p = none → Sub G (upd G p o) := fun {G} hg a u h => by rw [upd_ne (ne_of_none h hg)]; exact h
  refine ⟨fun a u h _ => k hp a u h, fun a u h => ⟨u, k hp a u h⟩, k hf, fun a u h => ?_, fun a u h n => ?_⟩
  · by_cases e : a = p
    · subst e
      rw [upd_same] at h ⊢
      exact h
    · rw [upd_ne e] at h ⊢
      exact s a u h
  · by_cases e : a = p
    · subst e
      exact hp
    · rw [upd_ne e, n] at h
      cases h
theorem StAt.no {Z : Zn} {H Hf : Hp} {S : SS} (st : StAt Z H Hf S) {a : Addr} (h : H a = none) : ¬ Z.old a := fun q => by
  obtain ⟨o, e⟩ := st.all a q
  rw [h] at e
  cases e
theorem old_upd {H : Hp} {a p : Addr} {o : HO} (h : ∃ u, H a = some u) : ∃ u, upd H p o a = some u := by
  by_cases e : a = p
  · subst e
    exact ⟨o, upd_same⟩
  · rw [upd_ne e]
    exact h
theorem StAt.new' {Z : Zn} {H Hf : Hp} {S : SS} {p : Addr} {o : HO} (st : StAt Z H Hf S) (hp : H p = none) : StAt Z (upd H p o) Hf S := ⟨fun a q => old_upd (st.all a q), fun q e => by
  obtain ⟨h1, h2, h3, h4, h5⟩ := st.str q e
  exact ⟨by rw [upd_ne (ne_of_none h1 hp)]; exact h1, by rw [upd_ne (ne_of_none h2 hp)]; exact h2, h3, h4, h5⟩⟩
theorem StAt.newF {Z : Zn} {H Hf : Hp} {S : SS} {p : Addr} {o : HO} (st : StAt Z H Hf S) (hp : H p = none) : StAt Z (upd H p o) (upd Hf p o) S := ⟨fun a q => old_upd (st.all a q), fun q e => by
  obtain ⟨h1, h2, h3, h4, h5⟩ := st.str q e
  exact ⟨by rw [upd_ne (ne_of_none h1 hp)]; exact h1, by rw [upd_ne (ne_of_none h2 hp)]; exact h2, by rw [upd_ne (ne_of_none h1 hp)]; exact h3, by rw [upd_ne (ne_of_none h2 hp)]; exact h4, h5⟩⟩
/-! ### owned and borrowed -/
def OwnAt (Z : Zn) (H Hf : Hp) (a : Addr) : PV → Prop
  | .lst c ps => ∃ xs, H a = some (.lst xs) ∧ (c = true ∧ ¬ Z.old a) ∧ DenAll Z Hf xs ps
  | .dK c ps => ∃ xs, H a = some (.dK xs) ∧ (c = true ∧ ¬ Z.old a) ∧ DenK Z Hf xs ps
  | .dT c ps => ∃ xs, H a = some (.dT xs) ∧ (c = true ∧ ¬ Z.old a) ∧ DenT Z Hf xs ps
  | _ => False
theorem OwnAt.step {Z : Zn} {H Hf H' Hf' : Hp} {a : Addr} {p : PV} (x : OwnAt Z H Hf a p) (n : ¬ InZ Z a) (e : Ext Z H Hf H' Hf') : OwnAt Z H' Hf' a p := by
  cases p with
  | lst c ps => obtain ⟨xs, h, o, d⟩ := x; exact ⟨xs, e.old _ _ h n, o, d.mono e.fz⟩
  | dK c ps => obtain ⟨xs, h, o, d⟩ := x; exact ⟨xs, e.old _ _ h n, o, d.mono e.fz⟩
  | dT c ps => obtain ⟨xs, h, o, d⟩ := x; exact ⟨xs, e.old _ _ h n, o, d.mono e.fz⟩
  | _ => exact x.elim
theorem OwnAt.mutb {Z : Zn} {H Hf : Hp} {a : Addr} {p : PV} (x : OwnAt Z H Hf a p) : mutb p = true := by
  cases p <;> first | rfl | exact x.elim
theorem OwnAt.there {Z : Zn} {H Hf : Hp} {a : Addr} {p : PV} (x : OwnAt Z H Hf a p) : ∃ o, H a = some o := by
  cases p with
  | lst c ps => obtain ⟨xs, h, d⟩ := x; exact ⟨_, h⟩
  | dK c ps => obtain ⟨xs, h, d⟩ := x; exact ⟨_, h⟩
  | dT c ps => obtain ⟨xs, h, d⟩ := x; exact ⟨_, h⟩
  | _ => exact x.elim
/-- what is owned, frozen -/
theorem OwnAt.den {Z : Zn} {H Hf : Hp} {a : Addr} {p : PV} {o : HO} (x : OwnAt Z H Hf a p) (ho : H a = some o) (hn : Hf a = none) : Den Z (upd Hf a o) (.ref a) p := by
  have s : Sub Hf (upd Hf a o) := fun b u h => by rw [upd_ne (ne_of_none h hn)]; exact h
  cases p with
  | lst c ps => obtain ⟨xs, h, q, d⟩ := x; rw [ho] at h; cases h; exact .lst upd_same ⟨fun _ => q.2, fun _ => q.1⟩ (d.mono s)
  | dK c ps => obtain ⟨xs, h, q, d⟩ := x; rw [ho] at h; cases h; exact .dK upd_same ⟨fun _ => q.2, fun _ => q.1⟩ (d.mono s)
  | dT c ps => obtain ⟨xs, h, q, d⟩ := x; rw [ho] at h; cases h; exact .dT upd_same ⟨fun _ => q.2, fun _ => q.1⟩ (d.mono s)
  | _ => exact x.elim
def DenB (Z : Zn) (H Hf : Hp) (v : V) (p : PV) : Prop := Den Z Hf v p ∨ ∃ a, v = .ref a ∧ ¬ InZ Z a ∧ OwnAt Z H Hf a p
theorem DenB.step {Z : Zn} {H Hf H' Hf' : Hp} {v : V} {p : PV} (x : DenB Z H Hf v p) (e : Ext Z H Hf H' Hf') : DenB Z H' Hf' v p := by
  rcases x with x | ⟨a, h, n, o⟩
  · exact .inl (x.mono e.fz)
  · exact .inr ⟨a, h, n, o.step n e⟩
theorem DenB.lst {Z : Zn} {H Hf : Hp} {v : V} {ps : List PV} {c : Bool} (x : DenB Z H Hf v (.lst c ps)) (s : Sub Hf H) : ∃ a xs, v = .ref a ∧ H a = some (.lst xs) ∧ DenAll Z Hf xs ps := by
  rcases x with x | ⟨a, h, n, xs, o, d⟩
  · cases x with
    | lst h _ d => exact ⟨_, _, rfl, s _ _ h, d⟩
  · exact ⟨a, xs, h, o, d.2⟩
theorem DenB.dK {Z : Zn} {H Hf : Hp} {v : V} {ps : List (Key × PV)} {c : Bool} (x : DenB Z H Hf v (.dK c ps)) (s : Sub Hf H) : ∃ a xs, v = .ref a ∧ H a = some (.dK xs) ∧ DenK Z Hf xs ps := by
  rcases x with x | ⟨a, h, n, xs, o, d⟩
  · cases x with
    | dK h _ d => exact ⟨_, _, rfl, s _ _ h, d⟩
  · exact ⟨a, xs, h, o, d.2⟩
theorem DenB.dT {Z : Zn} {H Hf : Hp} {v : V} {ps : List (List Key × PV)} {c : Bool} (x : DenB Z H Hf v (.dT c ps)) (s : Sub Hf H) : ∃ a xs, v = .ref a ∧ H a = some (.dT xs) ∧ DenT Z Hf xs ps := by
  rcases x with x | ⟨a, h, n, xs, o, d⟩
  · cases x with
    | dT h _ d => exact ⟨_, _, rfl, s _ _ h, d⟩
  · exact ⟨a, xs, h, o, d.2⟩
theorem DenB.den {Z : Zn} {H Hf : Hp} {v : V} {p : PV} (x : DenB Z H Hf v p) (m : mutb p = false) : Den Z Hf v p := by
  rcases x with x | ⟨a, h, n, o⟩
  · exact x
  · rw [o.mutb] at m
    cases m
theorem Den.tupI {Z : Zn} {Hf : Hp} {v : V} {ps : List PV} (x : Den Z Hf v (.tup ps)) : ∃ a xs, v = .ref a ∧ Hf a = some (.tup xs) ∧ DenAll Z Hf xs ps := by
  cases x with
  | tup h d => exact ⟨_, _, rfl, h, d⟩
theorem DenB.tup {Z : Zn} {H Hf : Hp} {v : V} {ps : List PV} (x : DenB Z H Hf v (.tup ps)) : ∃ a xs, v = .ref a ∧ Hf a = some (.tup xs) ∧ DenAll Z Hf xs ps := (x.den rfl).tupI
theorem DenB.int {Z : Zn} {H Hf : Hp} {v : V} {i : Int} (x : DenB Z H Hf v (.int i)) : v = .int i := by
  have y := x.den rfl
  cases y
  rfl
theorem DenB.bl {Z : Zn} {H Hf : Hp} {v : V} {i : Bool} (x : DenB Z H Hf v (.bl i)) : v = .bl i := by
  have y := x.den rfl
  cases y
  rfl
theorem DenB.str {Z : Zn} {H Hf : Hp} {v : V} {i : Str} (x : DenB Z H Hf v (.str i)) : v = .str i := by
  have y := x.den rfl
  cases y
  rfl
theorem DenB.ty {Z : Zn} {H Hf : Hp} {v : V} {i : Kd} (x : DenB Z H Hf v (.ty i)) : v = .ty i.name := by
  have y := x.den rfl
  cases y
  rfl
theorem DenB.dp {Z : Zn} {K : PySem.W.Frag} {H Hf : Hp} {v : V} {p : PV} {d : PyData} (x : DenB Z H Hf v p) (s : Sub Hf H) (e : toD p = some d) : Dp K H v d := by
  rcases x with x | ⟨a, h, n, o⟩
  · exact x.dp s e
  · subst h
    cases p with
    | lst c ps =>
      obtain ⟨xs, h, _, dd⟩ := o
      simp only [toD] at e
      obtain ⟨ds, e1, e2⟩ := Option.map_eq_some_iff.mp e
      subst e2
      exact .lst (.inl (.inl h)) (dd.dp s e1)
    | dK c ps => simp [toD] at e
    | dT c ps => simp [toD] at e
    | _ => exact o.elim
/-! ### results that are owned where they may change -/
def SDen (Z : Zn) (H H' Hf' : Hp) (v : V) (p : PV) : Prop := if mutb p = true then ∃ a, v = .ref a ∧ H a = none ∧ Hf' a = none ∧ ¬ InZ Z a ∧ OwnAt Z H' Hf' a p else Den Z Hf' v p
/-! ### the slots -/
def SlotOk (Z : Zn) (H0 H Hf : Hp) (s : Sl) (x : Option (Option V)) : Prop := ∃ v, x = some (some v) ∧ (if s.own = true then ∃ a, v = .ref a ∧ H0 a = none ∧ Hf a = none ∧ ¬ InZ Z a ∧ OwnAt Z H Hf a s.p else Den Z Hf v s.p)
structure Rel (Z : Zn) (H0 Hf0 : Hp) (ρ : Env') (S : SS) (σ : L2.St) (H Hf : Hp) : Prop where
  ext : Ext Z H0 Hf0 H Hf
  st : StAt Z H Hf S
  len : σ.length = ρ.length
  sl : ∀ (i : Nat) (s : Sl), ρ[i]? = some (some s) → SlotOk Z H0 H Hf s σ[i]?
  apart : ∀ (i j : Nat) (p q : PV) (a : Addr), i ≠ j → ρ[i]? = some (some ⟨true, p⟩) → ρ[j]? = some (some ⟨true, q⟩) → σ[i]? = some (some (.ref a)) → σ[j]? ≠ some (some (.ref a))
theorem Rel.sub {Z : Zn} {H0 Hf0 : Hp} {ρ : Env'} {S : SS} {σ : L2.St} {H Hf : Hp} (R : Rel Z H0 Hf0 ρ S σ H Hf) : Sub Hf H := R.ext.sub
theorem Rel.step {Z : Zn} {H0 Hf0 : Hp} {ρ : Env'} {S S' : SS} {σ : L2.St} {H Hf H' Hf' : Hp} (R : Rel Z H0 Hf0 ρ S σ H Hf) (e : Ext Z H Hf H' Hf') (st : StAt Z H' Hf' S') : Rel Z H0 Hf0 ρ S' σ H' Hf' where
  ext := R.ext.trans e
  st := st
  len := R.len
  sl := fun i s h => by
    obtain ⟨v, h1, h2⟩ := R.sl i s h
    refine ⟨v, h1, ?_⟩
    by_cases ho : s.own = true
    · rw [if_pos ho] at h2 ⊢
      obtain ⟨a, e1, e2, e3, e4, e5⟩ := h2
      refine ⟨a, e1, e2, ?_, e4, e5.step e4 e⟩
      obtain ⟨o, q⟩ := e5.there
      exact none_of fun o' z => by
        have := e.new a o' z e3
        rw [q] at this
        cases this
    · rw [if_neg ho] at h2 ⊢
      exact h2.mono e.fz
  apart := R.apart
theorem Rel.look {Z : Zn} {H0 Hf0 : Hp} {ρ : Env'} {S : SS} {σ : L2.St} {H Hf : Hp} (R : Rel Z H0 Hf0 ρ S σ H Hf) {i : Nat} {p : PV} (h : look ρ i = some p) : ∃ v, σ[i]? = some (some v) ∧ DenB Z H Hf v p := by
  unfold Bb.look at h
  split at h
  · rename_i s e
    cases h
    obtain ⟨v, h1, h2⟩ := R.sl i s e
    refine ⟨v, h1, ?_⟩
    by_cases ho : s.own = true
    · rw [if_pos ho] at h2
      obtain ⟨a, e1, e2, e3, e4, e5⟩ := h2
      exact .inr ⟨a, e1, e4, e5⟩
    · rw [if_neg ho] at h2
      exact .inl h2
  · cases h
theorem Rel.lookS {Z : Zn} {H0 Hf0 : Hp} {ρ : Env'} {S : SS} {σ : L2.St} {H Hf : Hp} (R : Rel Z H0 Hf0 ρ S σ H Hf) {i : Nat} {p : PV} (h : lookS ρ i = some p) : ∃ v, σ[i]? = some (some v) ∧ Den Z Hf v p := by
  unfold Bb.lookS at h
  split at h
  · rename_i q e
    cases h
    obtain ⟨v, h1, h2⟩ := R.sl i _ e
    rw [if_neg (by simp)] at h2
    exact ⟨v, h1, h2⟩
  · cases h
end Bb

set_option maxRecDepth 100000
set_option maxHeartbeats 4000000
/-! What the pure evaluator gives is what the readings ask: values. -/
namespace Bb
open L2 PyProof.Rows PySem.Spec PySem

def Gd (C : RC) (Z : Zn) (H Hf : Hp) (E : XK) {α : Type} (r : Rs α) (K : α → SS → Prop) : Prop := match r with
  | .no => False
  | .ok a S => K a S
  | .ex c p S => ∀ H' Hf' d v, Ext Z H Hf H' Hf' → StAt Z H' Hf' S → H d = none → Hf' d = none → H' d = some (.xd [(C.xf c, v)]) → Den Z Hf' v p → E (.ref (C.xa c)) (some d) H'
def KE (Z : Zn) (H Hf : Hp) (Q : VK) : PV → SS → Prop := fun p S => ∀ v H' Hf', Ext Z H Hf H' Hf' → StAt Z H' Hf' S → Den Z Hf' v p → Q v H'
def KB (Z : Zn) (H Hf : Hp) (Q : VK) : PV → SS → Prop := fun p S => ∀ v H' Hf', Ext Z H Hf H' Hf' → StAt Z H' Hf' S → DenB Z H' Hf' v p → Q v H'
def KS (Z : Zn) (H Hf : Hp) (Q : VK) : PV → SS → Prop := fun p S => ∀ v H' Hf', Ext Z H Hf H' Hf' → StAt Z H' Hf' S → SDen Z H H' Hf' v p → Q v H'
def KA (Z : Zn) (H Hf : Hp) (Q : List V → Hp → Prop) : List PV → SS → Prop := fun p S => ∀ v H' Hf', Ext Z H Hf H' Hf' → StAt Z H' Hf' S → DenAll Z Hf' v p → Q v H'
def KBs (Z : Zn) (H Hf : Hp) (Q : List V → Hp → Prop) : List PV → SS → Prop := fun p S => ∀ v H' Hf', Ext Z H Hf H' Hf' → StAt Z H' Hf' S → Paired (DenB Z H' Hf') v p → Q v H'
section
variable {C : RC} {Z : Zn} {H Hf H1 Hf1 : Hp} {E : XK} {α β : Type}
theorem Gd.mono {r : Rs α} {K K' : α → SS → Prop} (g : Gd C Z H Hf E r K) (h : ∀ a S, K a S → K' a S) : Gd C Z H Hf E r K' := by
  cases r with
  | no => exact g
  | ok a S => exact h a S g
  | ex c p S => exact g
theorem Gd.bind {r : Rs α} {f : α → SS → Rs β} {K : β → SS → Prop} (g : Gd C Z H Hf E (r.bind f) K) : Gd C Z H Hf E r (fun a S => Gd C Z H Hf E (f a S) K) := by
  cases r with
  | no => exact g
  | ok a S => exact g
  | ex c p S => exact g
theorem Gd.step {r : Rs α} {K : α → SS → Prop} (g : Gd C Z H Hf E r K) (e : Ext Z H Hf H1 Hf1) : Gd C Z H1 Hf1 E r K := by
  cases r with
  | no => exact g
  | ok a S => exact g
  | ex c p S => exact fun H' Hf' d v e' st n1 n2 h dn => g H' Hf' d v (e.trans e') st (e.back n1) n2 h dn
theorem Gd.ofO {o : Option α} {S : SS} {K : α → SS → Prop} (g : Gd C Z H Hf E (ofO o S) K) : ∃ a, o = some a ∧ K a S := by
  cases o with
  | none => exact g.elim
  | some a => exact ⟨a, rfl, g⟩
theorem Gd.noex {E' : XK} {r : Rs α} {K : α → SS → Prop} (g : Gd C Z H Hf E (noex r) K) : Gd C Z H Hf E' r K := by
  cases r with
  | no => exact g
  | ok a S => exact g
  | ex c p S => exact g.elim
theorem Gd.iff {c : Bool} {r : Rs α} {K : α → SS → Prop} (g : Gd C Z H Hf E (if c = true then r else .no) K) : c = true ∧ Gd C Z H Hf E r K := by
  cases c with
  | true => exact ⟨rfl, g⟩
  | false => exact g.elim
theorem Gd.ifp {c : Prop} [Decidable c] {r : Rs α} {K : α → SS → Prop} (g : Gd C Z H Hf E (if c then r else .no) K) : c ∧ Gd C Z H Hf E r K := by
  by_cases h : c
  · rw [if_pos h] at g
    exact ⟨h, g⟩
  · rw [if_neg h] at g
    exact g.elim
theorem SDen.den {H' Hf' : Hp} {v : V} {p : PV} {S : SS} (d : SDen Z H H' Hf' v p) (e : Ext Z H Hf H' Hf') (st : StAt Z H' Hf' S) : ∃ Hf'', Ext Z H Hf H' Hf'' ∧ StAt Z H' Hf'' S ∧ Den Z Hf'' v p := by
  unfold SDen at d
  by_cases m : mutb p = true
  · rw [if_pos m] at d
    obtain ⟨a, rfl, n1, n2, n3, o⟩ := d
    obtain ⟨ob, ho⟩ := o.there
    refine ⟨upd Hf' a ob, ⟨e.old, e.dom, fun b u h => ?_, fun b u h => ?_, fun b u h n => ?_⟩, ⟨st.all, fun q eq => ?_⟩, o.den ho n2⟩
    · have z := e.fz b u h
      rw [upd_ne (ne_of_none z n2)]
      exact z
    · by_cases hb : b = a
      · subst hb
        rw [upd_same] at h
        rw [ho]
        exact h
      · rw [upd_ne hb] at h
        exact e.sub b u h
    · by_cases hb : b = a
      · subst hb
        exact n1
      · rw [upd_ne hb] at h
        exact e.new b u h n
    · obtain ⟨h1, h2, h3, h4, h5⟩ := st.str q eq
      refine ⟨h1, h2, ?_, ?_, h5⟩
      · rw [upd_ne (fun z => n3 ⟨q, eq, .inl z.symm⟩)]
        exact h3
      · rw [upd_ne (fun z => n3 ⟨q, eq, .inr z.symm⟩)]
        exact h4
  · rw [if_neg m] at d
    exact ⟨Hf', e, st, d⟩
theorem KE.toS {Q : VK} {p : PV} {S : SS} (k : KE Z H Hf Q p S) : KS Z H Hf Q p S := fun v H' Hf' e st d => by
  obtain ⟨Hf'', e', st', d'⟩ := d.den e st
  exact k v H' Hf'' e' st' d'
theorem KE.step {Q : VK} {p : PV} {S : SS} (k : KE Z H Hf Q p S) (e : Ext Z H Hf H1 Hf1) : KE Z H1 Hf1 Q p S := fun v H' Hf' e' st d => k v H' Hf' (e.trans e') st d
theorem KS.step {Q : VK} {p : PV} {S : SS} (k : KS Z H Hf Q p S) (e : Ext Z H Hf H1 Hf1) : KS Z H1 Hf1 Q p S := fun v H' Hf' e' st d => k v H' Hf' (e.trans e') st (by
  unfold SDen at d ⊢
  by_cases m : mutb p = true
  · rw [if_pos m] at d ⊢
    obtain ⟨a, h, n, r⟩ := d
    exact ⟨a, h, e.back n, r⟩
  · rw [if_neg m] at d ⊢
    exact d)
/-- a value that does not change: it is told -/
theorem KS.val {Q : VK} {p : PV} {S : SS} {v : V} (k : KS Z H Hf Q p S) (s : Sub Hf H) (st : StAt Z H Hf S) (m : mutb p = false) (d : Den Z Hf v p) : Q v H :=
  k v H Hf (Ext.refl s) st (by unfold SDen; rw [if_neg (by rw [m]; simp)]; exact d)
theorem KS.newL {Q : VK} {ps : List PV} {S : SS} {xs : List V} (k : KS Z H Hf Q (.lst true ps) S) (s : Sub Hf H) (st : StAt Z H Hf S) (d : DenAll Z Hf xs ps) : ∀ p, H p = none → Q (.ref p) (upd H p (.lst xs)) := fun p hp =>
  k (.ref p) _ Hf (Ext.new' s hp) (st.new' hp) (by unfold SDen; rw [if_pos (show mutb _ = true from rfl)]; exact ⟨p, rfl, hp, s.none hp, st.nz hp, xs, upd_same, ⟨rfl, st.no hp⟩, d⟩)
theorem KS.newK {Q : VK} {ps : List (Key × PV)} {S : SS} {xs : List (Key × V)} (k : KS Z H Hf Q (.dK true ps) S) (s : Sub Hf H) (st : StAt Z H Hf S) (d : DenK Z Hf xs ps) : ∀ p, H p = none → Q (.ref p) (upd H p (.dK xs)) := fun p hp =>
  k (.ref p) _ Hf (Ext.new' s hp) (st.new' hp) (by unfold SDen; rw [if_pos (show mutb _ = true from rfl)]; exact ⟨p, rfl, hp, s.none hp, st.nz hp, xs, upd_same, ⟨rfl, st.no hp⟩, d⟩)
theorem KS.newDT {Q : VK} {ps : List (List Key × PV)} {S : SS} {xs : List (List Key × V)} (k : KS Z H Hf Q (.dT true ps) S) (s : Sub Hf H) (st : StAt Z H Hf S) (d : DenT Z Hf xs ps) : ∀ p, H p = none → Q (.ref p) (upd H p (.dT xs)) := fun p hp =>
  k (.ref p) _ Hf (Ext.new' s hp) (st.new' hp) (by unfold SDen; rw [if_pos (show mutb _ = true from rfl)]; exact ⟨p, rfl, hp, s.none hp, st.nz hp, xs, upd_same, ⟨rfl, st.no hp⟩, d⟩)
theorem sub_upd {G : Hp} {p : Addr} {o : HO} (hg : G p = none) : Sub G (upd G p o) := fun a u h => by rw [upd_ne (ne_of_none h hg)]; exact h
theorem KS.newT {Q : VK} {ps : List PV} {S : SS} {xs : List V} (k : KS Z H Hf Q (.tup ps) S) (s : Sub Hf H) (st : StAt Z H Hf S) (d : DenAll Z Hf xs ps) : ∀ p, H p = none → Q (.ref p) (upd H p (.tup xs)) := fun p hp =>
  k (.ref p) _ (upd Hf p (.tup xs)) (Ext.newF s hp) (st.newF hp) (by unfold SDen; rw [if_neg (by simp [mutb])]; exact .tup upd_same (d.mono (sub_upd (s.none hp))))

/-! ### quick looks into dicts -/
theorem beqL_eq : ∀ a b : List Nat, beqL a b = (a == b)
  | [], [] => rfl
  | [], _ :: _ => rfl
  | _ :: _, [] => rfl
  | x :: xs, y :: ys => by
    show (Nat.beq x y && beqL xs ys) = (x == y && xs == ys)
    rw [beqL_eq xs ys]
    have e : Nat.beq x y = (x == y) := by
      rw [Bool.eq_iff_iff, beq_iff_eq, Nat.beq_eq]
    rw [e]
theorem beqS_eq (a b : Str) : beqS a b = (a == b) := by
  unfold beqS
  rw [beqL_eq, Bool.eq_iff_iff, beq_iff_eq, beq_iff_eq]
  exact ⟨fun h => PySem.W.str_of_cps h, fun h => by rw [h]⟩
theorem beqI_eq (a b : Int) : beqI a b = (a == b) := by
  rw [Bool.eq_iff_iff, beq_iff_eq]
  cases a <;> cases b <;> simp only [beqI, Nat.beq_eq, Int.ofNat.injEq, Int.ofNat_inj, Int.ofNat_eq_natCast, Int.negSucc.injEq, Bool.false_eq_true, reduceCtorEq, false_iff, not_false_eq_true]
  all_goals omega
class KL (κ : Type) [DecidableEq κ] [KQ κ] : Prop where
  law : ∀ a b : κ, KQ.q a b = decide (a = b)
theorem beqK_eq : ∀ a b : Key, beqK a b = decide (a = b)
  | .inl a, .inl b => by
    show beqI a b = _
    rw [beqI_eq, Bool.eq_iff_iff, beq_iff_eq, decide_eq_true_eq, Sum.inl.injEq]
  | .inr a, .inr b => by
    show beqS a b = _
    rw [beqS_eq, Bool.eq_iff_iff, beq_iff_eq, decide_eq_true_eq, Sum.inr.injEq]
  | .inl a, .inr b => (decide_eq_false (by simp)).symm
  | .inr a, .inl b => (decide_eq_false (by simp)).symm
theorem beqT_eq : ∀ a b : List Key, beqT a b = decide (a = b)
  | [], [] => rfl
  | [], _ :: _ => rfl
  | _ :: _, [] => rfl
  | x :: xs, y :: ys => by
    show (beqK x y && beqT xs ys) = _
    rw [beqK_eq, beqT_eq xs ys, Bool.eq_iff_iff, Bool.and_eq_true, decide_eq_true_eq, decide_eq_true_eq, decide_eq_true_eq, List.cons.injEq]
instance : KL Key := ⟨beqK_eq⟩
instance : KL (List Key) := ⟨beqT_eq⟩
section
variable {κ : Type} [DecidableEq κ] [KQ κ] [KL κ]
theorem getF_eq : ∀ (kvs : List (κ × PV)) (k : κ), getF kvs k = getP kvs k
  | [], k => rfl
  | kv :: r, k => by
    unfold getF
    rw [KL.law, getF_eq r k]
    unfold getP
    rw [List.find?_cons]
    by_cases h : kv.1 = k
    · simp [h]
    · simp [h]
theorem overF_eq (k : κ) (v : PV) : ∀ kvs : List (κ × PV), putF.overF kvs k v = kvs.map fun kv => if kv.1 = k then (kv.1, v) else kv
  | [] => rfl
  | kv :: r => by
    unfold putF.overF
    rw [KL.law, overF_eq k v r, List.map_cons]
    by_cases h : kv.1 = k
    · simp [h]
    · simp [h]
theorem putF_eq (k : κ) (v : PV) : ∀ kvs : List (κ × PV), putF kvs k v = putP kvs k v
  | [] => rfl
  | kv :: r => by
    unfold putF
    rw [KL.law, putF_eq k v r, overF_eq]
    unfold putP
    rw [List.any_cons, List.map_cons]
    by_cases h : kv.1 = k
    · simp [h]
    · simp only [h, decide_false, Bool.false_or, if_false, Bool.false_eq_true]
      split
      · rfl
      · rfl
end
/-! ### operators -/
theorem sq_of {K : PySem.W.Frag} {a : Addr} {xs : List V} (h : H a = some (.tup xs)) : SqT K H a xs := .inl (.inl h)
theorem sl_of {K : PySem.W.Frag} {a : Addr} {xs : List V} (h : H a = some (.lst xs)) : SqL K H a xs := .inl (.inl h)
theorem big_le {n : Nat} (h : n ≤ big) : n ≤ sizeLine := by
  unfold big at h
  rw [sizeLine_eq]
  omega
theorem big_lt {n : Nat} (h : n ≤ big) : n < sizeLine := by
  unfold big at h
  rw [sizeLine_eq]
  omega
theorem bin_val {K : PySem.W.Frag} (o : Bop) {x y : V} {px py p : PV} {Q : VK} {S : SS} (s : Sub Hf H) (st : StAt Z H Hf S) (dx : DenB Z H Hf x px) (dy : DenB Z H Hf y py) (e : binP o px py = some p) (k : KS Z H Hf Q p S) : binR K o x y H Q := by
  unfold binP at e
  split at e
  · cases e
    rw [dx.int, dy.int]
    exact .inl ⟨_, _, rfl, rfl, k.val s st rfl (.int _)⟩
  · split at e
    · cases e
      rename_i hl
      obtain ⟨a, xs, rfl, h1, d1⟩ := dx.lst s
      obtain ⟨b, ys, rfl, h2, d2⟩ := dy.lst s
      exact .inr (.inl ⟨a, b, xs, ys, rfl, rfl, h1, h2, big_le (by rw [d1.length, d2.length]; exact hl), k.newL s st (d1.append d2)⟩)
    · cases e
  · split at e
    · cases e
      rename_i hl
      obtain ⟨a, xs, rfl, h1, d1⟩ := dx.tup
      obtain ⟨b, ys, rfl, h2, d2⟩ := dy.tup
      have l1 := d1.length
      have l2 := d2.length
      rw [List.length_cons] at l1 l2
      refine .inr (.inr ⟨a, b, xs, ys, rfl, rfl, sq_of (s _ _ h1), sq_of (s _ _ h2), fun z => by rw [z] at l1; simp at l1, ?_, fun z => by rw [z] at l2; simp at l2, fun _ => k.newT s st (d1.append d2)⟩)
      unfold big at hl
      rw [sizeLine_eq]
      omega
    · cases e
  · cases e
    rw [dx.int, dy.int]
    exact ⟨_, _, rfl, rfl, k.val s st rfl (.int _)⟩
  · split at e
    · cases e
      rename_i hm
      rw [dx.int, dy.int]
      unfold mulOk at hm
      rw [Bool.or_eq_true, decide_eq_true_eq, decide_eq_true_eq] at hm
      rcases hm with hm | hm
      · exact .inl ⟨_, _, rfl, rfl, hm, k.val s st rfl (.int _)⟩
      · exact .inr (.inl ⟨_, _, rfl, rfl, hm, k.val s st rfl (.int _)⟩)
    · cases e
  · split at e
    · cases e
      rename_i hm
      obtain ⟨a, xs, rfl, h1, d1⟩ := dx.lst s
      rw [dy.int]
      exact .inr (.inr ⟨a, _, xs, rfl, rfl, h1, by omega, by omega, big_le (by rw [d1.length]; exact hm.2.2), k.newL s st (d1.rep _)⟩)
    · cases e
  · split at e
    · cases e
      rename_i hm
      rw [dx.int, dy.int]
      rcases hm with hm | hm
      · exact .inl ⟨_, _, rfl, rfl, hm, k.val s st rfl (.int _)⟩
      · refine .inr ⟨_, _, rfl, rfl, hm, ?_⟩
        have z := k.val s st rfl (.int _)
        rw [Int.fdiv_eq_ediv_of_nonneg _ (by omega)] at z
        exact z
    · cases e
  · split at e
    · cases e
      rename_i hm
      rw [dx.int, dy.int]
      exact ⟨_, _, rfl, rfl, hm, k.val s st rfl (.int _)⟩
    · cases e
  · split at e
    · cases e
      rename_i hm
      rw [dx.int, dy.int]
      exact ⟨_, _, rfl, rfl, hm, k.val s st rfl (.int _)⟩
    · cases e
  · cases e
theorem keyK_of {v : V} {p : PV} {k : Key} (d : Den Z Hf v p) (e : keyK p = some k) : v = kV k := by
  unfold keyK at e
  split at e
  · cases e; cases d; rfl
  · cases e; cases d; rfl
  · cases e
theorem keyK_nm {p : PV} {k : Key} (e : keyK p = some k) : mutb p = false := by
  unfold keyK at e
  split at e
  · rfl
  · rfl
  · cases e
theorem keysK_of : ∀ {vs : List V} {ps : List PV} {ks : List Key}, DenAll Z Hf vs ps → keysK ps = some ks → vs = ks.map kV
  | _, _, _, .nil, e => by simp only [keysK, Option.some.injEq] at e; subst e; rfl
  | _, _, _, .cons d t, e => by
    simp only [keysK] at e
    obtain ⟨k, e1, e2⟩ := Option.bind_eq_some_iff.mp e
    obtain ⟨ks, e3, e4⟩ := Option.map_eq_some_iff.mp e2
    subst e4
    rw [keyK_of d e1, keysK_of t e3]
    rfl
theorem getP_K : ∀ {xs : List (Key × V)} {ps : List (Key × PV)} {k : Key}, DenK Z Hf xs ps → (∀ {p}, getP ps k = some p → ∃ v, valV xs k = some v ∧ Den Z Hf v p) ∧ (getP ps k = none → valV xs k = none)
  | _, _, k, .nil => ⟨fun {p} h => by simp [getP] at h, fun _ => rfl⟩
  | _, _, k, .cons (k := k0) (v := v0) (p := p0) d t => by
    obtain ⟨i1, i2⟩ := getP_K (k := k) t
    by_cases e : k0 = k
    · subst e
      refine ⟨fun {p} h => ?_, fun h => ?_⟩
      · have h' : some p0 = some p := by simpa [getP] using h
        cases h'
        exact ⟨v0, by simp [valV], d⟩
      · simp [getP] at h
    · have g1 : ∀ {α : Type} (z : α) (r : List (Key × α)), ((k0, z) :: r).find? (fun kv => decide (kv.1 = k)) = r.find? fun kv => decide (kv.1 = k) := fun z r => by simp [List.find?_cons, e]
      refine ⟨fun {p} h => ?_, fun h => ?_⟩
      · unfold getP at h
        rw [g1] at h
        obtain ⟨v, h1, h2⟩ := i1 h
        refine ⟨v, ?_, h2⟩
        unfold valV
        rw [g1]
        exact h1
      · unfold getP at h
        rw [g1] at h
        unfold valV
        rw [g1]
        exact i2 h
theorem getP_T : ∀ {xs : List (List Key × V)} {ps : List (List Key × PV)} {k : List Key}, DenT Z Hf xs ps → (∀ {p}, getP ps k = some p → ∃ v, valV xs k = some v ∧ Den Z Hf v p) ∧ (getP ps k = none → valV xs k = none)
  | _, _, k, .nil => ⟨fun {p} h => by simp [getP] at h, fun _ => rfl⟩
  | _, _, k, .cons (k := k0) (v := v0) (p := p0) d t => by
    obtain ⟨i1, i2⟩ := getP_T (k := k) t
    by_cases e : k0 = k
    · subst e
      refine ⟨fun {p} h => ?_, fun h => ?_⟩
      · have h' : some p0 = some p := by simpa [getP] using h
        cases h'
        exact ⟨v0, by simp [valV], d⟩
      · simp [getP] at h
    · have g1 : ∀ {α : Type} (z : α) (r : List (List Key × α)), ((k0, z) :: r).find? (fun kv => decide (kv.1 = k)) = r.find? fun kv => decide (kv.1 = k) := fun z r => by simp [List.find?_cons, e]
      refine ⟨fun {p} h => ?_, fun h => ?_⟩
      · unfold getP at h
        rw [g1] at h
        obtain ⟨v, h1, h2⟩ := i1 h
        refine ⟨v, ?_, h2⟩
        unfold valV
        rw [g1]
        exact h1
      · unfold getP at h
        rw [g1] at h
        unfold valV
        rw [g1]
        exact i2 h
theorem dget_K {a : Addr} {xs : List (Key × V)} {ps : List (Key × PV)} {v : V} {p : PV} {k : Key} (h : H a = some (.dK xs)) (d : DenK Z Hf xs ps) (dv : Den Z Hf v p) (e : keyK p = some k) : ∃ o, DGet H a v o ∧ o.isSome = (getP ps k).isSome ∧ ∀ q, getP ps k = some q → ∃ u, o = some u ∧ Den Z Hf u q := by
  have ev := keyK_of dv e
  subst ev
  refine ⟨valV xs k, DGet.k h, ?_, fun q hq => ?_⟩
  · cases g : getP ps k with
    | none => rw [(getP_K d).2 g]; rfl
    | some q =>
      obtain ⟨u, h1, _⟩ := (getP_K d).1 g
      rw [h1]
      rfl
  · obtain ⟨u, h1, h2⟩ := (getP_K d).1 hq
    exact ⟨u, h1, h2⟩
theorem dget_T {a : Addr} {xs : List (List Key × V)} {ps : List (List Key × PV)} {v : V} {p : PV} {k : List Key} (s : Sub Hf H) (h : H a = some (.dT xs)) (d : DenT Z Hf xs ps) (dv : Den Z Hf v p) (e : keyT p = some k) : ∃ o, DGet H a v o ∧ o.isSome = (getP ps k).isSome ∧ ∀ q, getP ps k = some q → ∃ u, o = some u ∧ Den Z Hf u q := by
  unfold keyT at e
  split at e
  · obtain ⟨b, ys, rfl, hb, db⟩ := dv.tupI
    have ey := keysK_of db e
    subst ey
    refine ⟨valV xs k, DGet.t h (s _ _ hb), ?_, fun q hq => ?_⟩
    · cases g : getP ps k with
      | none => rw [(getP_T d).2 g]; rfl
      | some q =>
        obtain ⟨u, h1, _⟩ := (getP_T d).1 g
        rw [h1]
        rfl
    · obtain ⟨u, h1, h2⟩ := (getP_T d).1 hq
      exact ⟨u, h1, h2⟩
  · cases e
theorem keyT_nm {p : PV} {k : List Key} (e : keyT p = some k) : mutb p = false := by
  unfold keyT at e
  split at e
  · rfl
  · cases e
theorem flatP_V {v : V} {p : PV} (d : Den Z Hf v p) (h : flatP p = true) : flatV v = true := by
  cases d <;> first | rfl | cases h
theorem eqF_V {v w : V} {p q : PV} (d : Den Z Hf v p) (e : Den Z Hf w q) (h : flatP p = true) (h2 : flatP q = true) : eqV v w = eqF p q := by
  cases d <;> first | (cases h; done) | (cases e <;> first | (cases h2; done) | rfl | exact (beqI_eq _ _).symm | exact (beqS_eq _ _).symm)
theorem flatAll : ∀ {vs : List V} {ps : List PV}, DenAll Z Hf vs ps → ps.all flatP = true → vs.all flatV = true
  | _, _, .nil, _ => rfl
  | _, _, .cons d t, h => by
    rw [List.all_cons, Bool.and_eq_true] at h ⊢
    exact ⟨flatP_V d h.1, flatAll t h.2⟩
theorem anyF {x : V} {p : PV} (dx : Den Z Hf x p) (hx : flatP p = true) : ∀ {vs : List V} {ps : List PV}, DenAll Z Hf vs ps → ps.all flatP = true → inV x vs = ps.any fun z => eqF z p
  | _, _, .nil, _ => rfl
  | _, _, .cons d t, h => by
    rw [List.all_cons, Bool.and_eq_true] at h
    have ih := anyF dx hx t h.2
    unfold inV at ih ⊢
    rw [List.any_cons, List.any_cons, ih, eqF_V d dx h.1 hx]
theorem eqP_val {K : PySem.W.Frag} {x y : V} {px py : PV} {b : Bool} (s : Sub Hf H) (dx : DenB Z H Hf x px) (dy : DenB Z H Hf y py) (e : eqP px py = some b) : (scal x y = true ∧ b = decide (x = y)) ∨ eqG px py = some b := by
  unfold eqP at e
  split at e
  · cases e
    rw [dx.int, dy.int]
    exact .inl ⟨rfl, by rw [beqI_eq, dec_int]⟩
  · cases e
    rw [dx.str, dy.str]
    exact .inl ⟨rfl, by rw [beqS_eq, dec_str]⟩
  · cases e
    rw [dx.bl, dy.bl]
    exact .inl ⟨rfl, by rw [dec_bl]⟩
  · exact .inr e
theorem eq_val {K : PySem.W.Frag} {x y : V} {px py : PV} {b : Bool} (s : Sub Hf H) (dx : DenB Z H Hf x px) (dy : DenB Z H Hf y py) (e : eqG px py = some b) : ∃ d f, Dp K H x d ∧ Dp K H y f ∧ SeqAt.shaped d = true ∧ SeqAt.shaped f = true ∧ b = PyData.eqv d f := by
  unfold eqG at e
  obtain ⟨d, e1, e2⟩ := Option.bind_eq_some_iff.mp e
  obtain ⟨f, e3, e4⟩ := Option.bind_eq_some_iff.mp e2
  split at e4
  · rename_i h
    rw [Bool.and_eq_true] at h
    cases e4
    exact ⟨d, f, dx.dp s e1, dy.dp s e3, h.1, h.2, rfl⟩
  · cases e4
theorem cmpD_val {K : PySem.W.Frag} {g : PyData → PyData → Bool} {x y : V} {px py : PV} {b : Bool} {Q : VK} (s : Sub Hf H) (dx : DenB Z H Hf x px) (dy : DenB Z H Hf y py) (e : cmpD g px py = some b) (k : Q (.bl b) H) : rCmpD K g x y H Q := by
  unfold cmpD at e
  obtain ⟨d, e1, e2⟩ := Option.bind_eq_some_iff.mp e
  obtain ⟨f, e3, e4⟩ := Option.bind_eq_some_iff.mp e2
  split at e4
  · rename_i h
    simp only [Bool.and_eq_true, decide_eq_true_eq, Bool.not_eq_true'] at h
    cases e4
    exact ⟨d, f, dx.dp s e1, dy.dp s e3, h.1.1, fun z => by rw [z] at h; exact absurd h.1.2 (by simp [Bb.isNone]), h.2, k⟩
  · cases e4
theorem cmpI_val {K : PySem.W.Frag} {gi : Int → Int → Bool} {g : PyData → PyData → Bool} {x y : V} {px py : PV} {b : Bool} {Q : VK} (s : Sub Hf H) (dx : DenB Z H Hf x px) (dy : DenB Z H Hf y py) (e : cmpI gi g px py = some b) (k : Q (.bl b) H) : (rI0 fun i j => .bl (gi i j)) x y H Q ∨ rCmpD K g x y H Q := by
  unfold cmpI at e
  split at e
  · cases e
    rw [dx.int, dy.int]
    exact .inl ⟨_, _, rfl, rfl, k⟩
  · exact .inr (cmpD_val s dx dy e k)
theorem in_val {K : PySem.W.Frag} {x y : V} {px py : PV} {b : Bool} (s : Sub Hf H) (dx : DenB Z H Hf x px) (dy : DenB Z H Hf y py) (e : inP px py = some b) :
    (∃ p xs, y = .ref p ∧ (SqL K H p xs ∨ SqT K H p xs) ∧ flatV x = true ∧ xs.all flatV = true ∧ b = inV x xs) ∨ (∃ d ds, Dp K H x d ∧ Dp K H y (.list ds) ∧ SeqAt.shaped d = true ∧ SeqAt.shaped (.list ds) = true ∧ b = ds.any fun z => PyData.eqv z d) ∨ (∃ a o, y = .ref a ∧ DGet H a x o ∧ b = o.isSome) := by
  unfold inP at e
  simp only [getF_eq] at e
  split at e
  · rename_i ys
    unfold inL at e
    obtain ⟨d, e1, e2⟩ := Option.bind_eq_some_iff.mp e
    obtain ⟨ds, e3, e4⟩ := Option.bind_eq_some_iff.mp e2
    split at e4
    · rename_i h
      rw [Bool.and_eq_true] at h
      cases e4
      exact .inr (.inl ⟨d, ds, dx.dp s e1, dy.dp s (by simp [toD, e3]), h.1, h.2, rfl⟩)
    · cases e4
  · split at e
    · rename_i h
      rw [Bool.and_eq_true] at h
      cases e
      obtain ⟨a, xs, rfl, h1, d1⟩ := dy.tup
      have dx' : Den Z Hf x px := dx.den (by cases px <;> first | rfl | (exact absurd h.1 (by simp [flatP])))
      exact .inl ⟨a, xs, rfl, .inr (sq_of (s _ _ h1)), flatP_V dx' h.1, flatAll d1 h.2, (anyF dx' h.1 d1 h.2).symm⟩
    · cases e
  · obtain ⟨k, e1, e2⟩ := Option.map_eq_some_iff.mp e
    obtain ⟨a, xs, rfl, h1, d1⟩ := dy.dK s
    obtain ⟨o, g, i1, _⟩ := dget_K h1 d1 (dx.den (keyK_nm e1)) e1
    exact .inr (.inr ⟨a, o, rfl, g, by rw [← e2, i1]⟩)
  · obtain ⟨k, e1, e2⟩ := Option.map_eq_some_iff.mp e
    obtain ⟨a, xs, rfl, h1, d1⟩ := dy.dT s
    obtain ⟨o, g, i1, _⟩ := dget_T s h1 d1 (dx.den (keyT_nm e1)) e1
    exact .inr (.inr ⟨a, o, rfl, g, by rw [← e2, i1]⟩)
  · cases e
theorem cmp_val {K : PySem.W.Frag} (o : Cop) {x y : V} {px py : PV} {b : Bool} {Q : VK} (s : Sub Hf H) (dx : DenB Z H Hf x px) (dy : DenB Z H Hf y py) (e : cmpP o px py = some b) (k : Q (.bl b) H) : cmpR K o x y H Q := by
  cases o with
  | eq =>
    rcases eqP_val (K := K) s dx dy (show eqP px py = some b from e) with ⟨h1, rfl⟩ | e
    · exact .inl ⟨h1, k⟩
    obtain ⟨d, f, h1, h2, h3, h4, rfl⟩ := eq_val (K := K) s dx dy e
    exact .inr ⟨d, f, h1, h2, h3, h4, k⟩
  | ne =>
    obtain ⟨c, e1, e2⟩ := Option.map_eq_some_iff.mp (show (eqP px py).map (!·) = some b from e)
    subst e2
    rcases eqP_val (K := K) s dx dy e1 with ⟨h1, rfl⟩ | e1
    · exact .inl ⟨h1, k⟩
    obtain ⟨d, f, h1, h2, h3, h4, rfl⟩ := eq_val (K := K) s dx dy e1
    exact .inr ⟨d, f, h1, h2, h3, h4, k⟩
  | lt => exact cmpI_val s dx dy e k
  | le => exact cmpI_val s dx dy e k
  | gt => exact cmpI_val s dx dy e k
  | ge => exact cmpI_val s dx dy e k
  | isin =>
    rcases in_val (K := K) s dx dy (show inP px py = some b from e) with ⟨p, xs, h1, h2, h3, h4, rfl⟩ | ⟨d, ds, h1, h2, h3, h4, rfl⟩ | ⟨a, o, h1, h2, rfl⟩
    · exact .inl ⟨p, xs, h1, h2, h3, h4, k⟩
    · exact .inr (.inl ⟨d, ds, h1, h2, h3, h4, k⟩)
    · exact .inr (.inr ⟨a, o, h1, h2, k⟩)
  | notin =>
    obtain ⟨c, e1, e2⟩ := Option.map_eq_some_iff.mp (show (inP px py).map (!·) = some b from e)
    subst e2
    rcases in_val (K := K) s dx dy e1 with ⟨p, xs, h1, h2, h3, h4, rfl⟩ | ⟨d, ds, h1, h2, h3, h4, rfl⟩ | ⟨a, o, h1, h2, rfl⟩
    · exact .inl ⟨p, xs, h1, h2, h3, h4, k⟩
    · exact .inr (.inl ⟨d, ds, h1, h2, h3, h4, k⟩)
    · exact .inr (.inr ⟨a, o, h1, h2, k⟩)
end
end Bb

set_option maxRecDepth 100000
set_option maxHeartbeats 4000000
/-! Built-in calls, indexes, slices: the pure values are what the readings ask. -/
namespace Bb
open L2 PyProof.Rows PySem.Spec PySem
section
variable {C : RC} {Z : Zn} {H Hf H1 Hf1 : Hp} {E : XK}
theorem intsOf_V : ∀ {vs : List V} {ps : List PV} {is : List Int}, DenAll Z Hf vs ps → intsOf ps = some is → vs = is.map V.int
  | _, _, _, .nil, e => by simp only [intsOf, Option.some.injEq] at e; subst e; rfl
  | _, _, _, .cons d t, e => by
    unfold intsOf at e
    split at e
    · rename_i q; cases q
    · rename_i i xs q
      injection q with q1 q2
      subst q1 q2
      obtain ⟨js, e1, e2⟩ := Option.map_eq_some_iff.mp e
      subst e2
      cases d
      rw [intsOf_V t e1]
      rfl
    · cases e
theorem blsOf_V : ∀ {vs : List V} {ps : List PV} {is : List Bool}, DenAll Z Hf vs ps → blsOf ps = some is → vs = is.map V.bl
  | _, _, _, .nil, e => by simp only [blsOf, Option.some.injEq] at e; subst e; rfl
  | _, _, _, .cons d t, e => by
    unfold blsOf at e
    split at e
    · rename_i q; cases q
    · rename_i i xs q
      injection q with q1 q2
      subst q1 q2
      obtain ⟨js, e1, e2⟩ := Option.map_eq_some_iff.mp e
      subst e2
      cases d
      rw [blsOf_V t e1]
      rfl
    · cases e
theorem keyInts_V : ∀ {vs : List (Key × V)} {ps : List (Key × PV)} {is : List Int}, DenK Z Hf vs ps → keyInts ps = some is → vs.map (·.1) = is.map Sum.inl
  | _, _, _, .nil, e => by simp only [keyInts, Option.some.injEq] at e; subst e; rfl
  | _, _, _, .cons d t, e => by
    unfold keyInts at e
    split at e
    · rename_i q; cases q
    · rename_i q
      injection q with q1 q2
      injection q1 with q1 q3
      subst q1 q2
      obtain ⟨js, e1, e2⟩ := Option.map_eq_some_iff.mp e
      subst e2
      rw [List.map_cons, keyInts_V t e1]
      rfl
    · cases e
theorem minI_spec (n : Int) (ns : List Int) : minI n ns ∈ n :: ns ∧ ∀ y ∈ n :: ns, minI n ns ≤ y := by
  unfold minI
  induction ns generalizing n with
  | nil => simp
  | cons m ns ih =>
    rw [List.foldl_cons]
    obtain ⟨a, b⟩ := ih (min n m)
    have hm := b (min n m) (by simp)
    constructor
    · rcases List.mem_cons.mp a with a | a
      · rw [a]
        rcases Int.le_total n m with h | h
        · rw [Int.min_eq_left h]; simp
        · rw [Int.min_eq_right h]; simp
      · exact List.mem_cons.mpr (.inr (List.mem_cons.mpr (.inr a)))
    · intro y hy
      rcases List.mem_cons.mp hy with rfl | hy
      · exact Int.le_trans hm (Int.min_le_left _ _)
      · rcases List.mem_cons.mp hy with rfl | hy
        · exact Int.le_trans hm (Int.min_le_right _ _)
        · exact b y (by simp [hy])
theorem maxI_spec (n : Int) (ns : List Int) : maxI n ns ∈ n :: ns ∧ ∀ y ∈ n :: ns, y ≤ maxI n ns := by
  unfold maxI
  induction ns generalizing n with
  | nil => simp
  | cons m ns ih =>
    rw [List.foldl_cons]
    obtain ⟨a, b⟩ := ih (max n m)
    have hm := b (max n m) (by simp)
    constructor
    · rcases List.mem_cons.mp a with a | a
      · rw [a]
        rcases Int.le_total n m with h | h
        · rw [Int.max_eq_right h]; simp
        · rw [Int.max_eq_left h]; simp
      · exact List.mem_cons.mpr (.inr (List.mem_cons.mpr (.inr a)))
    · intro y hy
      rcases List.mem_cons.mp hy with rfl | hy
      · exact Int.le_trans (Int.le_max_left _ _) hm
      · rcases List.mem_cons.mp hy with rfl | hy
        · exact Int.le_trans (Int.le_max_right _ _) hm
        · exact b y (by simp [hy])
/-! ### isinstance -/
theorem tyX_of {K : PySem.W.Frag} {v : V} {p : PV} {n : Kd} (s : Sub Hf H) (d : DenB Z H Hf v p) (st : ∀ a b, Z.st = some (a, b) → ∃ xs, H a = some (.lst xs)) (e : tyP p = some n) : TyX K H v (.type n.name) := by
  have go : ∀ {v p}, Den Z Hf v p → tyP p = some n → TyX K H v (.type n.name) := fun {v p} d e => by
    cases d with
    | non => cases e; exact .base .non
    | bl => cases e; exact .base (.bl _)
    | int => cases e; exact .base (.int _)
    | str => cases e; exact .base (.str _)
    | ty => cases e
    | lst h _ _ => cases e; exact .base (.lst (s _ _ h))
    | tup h _ => cases e; exact .base (.tup (s _ _ h))
    | dK h _ _ => cases e; exact .base (.dK (s _ _ h))
    | dT h _ _ => cases e; exact .base (.dT (s _ _ h))
    | strm h =>
      cases e
      obtain ⟨xs, hx⟩ := st _ _ h
      exact .base (.lst hx)
  rcases d with d | ⟨a, rfl, n, o⟩
  · exact go d e
  · cases p with
    | lst c ps => cases e; obtain ⟨xs, h, _⟩ := o; exact .base (.lst h)
    | dK c ps => cases e; obtain ⟨xs, h, _⟩ := o; exact .base (.dK h)
    | dT c ps => cases e; obtain ⟨xs, h, _⟩ := o; exact .base (.dT h)
    | _ => exact o.elim
def tyAll : List Kd := [.non, .bool, .int, .str, .list, .tuple, .dict]
theorem tyAll_in (n : Kd) : n ∈ tyAll := by cases n <;> simp [tyAll]
theorem known_in {n : Kd} (h : known n = true) : n ∈ tyKnown := by cases n <;> first | (cases h; done) | simp [tyKnown]
theorem kitB_all : (tyAll.all fun a => tyKnown.all fun b => decide (kitB a.name b.name = some (isTy a b))) = true := by decide +kernel
theorem kitB_of {a b : Kd} (hb : known b = true) : kitB a.name b.name = some (isTy a b) := by
  have h := List.all_eq_true.mp kitB_all a (tyAll_in a)
  exact of_decide_eq_true (List.all_eq_true.mp h b (known_in hb))
theorem tysOf_V : ∀ {vs : List V} {ps : List PV} {ns : List Kd}, DenAll Z Hf vs ps → tysOf ps = some ns → vs = ns.map (fun n => V.ty n.name) ∧ (∀ n ∈ ns, known n = true)
  | _, _, _, .nil, e => by simp only [tysOf, Option.some.injEq] at e; subst e; exact ⟨rfl, fun n h => by cases h⟩
  | _, _, _, .cons d t, e => by
    unfold tysOf at e
    split at e
    · rename_i q; cases q
    · rename_i i xs q
      injection q with q1 q2
      subst q1 q2
      split at e
      · rename_i hk
        obtain ⟨js, e1, e2⟩ := Option.map_eq_some_iff.mp e
        subst e2
        cases d
        obtain ⟨a, b⟩ := tysOf_V t e1
        refine ⟨by rw [a]; rfl, fun n hn => ?_⟩
        rcases List.mem_cons.mp hn with rfl | hn
        · exact hk
        · exact b n hn
      · cases e
    · cases e
theorem cls_all : ∀ ns : List Kd, Paired ClsV (ns.map fun n => V.ty n.name) (ns.map fun n => Value.type n.name)
  | [] => .nil
  | n :: ns => .cons (.ty n.name) (cls_all ns)
theorem kitAny_of {K : PySem.W.Frag} {a : Kd} : ∀ ns : List Kd, (∀ n ∈ ns, known n = true) → PySem.W.kitAny K (.type a.name) (ns.map fun n => Value.type n.name) = some (ns.any (isTy a))
  | [], _ => rfl
  | n :: ns, h => by
    refine kitAny_cons (b := isTy a n) (kit_ty (kitB_of (h n (by simp)))) (fun e => ?_) fun e => ?_
    · rw [kitAny_of ns fun m hm => h m (by simp [hm]), List.any_cons, e]
      rfl
    · rw [List.any_cons, e]
      rfl
/-! ### dicts -/
theorem DenK.append : ∀ {vs ws : List (Key × V)} {ps qs : List (Key × PV)}, DenK Z Hf vs ps → DenK Z Hf ws qs → DenK Z Hf (vs ++ ws) (ps ++ qs)
  | _, _, _, _, .nil, e => e
  | _, _, _, _, .cons d t, e => .cons d (DenK.append t e)
theorem DenK.keys : ∀ {vs : List (Key × V)} {ps : List (Key × PV)}, DenK Z Hf vs ps → vs.map (·.1) = ps.map (·.1)
  | _, _, .nil => rfl
  | _, _, .cons d t => by rw [List.map_cons, List.map_cons, DenK.keys t]
theorem DenK.length {vs : List (Key × V)} {ps : List (Key × PV)} (d : DenK Z Hf vs ps) : vs.length = ps.length := by
  have h := congrArg List.length d.keys
  simpa using h
theorem DenT.append : ∀ {vs ws : List (List Key × V)} {ps qs : List (List Key × PV)}, DenT Z Hf vs ps → DenT Z Hf ws qs → DenT Z Hf (vs ++ ws) (ps ++ qs)
  | _, _, _, _, .nil, e => e
  | _, _, _, _, .cons d t, e => .cons d (DenT.append t e)
theorem DenT.keys : ∀ {vs : List (List Key × V)} {ps : List (List Key × PV)}, DenT Z Hf vs ps → vs.map (·.1) = ps.map (·.1)
  | _, _, .nil => rfl
  | _, _, .cons d t => by rw [List.map_cons, List.map_cons, DenT.keys t]
theorem DenT.length {vs : List (List Key × V)} {ps : List (List Key × PV)} (d : DenT Z Hf vs ps) : vs.length = ps.length := by
  have h := congrArg List.length d.keys
  simpa using h
theorem any_keys {κ α β : Type} [DecidableEq κ] {k : κ} : ∀ {xs : List (κ × α)} {ys : List (κ × β)}, xs.map (·.1) = ys.map (·.1) → (xs.any fun kv => decide (kv.1 = k)) = ys.any fun kv => decide (kv.1 = k)
  | [], [], _ => rfl
  | [], _ :: _, h => by cases h
  | _ :: _, [], h => by cases h
  | x :: xs, y :: ys, h => by
    rw [List.map_cons, List.map_cons] at h
    injection h with h1 h2
    rw [List.any_cons, List.any_cons, h1, any_keys h2]
theorem DenK.over {v : V} {p : PV} {k : Key} (d : Den Z Hf v p) : ∀ {vs : List (Key × V)} {ps : List (Key × PV)}, DenK Z Hf vs ps → DenK Z Hf (vs.map fun kv => if kv.1 = k then (kv.1, v) else kv) (ps.map fun kv => if kv.1 = k then (kv.1, p) else kv)
  | _, _, .nil => .nil
  | _, _, .cons (k := k0) d0 t => by
    rw [List.map_cons, List.map_cons]
    by_cases h : k0 = k
    · simp only [h, if_true]
      exact .cons d (DenK.over d t)
    · simp only [h, if_false]
      exact .cons d0 (DenK.over d t)
theorem DenT.over {v : V} {p : PV} {k : List Key} (d : Den Z Hf v p) : ∀ {vs : List (List Key × V)} {ps : List (List Key × PV)}, DenT Z Hf vs ps → DenT Z Hf (vs.map fun kv => if kv.1 = k then (kv.1, v) else kv) (ps.map fun kv => if kv.1 = k then (kv.1, p) else kv)
  | _, _, .nil => .nil
  | _, _, .cons (k := k0) d0 t => by
    rw [List.map_cons, List.map_cons]
    by_cases h : k0 = k
    · simp only [h, if_true]
      exact .cons d (DenT.over d t)
    · simp only [h, if_false]
      exact .cons d0 (DenT.over d t)
theorem DenK.put {v : V} {p : PV} {k : Key} {vs : List (Key × V)} {ps : List (Key × PV)} (d : Den Z Hf v p) (t : DenK Z Hf vs ps) : DenK Z Hf (putK vs k v) (putP ps k p) := by
  unfold putK putP
  rw [any_keys (k := k) t.keys]
  split
  · exact t.over d
  · exact t.append (.cons d .nil)
theorem DenT.put {v : V} {p : PV} {k : List Key} {vs : List (List Key × V)} {ps : List (List Key × PV)} (d : Den Z Hf v p) (t : DenT Z Hf vs ps) : DenT Z Hf (putK vs k v) (putP ps k p) := by
  unfold putK putP
  rw [any_keys (k := k) t.keys]
  split
  · exact t.over d
  · exact t.append (.cons d .nil)
theorem DenK.merge : ∀ {more : List (Key × V)} {mp : List (Key × PV)} {vs : List (Key × V)} {ps : List (Key × PV)}, DenK Z Hf more mp → DenK Z Hf vs ps → DenK Z Hf (mergeK vs more) (mergeP ps mp)
  | _, _, _, _, .nil, t => t
  | _, _, vs, ps, .cons (k := k) (v := v) (p := p) d r, t => DenK.merge (vs := putK vs k v) (ps := putF ps k p) r (by rw [putF_eq]; exact t.put d)
theorem DenK.keyVs : ∀ {vs : List (Key × V)} {ps : List (Key × PV)}, DenK Z Hf vs ps → DenAll Z Hf (vs.map fun kv => kV kv.1) (ps.map fun kv => keyPV kv.1)
  | _, _, .nil => .nil
  | _, _, .cons (k := k) d t => .cons (by cases k with | inl i => exact .int _ | inr i => exact .str _) (DenK.keyVs t)
theorem pairsOf_V {K : PySem.W.Frag} (s : Sub Hf H) : ∀ {vs : List V} {ps : List PV} {kvs : List (Key × PV)}, DenAll Z Hf vs ps → pairsOf' ps = some kvs → ∃ (as : List Addr) (ws : List (Key × V)), vs = as.map V.ref ∧ Paired (fun p kv => SqT K H p [kV kv.1, kv.2]) as ws ∧ DenK Z Hf ws kvs
  | _, _, _, .nil, e => by simp only [pairsOf', Option.some.injEq] at e; subst e; exact ⟨[], [], rfl, .nil, .nil⟩
  | _, _, _, .cons d t, e => by
    unfold pairsOf' at e
    split at e
    · rename_i q; cases q
    · rename_i q
      injection q with q1 q2
      subst q1 q2
      obtain ⟨k, e1, e2⟩ := Option.bind_eq_some_iff.mp e
      obtain ⟨js, e3, e4⟩ := Option.map_eq_some_iff.mp e2
      subst e4
      obtain ⟨as, ws, h1, h2, h3⟩ := pairsOf_V (K := K) s t e3
      obtain ⟨a, xs, rfl, ha, da⟩ := d.tupI
      cases da with
      | cons dk da =>
        cases da with
        | cons dv da =>
          cases da
          have ek := keyK_of dk e1
          subst ek
          exact ⟨a :: as, (k, _) :: ws, by rw [h1]; rfl, .cons (sq_of (s _ _ ha)) h2, .cons dv h3⟩
    · cases e
/-! ### sorted -/
theorem sorted_eq {ys ks : List Int} (p : ys.Perm ks) (h : ys.Pairwise (· ≤ ·)) : ys = ks.mergeSort fun a b => decide (a ≤ b) := by
  have p2 : ys.Perm (ks.mergeSort fun a b => decide (a ≤ b)) := p.trans (List.mergeSort_perm ks _).symm
  have h2 : (ks.mergeSort fun a b => decide (a ≤ b)).Pairwise (fun a b => decide (a ≤ b) = true) := List.pairwise_mergeSort (fun a b c x y => by simp only [decide_eq_true_eq] at *; omega) (fun a b => by simp only [Bool.or_eq_true, decide_eq_true_eq]; omega) ks
  refine List.Perm.eq_of_pairwise (le := fun a b => a ≤ b) (fun a b _ _ x y => by omega) h (h2.imp fun x => of_decide_eq_true x) p2
theorem insI_sort (l : List Int) : (l.foldr insI []).Perm l ∧ (l.foldr insI []).Pairwise (· ≤ ·) := by
  induction l with
  | nil => exact ⟨.nil, .nil⟩
  | cons a l ih =>
    rw [List.foldr_cons]
    have go : ∀ l : List Int, l.Pairwise (· ≤ ·) → (insI a l).Perm (a :: l) ∧ (insI a l).Pairwise (· ≤ ·) := by
      intro l
      induction l with
      | nil => exact fun _ => ⟨.refl _, by simp [insI]⟩
      | cons b l ih =>
        intro h
        unfold insI
        obtain ⟨h1, h2⟩ := List.pairwise_cons.mp h
        split
        · rename_i hab
          refine ⟨.refl _, List.pairwise_cons.mpr ⟨fun c hc => ?_, h⟩⟩
          rcases List.mem_cons.mp hc with rfl | hc
          · exact hab
          · exact Int.le_trans hab (h1 c hc)
        · rename_i hab
          obtain ⟨p, q⟩ := ih h2
          refine ⟨(p.cons b).trans (.swap a b l), List.pairwise_cons.mpr ⟨fun c hc => ?_, q⟩⟩
          rcases List.mem_cons.mp (p.mem_iff.mp hc) with rfl | hc
          · omega
          · exact h1 c hc
    obtain ⟨p, q⟩ := go _ ih.2
    exact ⟨p.trans (ih.1.cons a), q⟩
theorem zip_map1 {α β γ : Type} : ∀ {as : List α} {bs : List β} {cs : List γ}, as.length = bs.length → bs.length = cs.length → (as.zip (bs.zip cs)).map (fun z => (z.1, z.2.2)) = as.zip cs
  | [], [], [], _, _ => rfl
  | a :: as, b :: bs, c :: cs, h1, h2 => by
    simp only [List.zip_cons_cons, List.map_cons]
    rw [zip_map1 (by simpa using h1) (by simpa using h2)]
  | [], _ :: _, _, h, _ => by simp at h
  | _ :: _, [], _, h, _ => by simp at h
  | _, [], _ :: _, _, h => by simp at h
  | _, _ :: _, [], _, h => by simp at h
theorem toDs_len : ∀ {ps : List PV} {ds : List PyData}, toDs ps = some ds → ps.length = ds.length
  | [], _, e => by simp only [toDs, Option.some.injEq] at e; subst e; rfl
  | p :: ps, _, e => by
    simp only [toDs] at e
    obtain ⟨d, e1, e2⟩ := Option.bind_eq_some_iff.mp e
    obtain ⟨ds, e3, e4⟩ := Option.map_eq_some_iff.mp e2
    subst e4
    rw [List.length_cons, List.length_cons, toDs_len e3]
theorem sort_den {vs : List V} {ps : List PV} {ds : List PyData} (d : DenAll Z Hf vs ps) (e : toDs ps = some ds) :
    DenAll Z Hf (((vs.zip ds).mergeSort (PySem.W.dataLe false fun p => p.2)).map (·.1)) (((ps.zip ds).mergeSort (PySem.W.dataLe false fun z => z.2)).map (·.1)) := by
  have l1 := d.length
  have l2 := toDs_len e
  have zs : ∃ zs : List (V × (PV × PyData)), zs = vs.zip (ps.zip ds) := ⟨_, rfl⟩
  obtain ⟨zs, hz⟩ := zs
  have e1 : zs.map (fun z => (z.1, z.2.2)) = vs.zip ds := by rw [hz]; exact zip_map1 l1 l2
  have e2 : zs.map (fun z => z.2) = ps.zip ds := by
    rw [hz]
    exact List.map_snd_zip (by rw [List.length_zip]; omega)
  have m1 := PySem.W.sort_maps (r := PySem.W.dataLe false fun (z : V × (PV × PyData)) => z.2.2) (s := PySem.W.dataLe false fun (p : V × PyData) => p.2) (fun z : V × (PV × PyData) => (z.1, z.2.2)) (l := zs) fun a _ b _ => rfl
  have m2 := PySem.W.sort_maps (r := PySem.W.dataLe false fun (z : V × (PV × PyData)) => z.2.2) (s := PySem.W.dataLe false fun (p : PV × PyData) => p.2) (fun z : V × (PV × PyData) => z.2) (l := zs) fun a _ b _ => rfl
  rw [e1] at m1
  rw [e2] at m2
  rw [← m1, ← m2, List.map_map, List.map_map]
  refine DenAll.paired (by simp) fun z hz' => ?_
  rw [List.zip_map', List.mem_map] at hz'
  obtain ⟨w, hw, rfl⟩ := hz'
  have hw' : w ∈ zs := (List.mergeSort_perm zs _).mem_iff.mp hw
  rw [hz] at hw'
  have hq : (w.1, w.2.1) ∈ vs.zip ps := by
    have m3 : (vs.zip (ps.zip ds)).map (fun z => (z.1, z.2.1)) = vs.zip ps := by
      have g : ∀ {vs : List V} {ps : List PV} {ds : List PyData}, vs.length = ps.length → ps.length = ds.length → (vs.zip (ps.zip ds)).map (fun z => (z.1, z.2.1)) = vs.zip ps := by
        intro vs
        induction vs with
        | nil => intro ps ds _ _; rfl
        | cons v vs ih =>
          intro ps ds h1 h2
          cases ps with
          | nil => rfl
          | cons p ps =>
            cases ds with
            | nil => simp at h2
            | cons d ds =>
              simp only [List.zip_cons_cons, List.map_cons]
              rw [ih (by simpa using h1) (by simpa using h2)]
      exact g l1 l2
    rw [← m3]
    exact List.mem_map.mpr ⟨w, hw', rfl⟩
  exact d.zip _ hq
theorem ins_sort : ∀ l : List (PV × PyData), l.foldr insD [] = l.mergeSort (PySem.W.dataLe false fun z => z.2)
  | [] => by simp
  | a :: l => by
    have T := PySem.W.sortLe_total (PyProof.Rows.listOrd PyProof.Rows.itemOrd) false fun (z : PV × PyData) => PySem.W.keyToks z.2
    have T' : PySem.W.TotalLe (PySem.W.dataLe false fun (z : PV × PyData) => z.2) := T
    obtain ⟨l1, l2, h1, h2, h3⟩ := List.mergeSort_cons (le := PySem.W.dataLe false fun (z : PV × PyData) => z.2) T'.trans (fun a b => by rw [Bool.or_eq_true]; exact T'.total a b) a l
    have hp := PySem.W.sort_pairwise T' (a :: l)
    rw [List.foldr_cons, ins_sort l, h1, h2]
    rw [h1] at hp
    have hp2 := (List.pairwise_append.mp hp).2.1
    clear h1 h2 hp
    induction l1 with
    | nil =>
      cases l2 with
      | nil => rfl
      | cons c l2 =>
        have hc := (List.pairwise_cons.mp hp2).1 c (by simp)
        show insD a (c :: l2) = a :: c :: l2
        unfold insD
        rw [if_pos hc]
    | cons b l1 ih =>
      have hb := h3 b (by simp)
      rw [Bool.not_eq_true'] at hb
      show insD a (b :: (l1 ++ l2)) = b :: (l1 ++ a :: l2)
      unfold insD
      rw [if_neg (by rw [hb]; simp), ih fun x hx => h3 x (by simp [hx])]
mutual
theorem fits_alike : ∀ (d e : PyData) (t : DTy), fits d t = true → fits e t = true → PySem.W.alike d e = true
  | .int _, e, t, h1, h2 => by
    cases t <;> first | (simp [fits] at h1; done) | skip
    cases e <;> first | (simp [fits] at h2; done) | rfl
  | .bool _, e, t, h1, h2 => by
    cases t <;> first | (simp [fits] at h1; done) | skip
    cases e <;> first | (simp [fits] at h2; done) | rfl
  | .str _, e, t, h1, h2 => by
    cases t <;> first | (simp [fits] at h1; done) | skip
    cases e <;> first | (simp [fits] at h2; done) | rfl
  | .list xs, e, t, h1, h2 => by
    cases t <;> first | (simp [fits] at h1; done) | skip
    cases e <;> first | (simp [fits] at h2; done) | skip
    simp only [fits] at h1 h2
    simp only [PySem.W.alike]
    exact fitsL_alike xs _ _ h1 h2
  | .tuple xs, e, t, h1, h2 => by
    cases t <;> first | (simp [fits] at h1; done) | skip
    cases e <;> first | (simp [fits] at h2; done) | skip
    simp only [fits] at h1 h2
    simp only [PySem.W.alike]
    exact fitsT_alike xs _ _ h1 h2
  | .none, e, t, h1, h2 => by simp [fits] at h1
  | .dict _, e, t, h1, h2 => by simp [fits] at h1
theorem fitsL_alike : ∀ (d e : List PyData) (t : DTy), fitsL d t = true → fitsL e t = true → PySem.W.alikeAll d e = true
  | [], e, t, h1, h2 => by simp [PySem.W.alikeAll]
  | x :: xs, [], t, h1, h2 => by simp [PySem.W.alikeAll]
  | x :: xs, y :: ys, t, h1, h2 => by
    simp only [fitsL, Bool.and_eq_true] at h1 h2
    simp only [PySem.W.alikeAll, Bool.and_eq_true]
    exact ⟨fits_alike x y t h1.1 h2.1, fitsL_alike xs ys t h1.2 h2.2⟩
theorem fitsT_alike : ∀ (d e : List PyData) (t : List DTy), fitsT d t = true → fitsT e t = true → PySem.W.alikeAll d e = true
  | [], e, t, h1, h2 => by simp [PySem.W.alikeAll]
  | x :: xs, [], t, h1, h2 => by simp [PySem.W.alikeAll]
  | x :: xs, y :: ys, [], h1, h2 => by simp [fitsT] at h1
  | x :: xs, y :: ys, t :: ts, h1, h2 => by
    simp only [fitsT, Bool.and_eq_true] at h1 h2
    simp only [PySem.W.alikeAll, Bool.and_eq_true]
    exact ⟨fits_alike x y t h1.1 h2.1, fitsT_alike xs ys ts h1.2 h2.2⟩
end
theorem bf_val {K : PySem.W.Frag} (b : Bf) {vs : List V} {ps : List PV} {p : PV} {Q : VK} {S : SS} (s : Sub Hf H) (st : StAt Z H Hf S) (d : Paired (DenB Z H Hf) vs ps) (e : bfP b ps = some p) (k : KS Z H Hf Q p S) : bfR K b vs H Q := by
  have stz : ∀ a b, Z.st = some (a, b) → ∃ xs, H a = some (.lst xs) := fun a b h => ⟨_, (st.str _ h).1⟩
  unfold bfP at e
  split at e
  · cases e
    obtain _ | ⟨dx, d⟩ := d
    cases d
    obtain ⟨a, xs, rfl, h1, d1⟩ := dx.lst s
    refine .inl ⟨_, _, rfl, .inl ⟨xs, sl_of h1, rfl⟩, ?_⟩
    rw [d1.length]
    exact k.val s st rfl (.int _)
  · cases e
    obtain _ | ⟨dx, d⟩ := d
    cases d
    obtain ⟨a, xs, rfl, h1, d1⟩ := dx.tup
    refine .inl ⟨_, _, rfl, .inr ⟨xs, sq_of (s _ _ h1), rfl⟩, ?_⟩
    rw [d1.length]
    exact k.val s st rfl (.int _)
  · split at e
    · cases e
      rename_i hl
      obtain _ | ⟨dx, d⟩ := d
      cases d
      rw [dx.str]
      exact .inl ⟨_, _, rfl, ⟨big_le hl, rfl⟩, k.val s st rfl (.int _)⟩
    · cases e
  · cases e
    obtain _ | ⟨dx, d⟩ := d
    cases d
    obtain ⟨a, xs, rfl, h1, d1⟩ := dx.dK s
    refine .inr (.inl ⟨_, _, rfl, h1, ?_⟩)
    rw [d1.length]
    exact k.val s st rfl (.int _)
  · cases e
    obtain _ | ⟨dx, d⟩ := d
    cases d
    obtain ⟨a, xs, rfl, h1, d1⟩ := dx.dT s
    refine .inr (.inr ⟨_, _, rfl, h1, ?_⟩)
    rw [d1.length]
    exact k.val s st rfl (.int _)
  · cases e
    obtain _ | ⟨dx, d⟩ := d
    cases d
    rw [dx.int]
    exact ⟨_, rfl, k.val s st rfl (.int _)⟩
  · obtain ⟨bs, e1, e2⟩ := Option.map_eq_some_iff.mp e
    subst e2
    obtain _ | ⟨dx, d⟩ := d
    cases d
    obtain ⟨a, xs, rfl, h1, d1⟩ := dx.lst s
    have e3 := blsOf_V d1 e1
    subst e3
    exact ⟨a, bs, rfl, sl_of h1, k.val s st rfl (.bl _)⟩
  · obtain ⟨bs, e1, e2⟩ := Option.map_eq_some_iff.mp e
    subst e2
    obtain _ | ⟨dx, d⟩ := d
    cases d
    obtain ⟨a, xs, rfl, h1, d1⟩ := dx.lst s
    have e3 := blsOf_V d1 e1
    subst e3
    exact ⟨a, bs, rfl, sl_of h1, k.val s st rfl (.bl _)⟩
  · obtain ⟨qs, e1, e2⟩ := Option.map_eq_some_iff.mp e
    subst e2
    unfold sortL at e1
    obtain ⟨ds, e3, e4⟩ := Option.bind_eq_some_iff.mp e1
    split at e4
    · rename_i hk
      cases e4
      obtain _ | ⟨dx, d⟩ := d
      cases d
      obtain ⟨a, xs, rfl, h1, d1⟩ := dx.lst s
      rw [Bool.and_eq_true] at hk
      have hk1 := hk.1
      unfold sortOk at hk1
      simp only [Bool.and_eq_true] at hk1
      obtain ⟨⟨ka, kb⟩, kc⟩ := hk1
      have l1 := d1.length
      have l2 := toDs_len e3
      have z1 : (xs.zip ds).map (·.1) = xs := List.map_fst_zip (by omega)
      have z2 : (xs.zip ds).map (·.2) = ds := List.map_snd_zip (by omega)
      refine .inl ⟨a, xs.zip ds, rfl, by rw [z1]; exact sl_of h1, ?_, ?_, ?_, ?_, by rw [ins_sort] at k; exact k.newL s st (sort_den d1 e3)⟩
      · rw [z1, z2]
        exact d1.dp s e3
      · rw [z2]
        intro x hx y hy
        rw [Bool.or_eq_true] at ka
        rcases ka with ka | ka
        · obtain ⟨t, _, ht⟩ := List.any_eq_true.mp ka
          exact fits_alike x y t (List.all_eq_true.mp ht x hx) (List.all_eq_true.mp ht y hy)
        · exact List.all_eq_true.mp (List.all_eq_true.mp ka x hx) y hy
      · rw [z2]
        rw [Bool.or_eq_true] at kb
        rcases kb with kb | kb
        · refine .inl fun x hx => ?_
          have h := List.all_eq_true.mp kb x hx
          unfold isTupC at h
          split at h
          · exact ⟨_, _, rfl⟩
          · cases h
        · refine .inr fun x hx => ?_
          have h := List.all_eq_true.mp kb x hx
          refine ⟨fun z => ?_, fun l z => ?_⟩
          · rw [z] at h; cases h
          · rw [z] at h; cases h
      · intro z hz
        have hz2 : z.2 ∈ ds := by
          rw [← z2]
          exact List.mem_map.mpr ⟨z, hz, rfl⟩
        exact of_decide_eq_true (List.all_eq_true.mp kc _ hz2)
    · cases e4
  · obtain ⟨is, e1, e2⟩ := Option.bind_eq_some_iff.mp e
    split at e2
    · rename_i hl
      cases e2
      obtain _ | ⟨dx, d⟩ := d
      cases d
      obtain ⟨a, xs, rfl, h1, d1⟩ := dx.dK s
      refine .inr ⟨a, xs, is, rfl, .inl h1, keyInts_V d1 e1, hl, fun ys q pm pw hq => ?_⟩
      have e3 : ys = is.foldr insI [] := List.Perm.eq_of_pairwise (le := fun a b => a ≤ b) (fun a b _ _ x y => by omega) pw (insI_sort is).2 (pm.trans (insI_sort is).1.symm)
      subst e3
      refine k.newL s st ?_ q hq
      have g : ∀ is : List Int, DenAll Z Hf (is.map V.int) (is.map PV.int) := fun is => by
        induction is with
        | nil => exact .nil
        | cons i is ih => exact .cons (.int _) ih
      exact g _
    · cases e2
  · obtain ⟨is, e1, e2⟩ := Option.bind_eq_some_iff.mp e
    split at e2
    · cases e2
    · cases e2
      rename_i i is'
      obtain _ | ⟨dx, d⟩ := d
      cases d
      obtain ⟨a, xs, rfl, h1, d1⟩ := dx.lst s
      have e3 := intsOf_V d1 e1
      subst e3
      refine ⟨a, _, rfl, sl_of h1, by simp, fun m hm hy => ?_⟩
      obtain ⟨g1, g2⟩ := minI_spec i is'
      have e4 : m = minI i is' := by
        have := hy _ g1
        have := g2 _ hm
        omega
      subst e4
      exact k.val s st rfl (.int _)
  · obtain ⟨is, e1, e2⟩ := Option.bind_eq_some_iff.mp e
    split at e2
    · cases e2
    · cases e2
      rename_i i is'
      obtain _ | ⟨dx, d⟩ := d
      cases d
      obtain ⟨a, xs, rfl, h1, d1⟩ := dx.lst s
      have e3 := intsOf_V d1 e1
      subst e3
      refine ⟨a, _, rfl, sl_of h1, by simp, fun m hm hy => ?_⟩
      obtain ⟨g1, g2⟩ := maxI_spec i is'
      have e4 : m = maxI i is' := by
        have := hy _ g1
        have := g2 _ hm
        omega
      subst e4
      exact k.val s st rfl (.int _)
  · cases e
    obtain _ | ⟨dx, d⟩ := d
    obtain _ | ⟨dy, d⟩ := d
    cases d
    rw [dx.int, dy.int]
    exact ⟨_, _, rfl, k.val s st rfl (.int _)⟩
  · cases e
    obtain _ | ⟨dx, d⟩ := d
    obtain _ | ⟨dy, d⟩ := d
    cases d
    rw [dx.int, dy.int]
    exact ⟨_, _, rfl, k.val s st rfl (.int _)⟩
  · obtain ⟨bs, e1, e2⟩ := Option.map_eq_some_iff.mp e
    subst e2
    obtain _ | ⟨dx, d⟩ := d
    cases d
    obtain ⟨a, xs, rfl, h1, d1⟩ := dx.lst s
    have e3 := intsOf_V d1 e1
    subst e3
    exact ⟨a, bs, rfl, sl_of h1, k.val s st rfl (.int _)⟩
  · cases e
    obtain _ | ⟨dx, d⟩ := d
    cases d
    rw [dx.int]
    exact .inl ⟨_, rfl, k.val s st rfl (.int _)⟩
  · cases e
    obtain _ | ⟨dx, d⟩ := d
    cases d
    rw [dx.bl]
    exact .inr ⟨_, rfl, k.val s st rfl (.int _)⟩
  · cases e
    obtain _ | ⟨dx, d⟩ := d
    cases d
    obtain ⟨a, xs, rfl, h1, d1⟩ := dx.lst s
    exact .inl ⟨a, xs, rfl, .inl (sl_of h1), k.newL s st d1⟩
  · cases e
    obtain _ | ⟨dx, d⟩ := d
    cases d
    obtain ⟨a, xs, rfl, h1, d1⟩ := dx.tup
    exact .inl ⟨a, xs, rfl, .inr (sq_of (s _ _ h1)), k.newL s st d1⟩
  · cases e
    obtain _ | ⟨dx, d⟩ := d
    cases d
    obtain ⟨a, xs, rfl, h1, d1⟩ := dx.dK s
    exact .inr ⟨a, xs, rfl, h1, k.newL s st d1.keyVs⟩
  · cases e
    obtain _ | ⟨dx, d⟩ := d
    cases d
    obtain ⟨a, xs, rfl, h1, d1⟩ := dx.lst s
    exact ⟨a, xs, rfl, .inl ⟨sl_of h1, k.newT s st d1⟩⟩
  · cases e
    obtain _ | ⟨dx, d⟩ := d
    cases d
    have dx' := dx.den rfl
    obtain ⟨a, xs, rfl, h1, d1⟩ := dx.tup
    exact ⟨a, xs, rfl, .inr ⟨sq_of (s _ _ h1), k.val s st rfl dx'⟩⟩
  · obtain ⟨kvs, e1, e2⟩ := Option.map_eq_some_iff.mp e
    subst e2
    obtain _ | ⟨dx, d⟩ := d
    cases d
    obtain ⟨a, xs, rfl, h1, d1⟩ := dx.lst s
    obtain ⟨as, ws, rfl, h2, h3⟩ := pairsOf_V (K := K) s d1 e1
    exact ⟨a, as, ws, rfl, sl_of h1, h2, k.newK s st (h3.merge .nil)⟩
  · obtain ⟨bs, e1, e2⟩ := Option.map_eq_some_iff.mp e
    subst e2
    obtain _ | ⟨dx, d⟩ := d
    obtain _ | ⟨dy, d⟩ := d
    cases d
    unfold isiP at e1
    obtain ⟨n, e3, e4⟩ := Option.bind_eq_some_iff.mp e1
    have hx := tyX_of (K := K) s dx stz e3
    split at e4
    · split at e4
      · rename_i hk
        cases e4
        rw [dy.ty]
        exact .inl ⟨_, _, _, _, _, rfl, .ty _, hx, kit_ty (kitB_of hk), k.val s st rfl (.bl _)⟩
      · cases e4
    · obtain ⟨ns, e5, e6⟩ := Option.map_eq_some_iff.mp e4
      subst e6
      obtain ⟨a, xs, rfl, h1, d1⟩ := dy.tup
      obtain ⟨e7, e8⟩ := tysOf_V d1 e5
      subst e7
      exact .inr ⟨_, a, _, _, _, _, rfl, s _ _ h1, cls_all ns, hx, kitAny_of ns e8, k.val s st rfl (.bl _)⟩
    · cases e4
  · cases e
/-! ### an index, a slice -/
theorem atI_den {vs : List V} {ps : List PV} {i : Int} {p : PV} (d : DenAll Z Hf vs ps) (e : atI ps i = some p) : ∃ v, atI vs i = some v ∧ Den Z Hf v p := by
  unfold atI at e ⊢
  obtain ⟨j, e1, e2⟩ := Option.bind_eq_some_iff.mp e
  obtain ⟨v, h1, h2⟩ := d.get e2
  exact ⟨v, by rw [d.length, e1]; exact h1, h2⟩
/-- a list's or a tuple's item -/
def ixSeq : PV → Bool
  | .lst _ _ => true | .tup _ => true | _ => false
theorem idx_seq {K : PySem.W.Frag} {x y : V} {px py p : PV} {Q : VK} (s : Sub Hf H) (dx : DenB Z H Hf x px) (dy : DenB Z H Hf y py) (hs : ixSeq px = true) (e : idxP px py = some p) (k : ∀ v, Den Z Hf v p → Q v H) : rIx K x y H Q := by
  unfold idxP at e
  simp only [getF_eq] at e
  split at e
  · obtain ⟨a, xs, rfl, h1, d1⟩ := dx.lst s
    obtain ⟨v, h2, h3⟩ := atI_den d1 e
    rw [dy.int]
    exact .inl ⟨a, xs, _, v, rfl, rfl, sl_of h1, h2, k v h3⟩
  · obtain ⟨a, xs, rfl, h1, d1⟩ := dx.tup
    obtain ⟨v, h2, h3⟩ := atI_den d1 e
    rw [dy.int]
    exact .inr (.inl ⟨a, xs, _, v, rfl, rfl, sq_of (s _ _ h1), h2, k v h3⟩)
  · cases hs
  · cases hs
  · cases e
theorem idx_dict {x y : V} {px py p : PV} {Q : VK} (s : Sub Hf H) (dx : DenB Z H Hf x px) (dy : DenB Z H Hf y py) (hs : ixSeq px = false) (e : idxP px py = some p) (k : ∀ v, Den Z Hf v p → Q v H) : ∃ a v, x = .ref a ∧ DGet H a y (some v) ∧ Q v H := by
  unfold idxP at e
  simp only [getF_eq] at e
  split at e
  · cases hs
  · cases hs
  · obtain ⟨kk, e1, e2⟩ := Option.bind_eq_some_iff.mp e
    obtain ⟨a, xs, rfl, h1, d1⟩ := dx.dK s
    obtain ⟨o, h2, _, h3⟩ := dget_K h1 d1 (dy.den (keyK_nm e1)) e1
    obtain ⟨u, rfl, h4⟩ := h3 _ e2
    exact ⟨a, u, rfl, h2, k u h4⟩
  · obtain ⟨kk, e1, e2⟩ := Option.bind_eq_some_iff.mp e
    obtain ⟨a, xs, rfl, h1, d1⟩ := dx.dT s
    obtain ⟨o, h2, _, h3⟩ := dget_T s h1 d1 (dy.den (keyT_nm e1)) e1
    obtain ⟨u, rfl, h4⟩ := h3 _ e2
    exact ⟨a, u, rfl, h2, k u h4⟩
  · cases e
theorem cut_den {vs : List V} {ps : List PV} (lo hi : Option Int) (d : DenAll Z Hf vs ps) : DenAll Z Hf (cutV vs lo hi) (cutP ps lo hi) := by
  unfold cutV cutP
  rw [d.length]
  exact (d.drop _).take _
theorem slice_val {K : PySem.W.Frag} {x : V} {px p : PV} {lo hi : Option Int} {Q : VK} {S : SS} (s : Sub Hf H) (st : StAt Z H Hf S) (dx : DenB Z H Hf x px) (e : sliceP px lo hi = some p) (k : KS Z H Hf Q p S) : rSlL K x lo hi H Q ∨ rSlT K x lo hi H Q := by
  unfold sliceP at e
  split at e
  · cases e
    obtain ⟨a, xs, rfl, h1, d1⟩ := dx.lst s
    exact .inl ⟨a, xs, rfl, sl_of h1, k.newL s st (cut_den lo hi d1)⟩
  · split at e
    · cases e
    · rename_i hn
      cases e
      obtain ⟨a, xs, rfl, h1, d1⟩ := dx.tup
      exact .inr ⟨a, xs, rfl, sq_of (s _ _ h1), by rw [d1.length]; exact hn, k.newT s st (cut_den lo hi d1)⟩
  · cases e
end
end Bb

set_option maxRecDepth 100000
set_option maxHeartbeats 4000000
/-! Expressions: what the pure evaluator gives is what the readings ask. -/
namespace Bb
open L2 PyProof.Rows PySem.Spec PySem

/-- a call's promise: by the pure values -/
def FSound (C : RC) (Z : Zn) (F : Nat → List PV → SS → Rs PV) : Prop := ∀ (f : Nat) (vs : List V) (ps : List PV) (S : SS) (H Hf : Hp) (E : XK) (Q : VK), Sub Hf H → StAt Z H Hf S → DenAll Z Hf vs ps → Gd C Z H Hf E (F f ps S) (KE Z H Hf Q) → C.sp f vs H Q E
def KK (b : Bool) (Z : Zn) (H Hf : Hp) (Q : VK) : PV → SS → Prop := match b with
  | true => KS Z H Hf Q
  | false => KE Z H Hf Q
/-- frozen, or else at least as it is now -/
def Dn (b : Bool) (Z : Zn) (H Hf : Hp) (v : V) (p : PV) : Prop := match b with
  | true => Den Z Hf v p
  | false => DenB Z H Hf v p
def Up (b : Bool) (Z : Zn) (H Hf H' Hf' : Hp) : Prop := match b with
  | true => Sub Hf Hf' ∧ Sub Hf' H'
  | false => Ext Z H Hf H' Hf'
def KD (b : Bool) (Z : Zn) (H Hf : Hp) (Q : VK) : PV → SS → Prop := fun p S => ∀ v H' Hf', Ext Z H Hf H' Hf' → StAt Z H' Hf' S → Dn b Z H' Hf' v p → Q v H'
/-- what an iterator is to give -/
def ItG (b : Bool) (Z : Zn) (H Hf : Hp) (J : It) (items : List PV) : Prop := ∃ (G : Hp → Prop) (Y : Nat → Hp → V → Hp → Prop), Walk J items.length G Y ∧ (∀ H' Hf', Up b Z H Hf H' Hf' → G H') ∧
  ∀ i x p H' Hf' S H2, items[i]? = some p → Up b Z H Hf H' Hf' → Sub Hf' H' → StAt Z H' Hf' S → Y i H' x H2 → ∃ Hf2, Ext Z H' Hf' H2 Hf2 ∧ StAt Z H2 Hf2 S ∧ Den Z Hf2 x p
def KI (b : Bool) (Z : Zn) (H Hf : Hp) (R : It → Hp → Prop) : List PV → SS → Prop := fun items S => ∀ J H' Hf', Ext Z H Hf H' Hf' → StAt Z H' Hf' S → ItG b Z H' Hf' J items → R J H'
def topV : Ex → List Nat
  | .var i => [i]
  | _ => []
def tops : Itx → List Nat
  | .val e => topV e
  | .rng _ => []
  | .enum e => topV e
  | .zip a b => topV a ++ topV b
def noOwn (ρ : Env') (is : List Nat) : Prop := ∀ i ∈ is, ∀ p, ρ[i]? ≠ some (some ⟨true, p⟩)
section
variable {C : RC} {Z : Zn} {H Hf H1 Hf1 H0 Hf0 : Hp} {E : XK} {F : Nat → List PV → SS → Rs PV} {α : Type}
theorem Gd.eq {r : Rs α} {K : α → SS → Prop} (g : Gd C Z H Hf E r K) : Gd C Z H Hf E r (fun a S => r = .ok a S ∧ K a S) := by
  cases r with
  | no => exact g
  | ok a S => exact ⟨rfl, g⟩
  | ex c p S => exact g
theorem KE.kk {b : Bool} {Q : VK} {p : PV} {S : SS} (k : KE Z H Hf Q p S) : KK b Z H Hf Q p S := by
  cases b with
  | true => exact k.toS
  | false => exact k
theorem KK.toS {b : Bool} {Q : VK} {p : PV} {S : SS} (k : KK b Z H Hf Q p S) : KS Z H Hf Q p S := by
  cases b with
  | true => exact k
  | false => exact KE.toS k
theorem Dn.step {b : Bool} {H' Hf' : Hp} {v : V} {p : PV} (d : Dn b Z H Hf v p) (e : Ext Z H Hf H' Hf') : Dn b Z H' Hf' v p := by
  cases b with
  | true => exact Den.mono e.fz d
  | false => exact DenB.step d e
theorem Dn.b {b : Bool} {v : V} {p : PV} (d : Dn b Z H Hf v p) : DenB Z H Hf v p := by
  cases b with
  | true => exact .inl d
  | false => exact d
theorem Up.of {b : Bool} {H' Hf' : Hp} (s : Sub Hf' H') (e : Ext Z H Hf H' Hf') : Up b Z H Hf H' Hf' := by
  cases b with
  | true => exact ⟨e.fz, s⟩
  | false => exact e
theorem Up.fz {b : Bool} {H' Hf' : Hp} (u : Up b Z H Hf H' Hf') : Sub Hf Hf' := by
  cases b with
  | true => exact u.1
  | false => exact Ext.fz u
theorem Up.sub {b : Bool} {H' Hf' : Hp} (u : Up b Z H Hf H' Hf') : Sub Hf' H' := by
  cases b with
  | true => exact u.2
  | false => exact Ext.sub u
theorem Dn.lst {b : Bool} {v : V} {ps : List PV} {c : Bool} (d : Dn b Z H Hf v (.lst c ps)) (s : Sub Hf H) : ∃ a xs, v = .ref a ∧ H a = some (.lst xs) ∧ DenAll Z Hf xs ps ∧ ∀ H' Hf', Up b Z H Hf H' Hf' → H' a = some (.lst xs) := by
  cases b with
  | true =>
    cases d with
    | lst h _ d => exact ⟨_, _, rfl, s _ _ h, d, fun H' Hf' u => u.2 _ _ (u.1 _ _ h)⟩
  | false =>
    rcases d with d | ⟨a, h, n, xs, o, _, d⟩
    · cases d with
      | lst h _ d => exact ⟨_, _, rfl, s _ _ h, d, fun H' Hf' u => Ext.sub u _ _ (Ext.fz u _ _ h)⟩
    · exact ⟨a, xs, h, o, d, fun H' Hf' u => Ext.old u _ _ o n⟩
theorem Dn.tup {b : Bool} {v : V} {ps : List PV} (d : Dn b Z H Hf v (.tup ps)) (s : Sub Hf H) : ∃ a xs, v = .ref a ∧ H a = some (.tup xs) ∧ DenAll Z Hf xs ps ∧ ∀ H' Hf', Up b Z H Hf H' Hf' → H' a = some (.tup xs) := by
  obtain ⟨a, xs, h1, h2, h3⟩ := d.b.tup
  exact ⟨a, xs, h1, s _ _ h2, h3, fun H' Hf' u => u.sub _ _ (u.fz _ _ h2)⟩
theorem brw_ok {b : Bool} {a : Ex} {ρ : Env'} {S : SS} {σ : L2.St} {Q : VK} (R : Rel Z H0 Hf0 ρ S σ H Hf) (hb : b = true → noOwn ρ (topV a)) (hE : ∀ {Q}, Gd C Z H Hf E (evE F a ρ S) (KE Z H Hf Q) → rdE C E a σ H Q)
    (g : Gd C Z H Hf E (brw a ρ S (evE F a ρ S)) (KD b Z H Hf Q)) : rdE C E a σ H Q := by
  have go : Gd C Z H Hf E (evE F a ρ S) (KD b Z H Hf Q) → rdE C E a σ H Q := fun g => hE (g.mono fun p S1 k v H' Hf' e st d => k v H' Hf' e st (by
    cases b with
    | true => exact d
    | false => exact .inl d))
  cases a with
  | var i =>
    obtain ⟨p, e, k⟩ := Gd.ofO (show Gd C Z H Hf E (ofO (look ρ i) S) _ from g)
    cases b with
    | false =>
      obtain ⟨v, h1, h2⟩ := R.look e
      exact ⟨v, h1, k v H Hf (Ext.refl R.sub) R.st h2⟩
    | true =>
      have e2 : lookS ρ i = some p := by
        unfold look at e
        unfold lookS
        split at e
        · rename_i s e3
          cases e
          obtain ⟨o, q⟩ := s
          cases o with
          | false => rw [e3]
          | true => exact absurd e3 (hb rfl i (by simp [topV]) q)
        · cases e
      obtain ⟨v, h1, h2⟩ := R.lookS e2
      exact ⟨v, h1, k v H Hf (Ext.refl R.sub) R.st h2⟩
  | _ => exact go g
/-! ### iterators -/
theorem itg_list {K : PySem.W.Frag} {b : Bool} {a : Addr} {xs : List V} {ps : List PV} (d : DenAll Z Hf xs ps) (h : ∀ H' Hf', Up b Z H Hf H' Hf' → H' a = some (.lst xs)) : ItG b Z H Hf (Itl K a) ps := by
  refine ⟨fun H => SqL K H a xs, YAt xs, ?_, fun H' Hf' u => sl_of (h H' Hf' u), fun i x p H' Hf' S H2 hp u s st y => ?_⟩
  · rw [← d.length]
    exact walk_list
  · obtain ⟨rfl, hx⟩ := y
    obtain ⟨v, h1, h2⟩ := d.get hp
    rw [h1] at hx
    cases hx
    exact ⟨Hf', Ext.refl s, st, h2.mono u.fz⟩
theorem itg_tup {K : PySem.W.Frag} {b : Bool} {a : Addr} {xs : List V} {ps : List PV} (d : DenAll Z Hf xs ps) (h : ∀ H' Hf', Up b Z H Hf H' Hf' → H' a = some (.tup xs)) : ItG b Z H Hf (Itt K a) ps := by
  refine ⟨fun H => SqT K H a xs, YAt xs, ?_, fun H' Hf' u => sq_of (h H' Hf' u), fun i x p H' Hf' S H2 hp u s st y => ?_⟩
  · rw [← d.length]
    exact walk_tup
  · obtain ⟨rfl, hx⟩ := y
    obtain ⟨v, h1, h2⟩ := d.get hp
    rw [h1] at hx
    cases hx
    exact ⟨Hf', Ext.refl s, st, h2.mono u.fz⟩
theorem rngL_len (i j : Int) : (rngL i j).length = (j - i).toNat := by simp [rngL]
theorem itg_rng {b : Bool} {i j : Int} : ItG b Z H Hf (Itr i (j - i).toNat) (rngL i j) := by
  refine ⟨fun _ => True, YFn fun k => .int (i + k), ?_, fun _ _ _ => trivial, fun k x p H' Hf' S H2 hp u s st y => ?_⟩
  · rw [rngL_len]
    exact walk_range
  · obtain ⟨rfl, rfl⟩ := y
    refine ⟨Hf', Ext.refl s, st, ?_⟩
    unfold rngL at hp
    rw [List.getElem?_map] at hp
    obtain ⟨m, h1, h2⟩ := Option.map_eq_some_iff.mp hp
    rw [List.getElem?_range (by
      have := (List.getElem?_eq_some_iff.mp h1).1
      simpa using this)] at h1
    cases h1
    subst h2
    exact .int _
theorem enum_get : ∀ {xs : List PV} {k i : Nat} {p : PV}, (enumL k xs)[i]? = some p → ∃ q, xs[i]? = some q ∧ p = .tup [.int ((k + i : Nat) : Int), q]
  | [], k, i, p, h => by simp [enumL] at h
  | x :: xs, k, 0, p, h => by
    simp only [enumL, List.getElem?_cons_zero, Option.some.injEq] at h
    exact ⟨x, rfl, by rw [← h]; simp⟩
  | x :: xs, k, i + 1, p, h => by
    simp only [enumL, List.getElem?_cons_succ] at h ⊢
    obtain ⟨q, h1, h2⟩ := enum_get h
    exact ⟨q, h1, by rw [h2]; simp only [PV.tup.injEq, List.cons.injEq, PV.int.injEq, and_true]; omega⟩
theorem enum_len : ∀ (k : Nat) (xs : List PV), (enumL k xs).length = xs.length
  | _, [] => rfl
  | k, x :: xs => by simp [enumL, enum_len]
theorem itg_enum {K : PySem.W.Frag} {b : Bool} {a : Addr} {xs : List V} {ps : List PV} (d : DenAll Z Hf xs ps) (h : ∀ H' Hf', Up b Z H Hf H' Hf' → H' a = some (.lst xs)) : ItG b Z H Hf (Ite K a) (enumL 0 ps) := by
  refine ⟨fun H => SqL K H a xs, YPair (fun i => some (.int (i : Nat))) (fun i => xs[i]?), ?_, fun H' Hf' u => sl_of (h H' Hf' u), fun i x p H' Hf' S H2 hp u s st y => ?_⟩
  · rw [enum_len, ← d.length]
    exact walk_enum
  · obtain ⟨T, x1, x2, rfl, hT, rfl, h1, h2⟩ := y
    obtain ⟨q, h3, rfl⟩ := enum_get hp
    obtain ⟨v, h4, h5⟩ := d.get h3
    have h2 : xs[i]? = some x2 := h2
    rw [h4] at h2
    cases h1
    cases h2
    refine ⟨upd Hf' T (.tup [.int (i : Nat), x2]), Ext.newF s hT, st.newF hT, .tup upd_same (.cons ?_ (.cons ((h5.mono u.fz).mono (sub_upd (s.none hT))) .nil))⟩
    simp only [Nat.zero_add]
    exact .int _
theorem zip_get : ∀ {xs ys : List PV} {i : Nat} {p : PV}, (zipL xs ys)[i]? = some p → ∃ q r, xs[i]? = some q ∧ ys[i]? = some r ∧ p = .tup [q, r]
  | [], _, i, p, h => by simp [zipL] at h
  | _ :: _, [], i, p, h => by simp [zipL] at h
  | x :: xs, y :: ys, 0, p, h => by
    simp only [zipL, List.getElem?_cons_zero, Option.some.injEq] at h
    exact ⟨x, y, rfl, rfl, h.symm⟩
  | x :: xs, y :: ys, i + 1, p, h => by
    simp only [zipL, List.getElem?_cons_succ] at h ⊢
    exact zip_get h
theorem zip_len : ∀ (xs ys : List PV), (zipL xs ys).length = min xs.length ys.length
  | [], _ => by simp [zipL]
  | _ :: _, [] => by simp [zipL]
  | x :: xs, y :: ys => by simp only [zipL, List.length_cons, zip_len]; omega
theorem yld_pair {i : Nat} {x : V} {p : PV} {H' Hf' : Hp} {S : SS} {H2 : Hp} {xs ys : List V} {ps qs : List PV} (d : DenAll Z Hf xs ps) (d2 : DenAll Z Hf ys qs) (hp : (zipL ps qs)[i]? = some p) (u : Sub Hf Hf') (s : Sub Hf' H') (st : StAt Z H' Hf' S) (y : YPair (fun i => xs[i]?) (fun i => ys[i]?) i H' x H2) :
    ∃ Hf2, Ext Z H' Hf' H2 Hf2 ∧ StAt Z H2 Hf2 S ∧ Den Z Hf2 x p := by
  obtain ⟨T, x1, x2, rfl, hT, rfl, h1, h2⟩ := y
  obtain ⟨q, r, h3, h4, rfl⟩ := zip_get hp
  obtain ⟨v, h5, h6⟩ := d.get h3
  obtain ⟨w, h7, h8⟩ := d2.get h4
  have h1 : xs[i]? = some x1 := h1
  have h2 : ys[i]? = some x2 := h2
  rw [h5] at h1
  rw [h7] at h2
  cases h1
  cases h2
  have m := sub_upd (o := .tup [x1, x2]) (s.none hT)
  exact ⟨upd Hf' T (.tup [x1, x2]), Ext.newF s hT, st.newF hT, .tup upd_same (.cons ((h6.mono u).mono m) (.cons ((h8.mono u).mono m) .nil))⟩
theorem itg_zip {K : PySem.W.Frag} {b : Bool} {a a2 : Addr} {xs ys : List V} {ps qs : List PV} (d : DenAll Z Hf xs ps) (d2 : DenAll Z Hf ys qs) (h : ∀ H' Hf', Up b Z H Hf H' Hf' → H' a = some (.lst xs)) (h2 : ∀ H' Hf', Up b Z H Hf H' Hf' → H' a2 = some (.lst ys)) : ItG b Z H Hf (Itz K a a2) (zipL ps qs) :=
  ⟨_, _, walk_zip (xs := xs) (ys := ys) (by rw [zip_len, d.length, d2.length]), fun H' Hf' u => ⟨sl_of (h H' Hf' u), sl_of (h2 H' Hf' u)⟩, fun i x p H' Hf' S H2 hp u s st y => yld_pair d d2 hp u.fz s st y⟩
theorem walk_zipT {K : PySem.W.Frag} {a b : Addr} {xs ys : List V} {n : Nat} (hn : n = min xs.length ys.length) : Walk (RZ.ItzT K a b) n (fun H => SqT K H a xs ∧ SqT K H b ys) (YPair (fun i => xs[i]?) (fun i => ys[i]?)) := by
  subst hn
  refine ⟨fun i _ hi q => ?_, fun _ q => ⟨xs, ys, q.1, q.2, by omega⟩, fun i H v H' _ q y => ?_⟩
  · have h1 : i < xs.length := by omega
    have h2 : i < ys.length := by omega
    exact ⟨xs, ys, xs[i], ys[i], q.1, q.2, by simp [h1], by simp [h2]⟩
  · obtain ⟨T, x, z, h1, h2, h3, h4, h5⟩ := y
    exact ⟨T, x, z, h1, h2, h3, h4 xs q.1, h5 ys q.2⟩
theorem itg_zipT {K : PySem.W.Frag} {b : Bool} {a a2 : Addr} {xs ys : List V} {ps qs : List PV} (d : DenAll Z Hf xs ps) (d2 : DenAll Z Hf ys qs) (h : ∀ H' Hf', Up b Z H Hf H' Hf' → H' a = some (.tup xs)) (h2 : ∀ H' Hf', Up b Z H Hf H' Hf' → H' a2 = some (.tup ys)) : ItG b Z H Hf (RZ.ItzT K a a2) (zipL ps qs) :=
  ⟨_, _, walk_zipT (xs := xs) (ys := ys) (by rw [zip_len, d.length, d2.length]), fun H' Hf' u => ⟨sq_of (h H' Hf' u), sq_of (h2 H' Hf' u)⟩, fun i x p H' Hf' S H2 hp u s st y => yld_pair d d2 hp u.fz s st y⟩
/-! ### targets, wiped slots -/
theorem wipe_get {σ : L2.St} : ∀ {vs : List Nat} {i : Nat}, i ∉ vs → (wipe σ vs)[i]? = σ[i]?
  | [], i, _ => rfl
  | v :: vs, i, h => by
    unfold wipe
    rw [List.getElem?_set_ne (fun e => h (by simp [e]))]
    exact wipe_get fun q => h (by simp [q])
theorem wipe_set' {σ : L2.St} {i : Nat} {x : Option V} : ∀ {vs : List Nat}, i ∈ vs → L2.wipe (σ.set i x) vs = L2.wipe σ vs := by
  intro vs h
  apply List.ext_getElem?
  intro j
  have key : ∀ (vs : List Nat) (σ : L2.St) (j : Nat), j ∈ vs → (L2.wipe σ vs)[j]? = if j < σ.length then some none else none := by
    intro vs
    induction vs with
    | nil => intro σ j h; cases h
    | cons v vs ih =>
      intro σ j h
      unfold L2.wipe
      by_cases e : v = j
      · subst e
        rw [List.getElem?_set, if_pos rfl, wipe_length]
      · rw [List.getElem?_set_ne e]
        exact ih σ j ((List.mem_cons.mp h).resolve_left fun z => e z.symm)
  by_cases hj : j ∈ vs
  · rw [key vs _ j hj, key vs _ j hj, List.length_set]
  · rw [wipe_get hj, wipe_get hj, List.getElem?_set_ne (fun e : i = j => hj (by rw [← e]; exact h))]
theorem wipe_wipe' {σ : L2.St} : ∀ {vs : List Nat}, L2.wipe (L2.wipe σ vs) vs = L2.wipe σ vs := by
  have go : ∀ (ws vs : List Nat) (σ : L2.St), (∀ i ∈ ws, i ∈ vs) → L2.wipe (L2.wipe σ ws) vs = L2.wipe σ vs := by
    intro ws
    induction ws with
    | nil => intro vs σ _; rfl
    | cons w ws ih =>
      intro vs σ h
      show L2.wipe ((L2.wipe σ ws).set w none) vs = _
      rw [wipe_set' (h w (by simp))]
      exact ih vs σ fun i hi => h i (by simp [hi])
  exact fun {vs} => go vs vs σ fun _ h => h
theorem wipeP_len {ρ : Env'} : ∀ vs : List Nat, (wipeP ρ vs).length = ρ.length
  | [] => rfl
  | v :: vs => by unfold wipeP; rw [List.length_set, wipeP_len vs]
theorem wipeP_some {ρ : Env'} : ∀ {vs : List Nat} {i : Nat} {s : Sl}, (wipeP ρ vs)[i]? = some (some s) → ρ[i]? = some (some s) ∧ i ∉ vs
  | [], i, s, h => ⟨h, by simp⟩
  | v :: vs, i, s, h => by
    unfold wipeP at h
    by_cases e : v = i
    · subst e
      rw [List.getElem?_set] at h
      simp only [if_true] at h
      split at h
      · cases h
      · cases h
    · rw [List.getElem?_set_ne e] at h
      obtain ⟨h1, h2⟩ := wipeP_some h
      exact ⟨h1, fun q => (List.mem_cons.mp q).elim (fun z => e z.symm) h2⟩
theorem Rel.wipe {ρ : Env'} {S : SS} {σ : L2.St} (R : Rel Z H0 Hf0 ρ S σ H Hf) (vs : List Nat) : Rel Z H0 Hf0 (wipeP ρ vs) S (L2.wipe σ vs) H Hf where
  ext := R.ext
  st := R.st
  len := by rw [wipe_length, wipeP_len, R.len]
  sl := fun i s h => by
    obtain ⟨h1, h2⟩ := wipeP_some h
    rw [wipe_get h2]
    exact R.sl i s h1
  apart := fun i j p q a n h1 h2 => by
    obtain ⟨h3, h4⟩ := wipeP_some h1
    obtain ⟨h5, h6⟩ := wipeP_some h2
    rw [wipe_get h4, wipe_get h6]
    exact R.apart i j p q a n h3 h5
theorem set_some {α : Type} {ρ : List (Option α)} {i j : Nat} {x s : α} (h : (ρ.set i (some x))[j]? = some (some s)) : (i = j ∧ s = x ∧ i < ρ.length) ∨ (i ≠ j ∧ ρ[j]? = some (some s)) := by
  by_cases e : i = j
  · subst e
    rw [List.getElem?_set] at h
    simp only [if_true] at h
    split at h
    · rename_i q
      cases h
      exact .inl ⟨rfl, rfl, q⟩
    · cases h
  · rw [List.getElem?_set_ne e] at h
    exact .inr ⟨e, h⟩
theorem Rel.putS {ρ : Env'} {S : SS} {σ : L2.St} (R : Rel Z H0 Hf0 ρ S σ H Hf) {v : V} {p : PV} (d : Den Z Hf v p) (i : Nat) : Rel Z H0 Hf0 (Bb.putS ρ i p) S (σ.set i (some v)) H Hf where
  ext := R.ext
  st := R.st
  len := by unfold Bb.putS; rw [List.length_set, List.length_set, R.len]
  sl := fun j s h => by
    rcases set_some h with ⟨rfl, rfl, hl⟩ | ⟨hn, h⟩
    · exact ⟨v, by rw [List.getElem?_set, if_pos rfl, if_pos (by rw [R.len]; exact hl)], d⟩
    · rw [List.getElem?_set_ne hn]
      exact R.sl j s h
  apart := fun j k p q a n h1 h2 => by
    rcases set_some h1 with ⟨rfl, e, hl⟩ | ⟨hn, h1⟩
    · cases e
    · rcases set_some h2 with ⟨rfl, e, hl⟩ | ⟨hn2, h2⟩
      · cases e
      · rw [List.getElem?_set_ne hn, List.getElem?_set_ne hn2]
        exact R.apart j k p q a n h1 h2
theorem Rel.setAll {S : SS} : ∀ {is : List Nat} {vs : List V} {ps : List PV} {ρ : Env'} {σ : L2.St} {Q : L2.St → Hp → Prop}, Rel Z H0 Hf0 ρ S σ H Hf → DenAll Z Hf vs ps → ps.length = is.length → (∀ σ', Rel Z H0 Hf0 (setAll is ps ρ) S σ' H Hf → (∀ vs : List Nat, (∀ i ∈ is, i ∈ vs) → L2.wipe σ' vs = L2.wipe σ vs) → Q σ' H) → rdNs is vs σ H Q
  | [], [], [], ρ, σ, Q, R, _, _, k => ⟨rfl, k σ R fun _ _ => rfl⟩
  | [], _, _ :: _, _, _, _, _, _, h, _ => by simp at h
  | _ :: _, _, [], _, _, _, _, _, h, _ => by simp at h
  | [], _ :: _, [], _, _, _, _, d, _, _ => by cases d
  | i :: is, [], p :: ps, _, _, _, _, d, _, _ => by cases d
  | i :: is, v :: vs, p :: ps, ρ, σ, Q, R, d, h, k => by
    obtain _ | ⟨d1, d2⟩ := d
    refine ⟨v, vs, rfl, Rel.setAll (R.putS d1 i) d2 (by simpa using h) fun σ' R' w => k σ' R' fun ws hw => ?_⟩
    rw [w ws fun j hj => hw j (by simp [hj])]
    exact wipe_set' (hw i (by simp))
theorem Rel.bind {K : PySem.W.Frag} {tg : Tg} {ρ ρ2 : Env'} {S : SS} {σ : L2.St} {v : V} {p : PV} {Q : L2.St → Hp → Prop} (R : Rel Z H0 Hf0 ρ S σ H Hf) (d : Den Z Hf v p) (e : bindTg tg p ρ = some ρ2)
    (k : ∀ σ2, Rel Z H0 Hf0 ρ2 S σ2 H Hf → (∀ vs : List Nat, tgIn tg vs = true → L2.wipe σ2 vs = L2.wipe σ vs) → Q σ2 H) : rdTg K tg v σ H Q := by
  cases tg with
  | nm i =>
    have e : some (Bb.putS ρ i p) = some ρ2 := by
      unfold bindTg at e
      exact e
    cases e
    exact k _ (R.putS d i) fun vs h => wipe_set' (by simpa [tgIn] using h)
  | tp is =>
    unfold bindTg at e
    split at e
    · rename_i q; cases q
    · rename_i is' ps q
      cases q
      split at e
      · rename_i hl
        cases e
        obtain ⟨a, xs, rfl, h1, d1⟩ := d.tupI
        refine ⟨a, xs, rfl, sq_of (R.sub _ _ h1), by rw [d1.length]; exact hl, Rel.setAll R d1 hl fun σ' R' w => k σ' R' fun vs h => w vs fun i hi => ?_⟩
        have h2 := List.all_eq_true.mp h i hi
        simpa using h2
      · cases e
    · cases e
theorem compL_bind {f : PV → SS → Rs (Option PV)} {p : PV} {ps : List PV} {S : SS} {K : List PV → SS → Prop} (g : Gd C Z H Hf E (compL f (p :: ps) S) K) : Gd C Z H Hf E (f p S) (fun o S1 => Gd C Z H Hf E (compL f ps S1) (fun qs S2 => K (match o with | none => qs | some q => q :: qs) S2)) := by
  have g1 : Gd C Z H Hf E ((f p S).bind fun o S1 => (compL f ps S1).bind fun qs S2 => .ok (match o with | none => qs | some q => q :: qs) S2) K := g
  exact g1.bind.mono fun o S1 g2 => g2.bind
/-! ### the theorem -/
theorem drop_at {α : Type} {xs : List α} {i : Nat} (h : i < xs.length) : xs.drop i = xs[i] :: xs.drop (i + 1) := List.drop_eq_getElem_cons h
theorem evEs_len : ∀ {es : Exs} {ρ : Env'} {S S' : SS} {ps : List PV}, evEs F es ρ S = .ok ps S' → ps.length = exsLen es
  | .nil, ρ, S, S', ps, h => by
    simp only [evEs] at h
    cases h
    rfl
  | .cons e es, ρ, S, S', ps, h => by
    simp only [evEs] at h
    cases h1 : evE F e ρ S with
    | no => rw [h1] at h; cases h
    | ex c p S1 => rw [h1] at h; cases h
    | ok x S1 =>
      rw [h1, Rs.bind_ok] at h
      cases h2 : evEs F es ρ S1 with
      | no => rw [h2] at h; cases h
      | ex c p S1 => rw [h2] at h; cases h
      | ok xs S2 =>
        rw [h2, Rs.bind_ok] at h
        cases h
        rw [List.length_cons, evEs_len h2]
        rfl
theorem KS.lst {b : Bool} {Q : VK} {ps : List PV} {S : SS} {H' Hf' : Hp} {D : Addr} {acc : List V} (k : KK b Z H Hf Q (.lst true ps) S) (e : Ext Z H Hf H' Hf') (st : StAt Z H' Hf' S) (hn : H D = none) (hf : Hf' D = none) (nz : ¬ InZ Z D) (no : ¬ Z.old D) (h : H' D = some (.lst acc)) (d : DenAll Z Hf' acc ps) : Q (.ref D) H' :=
  k.toS _ _ _ e st (by unfold SDen; rw [if_pos (show mutb _ = true from rfl)]; exact ⟨D, rfl, hn, hf, nz, acc, h, ⟨rfl, no⟩, d⟩)
theorem isN_val {v : V} {p : PV} (d : DenB Z H Hf v p) : decide (v = .non) = isNonP p := by
  rcases d with d | ⟨a, rfl, n, o⟩
  · cases d <;> first | rfl | simp [isNonP]
  · cases p <;> first | (exact o.elim) | simp [isNonP]
theorem rng_den {vs : List V} {ps : List PV} {i j : Int} (d : DenAll Z Hf vs ps) (e : rngP ps = some (i, j)) : rngArgs vs = some (i, j) := by
  unfold rngP at e
  split at e
  · cases e
    obtain _ | ⟨d1, d⟩ := d
    cases d
    cases d1
    rfl
  · cases e
    obtain _ | ⟨d1, d⟩ := d
    obtain _ | ⟨d2, d⟩ := d
    cases d
    cases d1
    cases d2
    rfl
  · cases e
theorem rng_one {vs : List V} {ps : List PV} {i j : Int} (d : DenAll Z Hf vs ps) (hn : ps.length = 1) (e : rngP ps = some (i, j)) : i = 0 ∧ vs = [.int j] := by
  unfold rngP at e
  split at e
  · cases e
    obtain _ | ⟨d1, d⟩ := d
    cases d
    cases d1
    exact ⟨rfl, rfl⟩
  · simp at hn
  · cases e
theorem rng_two {vs : List V} {ps : List PV} {i j : Int} (d : DenAll Z Hf vs ps) (hn : ps.length ≠ 1) (e : rngP ps = some (i, j)) : vs = [.int i, .int j] := by
  unfold rngP at e
  split at e
  · simp at hn
  · cases e
    obtain _ | ⟨d1, d⟩ := d
    obtain _ | ⟨d2, d⟩ := d
    cases d
    cases d1
    cases d2
    rfl
  · cases e
theorem rngOk_of {i j : Int} (h : rngOk i j = true) : RgOk i j := by
  unfold rngOk at h
  simp only [Bool.and_eq_true, decide_eq_true_eq] at h
  refine ⟨?_, ?_, ?_, ?_, ?_⟩ <;> omega
theorem DenAll.rev : ∀ {vs : List V} {ps : List PV}, DenAll Z Hf vs ps → DenAll Z Hf vs.reverse ps.reverse
  | _, _, .nil => .nil
  | _, _, .cons h t => by
    rw [List.reverse_cons, List.reverse_cons]
    exact (DenAll.rev t).append (.cons h .nil)
theorem rng_all (i j : Int) : DenAll Z Hf (rgV i j) (rngL i j) := by
  unfold rgV rngL
  induction List.range (j - i).toNat with
  | nil => exact .nil
  | cons k ks ih => exact .cons (.int _) ih
theorem idx_ok {a i : Ex} {ρ : Env'} {S : SS} {σ : L2.St} {Q : VK} (R : Rel Z H0 Hf0 ρ S σ H Hf) (ha : ∀ {Q}, Gd C Z H Hf E (evE F a ρ S) (KE Z H Hf Q) → rdE C E a σ H Q)
    (hi : ∀ {S1 H1 Hf1 Q}, Rel Z H0 Hf0 ρ S1 σ H1 Hf1 → Gd C Z H1 Hf1 E (evE F i ρ S1) (KE Z H1 Hf1 Q) → rdE C E i σ H1 Q)
    (g : Gd C Z H Hf E ((brw a ρ S (evE F a ρ S)).bind fun x S1 => (brw i ρ S1 (evE F i ρ S1)).bind fun y S2 => ofO (idxP x y) S2) (KE Z H Hf Q)) : tOp (rIx C.K) (rdE C E a) (rdE C E i) σ H Q ∨ tDGet (rdE C E a) (rdE C E i) σ H Q := by
  have hb : ∃ b : Bool, ∀ px S1, brw a ρ S (evE F a ρ S) = .ok px S1 → ixSeq px = b := by
    cases brw a ρ S (evE F a ρ S) with
    | ok px S1 => exact ⟨ixSeq px, fun _ _ e => by cases e; rfl⟩
    | no => exact ⟨true, nofun⟩
    | ex c p S1 => exact ⟨true, nofun⟩
  obtain ⟨b, hb⟩ := hb
  cases b with
  | true =>
    refine .inl (brw_ok (b := false) R nofun ha (g.bind.eq.mono fun px S1 g1 x H1 Hf1 e1 st1 dx => ?_))
    obtain ⟨g0, g1⟩ := g1
    have R1 := R.step e1 st1
    refine brw_ok (b := false) R1 nofun (hi R1) ((g1.step e1).bind.mono fun py S2 g2 y H2 Hf2 e2 st2 dy => ?_)
    obtain ⟨p, h1, k⟩ := g2.ofO
    exact idx_seq (R1.step e2 st2).sub (DenB.step dx e2) dy (hb _ _ g0) h1 fun v dv => k v H2 Hf2 (e1.trans e2) st2 dv
  | false =>
    refine .inr (brw_ok (b := false) R nofun ha (g.bind.eq.mono fun px S1 g1 x H1 Hf1 e1 st1 dx => ?_))
    obtain ⟨g0, g1⟩ := g1
    have R1 := R.step e1 st1
    refine brw_ok (b := false) R1 nofun (hi R1) ((g1.step e1).bind.mono fun py S2 g2 y H2 Hf2 e2 st2 dy => ?_)
    obtain ⟨p, h1, k⟩ := g2.ofO
    exact idx_dict (R1.step e2 st2).sub (DenB.step dx e2) dy (hb _ _ g0) h1 fun v dv => k v H2 Hf2 (e1.trans e2) st2 dv
def isL : PV → Bool
  | .lst _ _ => true | _ => false
theorem val_ok {b : Bool} {e : Ex} {ρ : Env'} {S : SS} {σ : L2.St} {R' : It → Hp → Prop} (R : Rel Z H0 Hf0 ρ S σ H Hf) (hn : b = true → noOwn ρ (topV e)) (ha : ∀ {Q}, Gd C Z H Hf E (evE F e ρ S) (KE Z H Hf Q) → rdE C E e σ H Q)
    (g : Gd C Z H Hf E ((brw e ρ S (evE F e ρ S)).bind fun x S1 => ofO (itemsOf x) S1) (KI b Z H Hf R')) : rdI C E (.val e) σ H R' := by
  have hb : ∃ q : Bool, ∀ px S1, brw e ρ S (evE F e ρ S) = .ok px S1 → isL px = q := by
    cases brw e ρ S (evE F e ρ S) with
    | ok px S1 => exact ⟨isL px, fun _ _ e => by cases e; rfl⟩
    | no => exact ⟨true, nofun⟩
    | ex c p S1 => exact ⟨true, nofun⟩
  obtain ⟨q, hb⟩ := hb
  simp only [rdI]
  cases q with
  | true =>
    refine .inl (brw_ok (b := b) R hn ha (g.bind.eq.mono fun px S1 g1 x H1 Hf1 e1 st1 dx => ?_))
    obtain ⟨g0, g1⟩ := g1
    obtain ⟨items, h1, k⟩ := g1.ofO
    have hq := hb _ _ g0
    cases px <;> first | (cases hq; done) | skip
    cases h1
    obtain ⟨a, xs, rfl, h2, d1, hu⟩ := dx.lst (R.step e1 st1).sub
    exact ⟨a, rfl, ⟨xs, sl_of h2⟩, k _ H1 Hf1 e1 st1 (itg_list d1 hu)⟩
  | false =>
    refine .inr (brw_ok (b := b) R hn ha (g.bind.eq.mono fun px S1 g1 x H1 Hf1 e1 st1 dx => ?_))
    obtain ⟨g0, g1⟩ := g1
    obtain ⟨items, h1, k⟩ := g1.ofO
    have hq := hb _ _ g0
    unfold itemsOf at h1
    split at h1
    · cases hq
    · cases h1
      obtain ⟨a, xs, rfl, h2, d1, hu⟩ := dx.tup (R.step e1 st1).sub
      exact ⟨a, rfl, ⟨xs, sq_of h2⟩, k _ H1 Hf1 e1 st1 (itg_tup d1 hu)⟩
    · cases h1
mutual
theorem soundE (hF : FSound C Z F) : ∀ (e : Ex) {ρ : Env'} {S : SS} {σ : L2.St} {H Hf H0 Hf0 : Hp} {E : XK} {Q : VK}, Rel Z H0 Hf0 ρ S σ H Hf → Gd C Z H Hf E (evE F e ρ S) (KK (fresh e) Z H Hf Q) → rdE C E e σ H Q
  | .var i, ρ, S, σ, H, Hf, _, _, E, Q, R, g => by
    simp only [evE] at g
    obtain ⟨p, e, k⟩ := g.ofO
    obtain ⟨v, h1, h2⟩ := R.lookS e
    exact ⟨v, h1, k v H Hf (Ext.refl R.sub) R.st h2⟩
  | .non, ρ, S, σ, H, Hf, _, _, E, Q, R, g => by
    simp only [evE] at g
    exact KS.val (KK.toS (b := fresh .non) g) R.sub R.st rfl .non
  | .bl b, ρ, S, σ, H, Hf, _, _, E, Q, R, g => by
    simp only [evE] at g
    exact KS.val (KK.toS (b := fresh (.bl b)) g) R.sub R.st rfl (.bl _)
  | .int b, ρ, S, σ, H, Hf, _, _, E, Q, R, g => by
    simp only [evE] at g
    exact KS.val (KK.toS (b := fresh (.int b)) g) R.sub R.st rfl (.int _)
  | .str b, ρ, S, σ, H, Hf, _, _, E, Q, R, g => by
    simp only [evE] at g
    exact KS.val (KK.toS (b := fresh (.str b)) g) R.sub R.st rfl (.str _)
  | .ty b, ρ, S, σ, H, Hf, _, _, E, Q, R, g => by
    simp only [evE] at g
    exact KS.val (KK.toS (b := fresh (.ty b)) g) R.sub R.st rfl (.ty _)
  | .bin o a b, ρ, S, σ, H, Hf, _, _, E, Q, R, g => by
    simp only [evE] at g
    simp only [rdE]
    refine brw_ok (F := F) (a := a) (b := false) R nofun (fun g => soundE hF a R (g.mono fun _ _ k => k.kk)) (g.bind.mono fun px S1 g1 x H1 Hf1 e1 st1 dx => ?_)
    have R1 := R.step e1 st1
    refine brw_ok (F := F) (a := b) (b := false) R1 nofun (fun g => soundE hF b R1 (g.mono fun _ _ k => k.kk)) ((g1.step e1).bind.mono fun py S2 g2 y H2 Hf2 e2 st2 dy => ?_)
    obtain ⟨p, h1, k⟩ := g2.ofO
    exact bin_val o (R1.step e2 st2).sub st2 (DenB.step dx e2) dy h1 ((KK.toS k).step (e1.trans e2))
  | .neg a, ρ, S, σ, H, Hf, _, _, E, Q, R, g => by
    simp only [evE] at g
    simp only [rdE]
    refine brw_ok (F := F) (a := a) (b := false) R nofun (fun g => soundE hF a R (g.mono fun _ _ k => k.kk)) (g.bind.mono fun px S1 g1 x H1 Hf1 e1 st1 dx => ?_)
    obtain ⟨p, h1, k⟩ := g1.ofO
    unfold negP at h1
    split at h1
    · cases h1
      rw [DenB.int dx]
      exact ⟨_, rfl, ((KK.toS k).step e1).val (R.step e1 st1).sub st1 rfl (.int _)⟩
    · cases h1
  | .not a, ρ, S, σ, H, Hf, _, _, E, Q, R, g => by
    simp only [evE] at g
    simp only [rdE]
    refine soundE hF a R ((g.bind.mono fun px S1 g1 x H1 Hf1 e1 st1 dx => ?_ : Gd C Z H Hf E _ (KE Z H Hf _)).mono fun _ _ k => k.kk)
    obtain ⟨p, h1, k⟩ := g1.ofO
    obtain ⟨c, h2, h3⟩ := Option.map_eq_some_iff.mp h1
    subst h3
    cases px <;> first | (cases h2; done) | skip
    cases h2
    cases dx
    exact ⟨_, rfl, ((KK.toS k).step e1).val (R.step e1 st1).sub st1 rfl (.bl _)⟩
  | .and a b, ρ, S, σ, H, Hf, _, _, E, Q, R, g => by
    simp only [evE] at g
    simp only [rdE]
    refine soundE hF a R ((g.bind.mono fun px S1 g1 x H1 Hf1 e1 st1 dx => ?_ : Gd C Z H Hf E _ (KE Z H Hf _)).mono fun _ _ k => k.kk)
    obtain ⟨c, h2, k⟩ := g1.bind.ofO
    cases px <;> first | (cases h2; done) | skip
    cases h2
    cases dx
    refine ⟨_, rfl, ?_⟩
    cases c with
    | true => exact soundE hF b (R.step e1 st1) ((k.step e1).mono fun _ _ k => (KE.step k e1).kk)
    | false => exact ((KK.toS (b := false) k).step e1).val (R.step e1 st1).sub st1 rfl (.bl _)
  | .or a b, ρ, S, σ, H, Hf, _, _, E, Q, R, g => by
    simp only [evE] at g
    simp only [rdE]
    refine soundE hF a R ((g.bind.mono fun px S1 g1 x H1 Hf1 e1 st1 dx => ?_ : Gd C Z H Hf E _ (KE Z H Hf _)).mono fun _ _ k => k.kk)
    obtain ⟨c, h2, k⟩ := g1.bind.ofO
    cases px <;> first | (cases h2; done) | skip
    cases h2
    cases dx
    refine ⟨_, rfl, ?_⟩
    cases c with
    | false => exact soundE hF b (R.step e1 st1) ((k.step e1).mono fun _ _ k => (KE.step k e1).kk)
    | true => exact ((KK.toS (b := false) k).step e1).val (R.step e1 st1).sub st1 rfl (.bl _)
  | .cmp o a b, ρ, S, σ, H, Hf, _, _, E, Q, R, g => by
    simp only [evE] at g
    simp only [rdE]
    refine brw_ok (F := F) (a := a) (b := false) R nofun (fun g => soundE hF a R (g.mono fun _ _ k => k.kk)) (g.bind.mono fun px S1 g1 x H1 Hf1 e1 st1 dx => ?_)
    have R1 := R.step e1 st1
    refine brw_ok (F := F) (a := b) (b := false) R1 nofun (fun g => soundE hF b R1 (g.mono fun _ _ k => k.kk)) ((g1.step e1).bind.mono fun py S2 g2 y H2 Hf2 e2 st2 dy => ?_)
    obtain ⟨p, h1, k⟩ := g2.ofO
    obtain ⟨c, h2, h3⟩ := Option.map_eq_some_iff.mp h1
    subst h3
    have R2 := R1.step e2 st2
    exact cmp_val o R2.sub (DenB.step dx e2) dy h2 (((KK.toS k).step (e1.trans e2)).val R2.sub st2 rfl (.bl _))
  | .isN a, ρ, S, σ, H, Hf, _, _, E, Q, R, g => by
    simp only [evE] at g
    simp only [rdE]
    refine brw_ok (F := F) (a := a) (b := false) R nofun (fun g => soundE hF a R (g.mono fun _ _ k => k.kk)) (g.bind.mono fun px S1 g1 x H1 Hf1 e1 st1 dx => ?_)
    have e : decide (x = .non) = isNonP px := isN_val dx
    show Q (.bl (decide (x = .non))) H1
    rw [e]
    exact ((KK.toS (b := false) g1).step e1).val (R.step e1 st1).sub st1 rfl (.bl _)
  | .notN a, ρ, S, σ, H, Hf, _, _, E, Q, R, g => by
    simp only [evE] at g
    simp only [rdE]
    refine brw_ok (F := F) (a := a) (b := false) R nofun (fun g => soundE hF a R (g.mono fun _ _ k => k.kk)) (g.bind.mono fun px S1 g1 x H1 Hf1 e1 st1 dx => ?_)
    have e : decide (x = .non) = isNonP px := isN_val dx
    show Q (.bl (!decide (x = .non))) H1
    rw [e]
    exact ((KK.toS (b := false) g1).step e1).val (R.step e1 st1).sub st1 rfl (.bl _)
  | .ite c a b, ρ, S, σ, H, Hf, _, _, E, Q, R, g => by
    simp only [evE] at g
    simp only [rdE]
    refine soundE hF c R ((g.bind.mono fun px S1 g1 x H1 Hf1 e1 st1 dx => ?_ : Gd C Z H Hf E _ (KE Z H Hf _)).mono fun _ _ k => k.kk)
    obtain ⟨c, h2, k⟩ := g1.bind.ofO
    cases px <;> first | (cases h2; done) | skip
    cases h2
    cases dx
    refine ⟨_, rfl, ?_⟩
    cases c with
    | true => exact soundE hF a (R.step e1 st1) ((k.step e1).mono fun _ _ k => (KE.step k e1).kk)
    | false => exact soundE hF b (R.step e1 st1) ((k.step e1).mono fun _ _ k => (KE.step k e1).kk)
  | .lst es, ρ, S, σ, H, Hf, _, _, E, Q, R, g => by
    simp only [evE] at g
    obtain ⟨hl, g⟩ := g.ifp
    simp only [rdE]
    refine soundEs hF es R (g.bind.eq.mono fun ps S1 g1 vs H1 Hf1 e1 st1 d1 => ?_)
    obtain ⟨h1, k⟩ := g1
    have k : KK true Z H Hf Q (.lst true ps) S1 := k
    refine ⟨?_, ((KK.toS k).step e1).newL (R.step e1 st1).sub st1 d1⟩
    rw [d1.length, evEs_len h1]
    exact big_le (by unfold big; omega)
  | .tup es, ρ, S, σ, H, Hf, _, _, E, Q, R, g => by
    simp only [evE] at g
    obtain ⟨hl, g⟩ := g.ifp
    simp only [rdE]
    refine soundEs hF es R (g.bind.eq.mono fun ps S1 g1 vs H1 Hf1 e1 st1 d1 => ?_)
    obtain ⟨h1, k⟩ := g1
    refine ⟨?_, ((KK.toS (b := false) k).step e1).newT (R.step e1 st1).sub st1 d1⟩
    rw [d1.length, evEs_len h1]
    exact big_le (by unfold big; omega)
  | .dnew t, ρ, S, σ, H, Hf, _, _, E, Q, R, g => by
    simp only [evE] at g
    simp only [rdE]
    cases t with
    | true => exact KS.newDT g R.sub R.st .nil
    | false => exact KS.newK g R.sub R.st .nil
  | .comp elt tg it cond own, ρ, S, σ, H, Hf, _, _, E, Q, R, g => by
    simp only [evE] at g
    simp only [rdE]
    refine soundI hF false it R nofun (g.bind.mono fun items S1 g1 J H1 Hf1 e1 st1 ig => ?_)
    obtain ⟨hl, g2⟩ := g1.iff
    rw [Bool.and_eq_true, decide_eq_true_eq] at hl
    obtain ⟨hown, hlen⟩ := hl
    have R1 := R.step e1 st1
    obtain ⟨G, Y, w, hG, hY⟩ := ig
    intro D hD
    have nz := st1.nz hD
    have g3 := (g2.step e1).bind
    refine lc_it w (fun i H => ∃ Hf S acc qs, Ext Z H1 Hf1 H Hf ∧ StAt Z H Hf S ∧ H D = some (.lst acc) ∧ Hf D = none ∧ acc.length ≤ i ∧ DenAll Z Hf acc qs ∧ Gd C Z H1 Hf1 E (compL (fun p S2 => (ofO (bindTg tg p (wipeP ρ own)) S2).bind fun ρ2 S2 => (noex (evC F cond ρ2 S2)).bind fun b S3 => if b then (noex (evE F elt ρ2 S3)).bind fun q S4 => .ok (some q) S4 else .ok none S3) (items.drop i) S) (fun qs' S' => KK true Z H1 Hf1 Q (.lst true (qs ++ qs')) S')) ?_ ?_ ?_ ?_
    · exact ⟨Hf1, S1, [], [], Ext.new' R1.sub hD, st1.new' hD, upd_same, R1.sub.none hD, Nat.le_refl _, .nil, g3.mono fun qs S2 k => KS.step k e1⟩
    · rintro i H' hi ⟨Hf', S', acc, qs, x1, x2, x3, x4, x5, x6, x7⟩
      exact hG H' Hf' x1
    · rintro i x H' H'' hi ⟨Hf', S', acc, qs, x1, x2, x3, x4, x5, x6, x7⟩ y
      rw [drop_at hi] at x7
      have x8 := compL_bind x7
      obtain ⟨ρ2, e2, x9⟩ := x8.bind.ofO
      obtain ⟨Hf2, e3, st3, dx⟩ := hY i x items[i] H' Hf' S' H'' (List.getElem?_eq_getElem hi) x1 x1.sub x2 y
      have R2 := (R1.step x1 x2).step e3 st3
      have e13 := x1.trans e3
      have hD2 : H'' D = some (.lst acc) := e3.old _ _ x3 nz
      have hf2 : Hf2 D = none := none_of fun o z => by
        have := e3.new D o z x4
        rw [x3] at this
        cases this
      refine (R2.wipe own).bind dx e2 fun σ2 R3 hw => ⟨?_, ?_⟩
      · rw [hw own hown, wipe_wipe']
      · refine soundC hF cond R3 ((x9.step e13).bind.noex.mono fun b S3 x10 H3 Hf3 e4 st4 => ?_)
        have R4 := R3.step e4 st4
        have hD3 : H3 D = some (.lst acc) := e4.old _ _ hD2 nz
        have hf3 : Hf3 D = none := none_of fun o z => by
          have := e4.new D o z hf2
          rw [hD2] at this
          cases this
        cases b with
        | false =>
          exact ⟨Hf3, S3, acc, qs, e13.trans e4, st4, hD3, hf3, by omega, (x6.mono e3.fz).mono e4.fz, x10⟩
        | true =>
          have x11 := ((Gd.step (show Gd C Z H'' Hf2 E ((noex (evE F elt ρ2 S3)).bind fun q S4 => Rs.ok (some q) S4) _ from x10) e4).bind).noex (E' := E0)
          refine soundE hF elt R4 (x11.mono fun q S4 x12 => KE.kk fun yv H4 Hf4 e5 st5 dy => ?_)
          have hD4 : H4 D = some (.lst acc) := e5.old _ _ hD3 nz
          have hf4 : Hf4 D = none := none_of fun o z => by
            have := e5.new D o z hf3
            rw [hD3] at this
            cases this
          have e14 := (e13.trans e4).trans e5
          refine ⟨acc, hD4, ?_, Hf4, S4, acc ++ [yv], qs ++ [q], ⟨fun a o h1 h2 => ?_, fun a o h1 => ?_, e14.fz, fun a o h1 => ?_, e14.new⟩, ⟨fun a q => old_upd (st5.all a q), fun z hz => ?_⟩, upd_same, hf4, ?_, ((((x6.mono e3.fz).mono e4.fz).mono e5.fz)).append (.cons dy .nil), ?_⟩
          · exact big_lt (by omega)
          · rw [upd_ne (ne_of_none h1 hD)]
            exact e14.old a o h1 h2
          · rw [upd_ne (ne_of_none h1 hD)]
            exact e14.dom a o h1
          · rw [upd_ne (ne_of_none h1 hf4)]
            exact e14.sub a o h1
          · obtain ⟨h1, h2, h3, h4, h5⟩ := st5.str z hz
            refine ⟨?_, ?_, h3, h4, h5⟩
            · rw [upd_ne (fun q => nz ⟨z, hz, .inl q.symm⟩)]
              exact h1
            · rw [upd_ne (fun q => nz ⟨z, hz, .inr q.symm⟩)]
              exact h2
          · rw [List.length_append]
            show acc.length + 1 ≤ i + 1
            omega
          · refine Gd.mono (show Gd C Z H1 Hf1 E (compL _ (items.drop (i + 1)) S4) _ from x12) fun qs' S' k => ?_
            rw [List.append_assoc]
            exact k
    · rintro H' ⟨Hf', S', acc, qs, x1, x2, x3, x4, x5, x6, x7⟩
      rw [List.drop_length] at x7
      have k : KK true Z H1 Hf1 Q (.lst true (qs ++ [])) S' := x7
      rw [List.append_nil] at k
      exact KS.lst k x1 x2 hD x4 nz (st1.no hD) x3 x6
  | .call f es, ρ, S, σ, H, Hf, _, _, E, Q, R, g => by
    simp only [evE] at g
    simp only [rdE]
    refine soundEs hF es R (g.bind.mono fun ps S1 g1 vs H1 Hf1 e1 st1 d1 => ?_)
    show C.sp f (vs ++ []) H1 Q E
    rw [List.append_nil]
    exact hF f vs ps S1 H1 Hf1 E Q (R.step e1 st1).sub st1 d1 ((g1.step e1).mono fun p S2 k => KE.step k e1)
  | .bf b es, ρ, S, σ, H, Hf, _, _, E, Q, R, g => by
    simp only [evE] at g
    simp only [rdE]
    refine soundBs hF es R (g.bind.mono fun ps S1 g1 vs H1 Hf1 e1 st1 d1 => ?_)
    obtain ⟨p, h1, k⟩ := g1.ofO
    exact bf_val b (R.step e1 st1).sub st1 d1 h1 ((KK.toS k).step e1)
  | .lrng es, ρ, S, σ, H, Hf, _, _, E, Q, R, g => by
    simp only [evE] at g
    simp only [rdE]
    refine soundEs hF es R (g.bind.mono fun ps S1 g1 vs H1 Hf1 e1 st1 d1 => ?_)
    obtain ⟨⟨i, j⟩, h1, g2⟩ := g1.bind.ofO
    obtain ⟨h2, k⟩ := g2.iff
    have k : KK true Z H Hf Q (.lst true (rngL i j)) S1 := k
    refine ⟨i, j, rng_den d1 h1, rngOk_of h2, ((KK.toS k).step e1).newL (R.step e1 st1).sub st1 (rng_all i j)⟩
  | .idx a i, ρ, S, σ, H, Hf, _, _, E, Q, R, g => by
    simp only [evE] at g
    simp only [rdE]
    exact idx_ok R (fun g => soundE hF a R (g.mono fun _ _ k => k.kk)) (fun R g => soundE hF i R (g.mono fun _ _ k => k.kk)) g
  | .slice a lo hi, ρ, S, σ, H, Hf, _, _, E, Q, R, g => by
    simp only [evE] at g
    simp only [rdE]
    refine brw_ok (F := F) (a := a) (b := false) R nofun (fun g => soundE hF a R (g.mono fun _ _ k => k.kk)) (g.bind.mono fun px S1 g1 x H1 Hf1 e1 st1 dx => ?_)
    have R1 := R.step e1 st1
    refine soundO hF lo R1 ((g1.step e1).bind.mono fun l S2 g2 H2 Hf2 e2 st2 => ?_)
    have R2 := R1.step e2 st2
    refine soundO hF hi R2 ((g2.step e2).bind.mono fun h S3 g3 H3 Hf3 e3 st3 => ?_)
    obtain ⟨p, h1, k⟩ := g3.ofO
    exact slice_val (R2.step e3 st3).sub st3 (DenB.step (DenB.step dx e2) e3) h1 ((KK.toS k).step ((e1.trans e2).trans e3))
  | .callk f es, ρ, S, σ, H, Hf, _, _, E, Q, R, g => by
    simp only [evE] at g
    simp only [rdE]
    refine soundEs hF es R (g.bind.mono fun ps S1 g1 vs H1 Hf1 e1 st1 d1 => ?_)
    exact hF f vs.reverse ps.reverse S1 H1 Hf1 E Q (R.step e1 st1).sub st1 d1.rev ((g1.step e1).mono fun p S2 k => KE.step k e1)
  | .never, ρ, S, σ, H, Hf, _, _, E, Q, R, g => by
    simp only [evE] at g
    exact g.elim
  | .pop0 a, ρ, S, σ, H, Hf, _, _, E, Q, R, g => by
    simp only [evE] at g
    exact g.elim
theorem soundEs (hF : FSound C Z F) : ∀ (es : Exs) {ρ : Env'} {S : SS} {σ : L2.St} {H Hf H0 Hf0 : Hp} {E : XK} {Q : List V → Hp → Prop}, Rel Z H0 Hf0 ρ S σ H Hf → Gd C Z H Hf E (evEs F es ρ S) (KA Z H Hf Q) → rdEs C E es σ H Q
  | .nil, ρ, S, σ, H, Hf, _, _, E, Q, R, g => by
    simp only [evEs] at g
    exact g [] H Hf (Ext.refl R.sub) R.st .nil
  | .cons e es, ρ, S, σ, H, Hf, _, _, E, Q, R, g => by
    simp only [evEs] at g
    simp only [rdEs]
    refine soundE hF e R ((g.bind.mono fun px S1 g1 x H1 Hf1 e1 st1 dx => ?_ : Gd C Z H Hf E _ (KE Z H Hf _)).mono fun _ _ k => k.kk)
    refine soundEs hF es (R.step e1 st1) ((g1.step e1).bind.mono fun ps S2 k vs H2 Hf2 e2 st2 ds => ?_)
    exact k (x :: vs) H2 Hf2 (e1.trans e2) st2 (.cons (dx.mono e2.fz) ds)
theorem soundBs (hF : FSound C Z F) : ∀ (es : Exs) {ρ : Env'} {S : SS} {σ : L2.St} {H Hf H0 Hf0 : Hp} {E : XK} {Q : List V → Hp → Prop}, Rel Z H0 Hf0 ρ S σ H Hf → Gd C Z H Hf E (evBs F es ρ S) (KBs Z H Hf Q) → rdEs C E es σ H Q
  | .nil, ρ, S, σ, H, Hf, _, _, E, Q, R, g => by
    simp only [evBs] at g
    exact g [] H Hf (Ext.refl R.sub) R.st .nil
  | .cons e es, ρ, S, σ, H, Hf, _, _, E, Q, R, g => by
    simp only [evBs] at g
    simp only [rdEs]
    refine brw_ok (F := F) (a := e) (b := false) R nofun (fun g => soundE hF e R (g.mono fun _ _ k => k.kk)) (g.bind.mono fun px S1 g1 x H1 Hf1 e1 st1 dx => ?_)
    refine soundBs hF es (R.step e1 st1) ((g1.step e1).bind.mono fun ps S2 k vs H2 Hf2 e2 st2 ds => ?_)
    exact k (x :: vs) H2 Hf2 (e1.trans e2) st2 (.cons (DenB.step dx e2) ds)
theorem soundC (hF : FSound C Z F) : ∀ (es : Exs) {ρ : Env'} {S : SS} {σ : L2.St} {H Hf H0 Hf0 : Hp} {Q : Bool → Hp → Prop}, Rel Z H0 Hf0 ρ S σ H Hf → Gd C Z H Hf E0 (evC F es ρ S) (fun b S1 => ∀ H' Hf', Ext Z H Hf H' Hf' → StAt Z H' Hf' S1 → Q b H') → rdC C es σ H Q
  | .nil, ρ, S, σ, H, Hf, _, _, Q, R, g => by
    simp only [evC] at g
    exact g H Hf (Ext.refl R.sub) R.st
  | .cons e es, ρ, S, σ, H, Hf, _, _, Q, R, g => by
    simp only [evC] at g
    simp only [rdC]
    refine soundE hF e R ((g.bind.mono fun px S1 g1 x H1 Hf1 e1 st1 dx => ?_ : Gd C Z H Hf E0 _ (KE Z H Hf _)).mono fun _ _ k => k.kk)
    obtain ⟨c, h2, k⟩ := g1.ofO
    cases px <;> first | (cases h2; done) | skip
    cases h2
    cases dx
    exact ⟨_, rfl, k H1 Hf1 e1 st1⟩
theorem soundO (hF : FSound C Z F) : ∀ (es : Exs) {ρ : Env'} {S : SS} {σ : L2.St} {H Hf H0 Hf0 : Hp} {E : XK} {Q : Option Int → Hp → Prop}, Rel Z H0 Hf0 ρ S σ H Hf → Gd C Z H Hf E (evO F es ρ S) (fun b S1 => ∀ H' Hf', Ext Z H Hf H' Hf' → StAt Z H' Hf' S1 → Q b H') → rdO C E es σ H Q
  | .nil, ρ, S, σ, H, Hf, _, _, E, Q, R, g => by
    simp only [evO] at g
    exact g H Hf (Ext.refl R.sub) R.st
  | .cons e es, ρ, S, σ, H, Hf, _, _, E, Q, R, g => by
    simp only [evO] at g
    simp only [rdO]
    refine soundE hF e R ((g.bind.mono fun px S1 g1 x H1 Hf1 e1 st1 dx => ?_ : Gd C Z H Hf E _ (KE Z H Hf _)).mono fun _ _ k => k.kk)
    obtain ⟨c, h2, k⟩ := g1.ofO
    obtain ⟨i, h3, h4⟩ := Option.map_eq_some_iff.mp h2
    subst h4
    cases px <;> first | (cases h3; done) | skip
    cases h3
    cases dx
    exact ⟨_, rfl, k H1 Hf1 e1 st1⟩
theorem soundI (hF : FSound C Z F) (b : Bool) : ∀ (it : Itx) {ρ : Env'} {S : SS} {σ : L2.St} {H Hf H0 Hf0 : Hp} {E : XK} {R' : It → Hp → Prop}, Rel Z H0 Hf0 ρ S σ H Hf → (b = true → noOwn ρ (tops it)) → Gd C Z H Hf E (evI F it ρ S) (KI b Z H Hf R') → rdI C E it σ H R'
  | .val e, ρ, S, σ, H, Hf, _, _, E, R', R, hb, g => by
    simp only [evI] at g
    exact val_ok R hb (fun g => soundE hF e R (g.mono fun _ _ k => k.kk)) g
  | .rng es, ρ, S, σ, H, Hf, _, _, E, R', R, hb, g => by
    simp only [evI] at g
    obtain ⟨hl, g⟩ := g.ifp
    simp only [rdI]
    have g1 := g.bind.eq
    by_cases h1 : exsLen es = 1
    · rw [if_pos h1]
      refine soundEs hF es R (g1.mono fun ps S1 g1 vs H1 Hf1 e1 st1 d1 => ?_)
      obtain ⟨g0, g1⟩ := g1
      obtain ⟨⟨i, j⟩, h2, g2⟩ := g1.bind.ofO
      obtain ⟨h3, k⟩ := g2.iff
      have hn := evEs_len g0
      rw [h1] at hn
      obtain ⟨rfl, hv⟩ := rng_one d1 hn h2
      obtain ⟨r1, r2, r3, r4, r5⟩ := rngOk_of h3
      refine ⟨j, hv, r3, r4, ?_⟩
      have k1 := k (Itr 0 j.toNat) H1 Hf1 e1 st1
      have k2 : ItG b Z H1 Hf1 (Itr 0 (j - 0).toNat) (rngL 0 j) := itg_rng
      rw [Int.sub_zero] at k2
      exact k1 k2
    · rw [if_neg h1]
      refine soundEs hF es R (g1.mono fun ps S1 g1 vs H1 Hf1 e1 st1 d1 => ?_)
      obtain ⟨g0, g1⟩ := g1
      obtain ⟨⟨i, j⟩, h2, g2⟩ := g1.bind.ofO
      obtain ⟨h3, k⟩ := g2.iff
      have hn := evEs_len g0
      have hv := rng_two d1 (by omega) h2
      obtain ⟨r1, r2, r3, r4, r5⟩ := rngOk_of h3
      exact ⟨i, j, hv, ⟨r1, r2, r3, r4⟩, k _ H1 Hf1 e1 st1 itg_rng⟩
  | .enum e, ρ, S, σ, H, Hf, _, _, E, R', R, hb, g => by
    simp only [evI] at g
    simp only [rdI]
    refine brw_ok (F := F) (a := e) (b := b) R hb (fun g => soundE hF e R (g.mono fun _ _ k => k.kk)) (g.bind.mono fun px S1 g1 x H1 Hf1 e1 st1 dx => ?_)
    obtain ⟨items, h1, k⟩ := g1.ofO
    unfold enumP at h1
    split at h1
    · cases h1
      obtain ⟨a, xs, rfl, h2, d1, hu⟩ := dx.lst (R.step e1 st1).sub
      exact ⟨a, xs, rfl, sl_of h2, k _ H1 Hf1 e1 st1 (itg_enum d1 hu)⟩
    · cases h1
  | .zip e1 e2, ρ, S, σ, H, Hf, _, _, E, R', R, hb, g => by
    simp only [evI] at g
    simp only [rdI]
    refine brw_ok (F := F) (a := e1) (b := b) R (fun q i hi => hb q i (by simp [tops, hi])) (fun g => soundE hF e1 R (g.mono fun _ _ k => k.kk)) (g.bind.mono fun px S1 g1 x H1 Hf1 x1 st1 dx => ?_)
    have R1 := R.step x1 st1
    refine brw_ok (F := F) (a := e2) (b := b) R1 (fun q i hi => hb q i (by simp [tops, hi])) (fun g => soundE hF e2 R1 (g.mono fun _ _ k => k.kk)) ((g1.step x1).bind.mono fun py S2 g2 y H2 Hf2 x2 st2 dy => ?_)
    have R2 := R1.step x2 st2
    obtain ⟨items, h1, k⟩ := g2.ofO
    have dx2 := dx.step x2
    unfold zipP at h1
    split at h1
    · cases h1
      obtain ⟨a, xs, rfl, h2, d1, hu⟩ := dx2.lst R2.sub
      obtain ⟨a2, ys, rfl, h3, d2, hu2⟩ := dy.lst R2.sub
      exact ⟨a, a2, xs, ys, rfl, .inl ⟨sl_of h2, sl_of h3, k _ H2 Hf2 (x1.trans x2) st2 (itg_zip d1 d2 hu hu2)⟩⟩
    · cases h1
      obtain ⟨a, xs, rfl, h2, d1, hu⟩ := dx2.tup R2.sub
      obtain ⟨a2, ys, rfl, h3, d2, hu2⟩ := dy.tup R2.sub
      exact ⟨a, a2, xs, ys, rfl, .inr ⟨sq_of h2, sq_of h3, k _ H2 Hf2 (x1.trans x2) st2 (itg_zipT d1 d2 hu hu2)⟩⟩
    · cases h1
end
end
end Bb

set_option maxRecDepth 100000
set_option maxHeartbeats 4000000
/-! Statements: what the pure evaluator gives is what the readings ask. -/
namespace Bb
open L2 PyProof.Rows PySem.Spec PySem
def KFl (Z : Zn) (H0 Hf0 : Hp) (D : Ends) : Fl → SS → Prop := fun fl S => match fl with
  | .nxt ρ => ∀ σ H Hf, Rel Z H0 Hf0 ρ S σ H Hf → D.nx σ H
  | .ret p => ∀ v H Hf, Ext Z H0 Hf0 H Hf → StAt Z H Hf S → Den Z Hf v p → D.rt v H
def SlotV (b : Bool) (Z : Zn) (H H' Hf' : Hp) (v : V) (p : PV) : Prop := match b with
  | true => SDen Z H H' Hf' v p
  | false => Den Z Hf' v p
section
variable {C : RC} {Z : Zn} {H Hf H1 Hf1 H0 Hf0 : Hp} {E : XK} {F : Nat → List PV → SS → Rs PV} {α : Type} {ρ : Env'} {S S' : SS} {σ : L2.St}
theorem KK.mk {b : Bool} {Q : VK} {p : PV} {S : SS} (k : ∀ v H' Hf', Ext Z H Hf H' Hf' → StAt Z H' Hf' S → SlotV b Z H H' Hf' v p → Q v H') : KK b Z H Hf Q p S := by
  cases b with
  | true => exact k
  | false => exact k
/-! ### slots set, shared -/
theorem Rel.lookO (R : Rel Z H0 Hf0 ρ S σ H Hf) {i : Nat} {p : PV} (h : lookO ρ i = some p) : ∃ a, σ[i]? = some (some (.ref a)) ∧ H0 a = none ∧ Hf a = none ∧ ¬ InZ Z a ∧ OwnAt Z H Hf a p ∧ ρ[i]? = some (some ⟨true, p⟩) := by
  unfold Bb.lookO at h
  split at h
  · rename_i q e
    cases h
    obtain ⟨v, h1, h2⟩ := R.sl i _ e
    rw [if_pos rfl] at h2
    obtain ⟨a, rfl, h3, h4, h5, h6⟩ := h2
    exact ⟨a, h1, h3, h4, h5, h6, e⟩
  · cases h
theorem Rel.setSl (R : Rel Z H0 Hf0 ρ S σ H Hf) {H' Hf' : Hp} (e : Ext Z H Hf H' Hf') (st : StAt Z H' Hf' S') {b : Bool} {v : V} {p : PV} (d : SlotV b Z H H' Hf' v p) (i : Nat) : Rel Z H0 Hf0 (ρ.set i (some ⟨b && mutb p, p⟩)) S' (σ.set i (some v)) H' Hf' := by
  have R1 := R.step e st
  by_cases hb : (b && mutb p) = true
  · rw [hb]
    rw [Bool.and_eq_true] at hb
    obtain ⟨rfl, hm⟩ := hb
    have d : SDen Z H H' Hf' v p := d
    unfold SDen at d
    rw [if_pos hm] at d
    obtain ⟨a, rfl, n1, n2, n3, o⟩ := d
    refine ⟨R1.ext, st, by rw [List.length_set, List.length_set, R.len], fun j s h => ?_, fun j k q r c n h1 h2 h3 h4 => ?_⟩
    · rcases set_some h with ⟨rfl, rfl, hl⟩ | ⟨hn, h⟩
      · exact ⟨_, by rw [List.getElem?_set, if_pos rfl, if_pos (by rw [R.len]; exact hl)], by rw [if_pos rfl]; exact ⟨a, rfl, R.ext.back n1, n2, n3, o⟩⟩
      · rw [List.getElem?_set_ne hn]
        exact R1.sl j s h
    · have old : ∀ {j : Nat} {q : PV} {c : Addr}, ρ[j]? = some (some ⟨true, q⟩) → σ[j]? = some (some (.ref c)) → c ≠ a := fun {j q c} h1 h3 z => by
        obtain ⟨w, h5, h6⟩ := R.sl _ _ h1
        rw [h3] at h5
        cases h5
        rw [if_pos rfl] at h6
        obtain ⟨c', e1, _, _, _, o'⟩ := h6
        cases e1
        obtain ⟨ob, ho⟩ := o'.there
        rw [z, n1] at ho
        cases ho
      rcases set_some h1 with ⟨rfl, e1, hl⟩ | ⟨hn, h1⟩
      · rcases set_some h2 with ⟨rfl, e2, hl2⟩ | ⟨hn2, h2⟩
        · exact n rfl
        · rw [List.getElem?_set_ne hn2] at h4
          rw [List.getElem?_set, if_pos rfl, if_pos (by rw [R.len]; exact hl)] at h3
          cases h3
          exact old h2 h4 rfl
      · rcases set_some h2 with ⟨rfl, e2, hl2⟩ | ⟨hn2, h2⟩
        · rw [List.getElem?_set_ne hn] at h3
          rw [List.getElem?_set, if_pos rfl, if_pos (by rw [R.len]; exact hl2)] at h4
          cases h4
          exact old h1 h3 rfl
        · rw [List.getElem?_set_ne hn] at h3
          rw [List.getElem?_set_ne hn2] at h4
          exact R.apart j k q r c n h1 h2 h3 h4
  · rw [Bool.not_eq_true] at hb
    rw [hb]
    have d : Den Z Hf' v p := by
      cases b with
      | false => exact d
      | true =>
        have d : SDen Z H H' Hf' v p := d
        unfold SDen at d
        rw [Bool.true_and] at hb
        rw [if_neg (by rw [hb]; simp)] at d
        exact d
    exact R1.putS d i
theorem Rel.over {a : Addr} {q p : PV} {o : HO} {k : Nat} (R : Rel Z H0 Hf0 ρ S σ H Hf) (h1 : ρ[k]? = some (some ⟨true, q⟩)) (h2 : σ[k]? = some (some (.ref a))) (n0 : H0 a = none) (nf : Hf a = none) (nz : ¬ InZ Z a) (w : OwnAt Z (upd H a o) Hf a p) : Rel Z H0 Hf0 (ρ.set k (some ⟨true, p⟩)) S σ (upd H a o) Hf := by
  refine ⟨⟨fun b u h n => ?_, fun b u h => ?_, R.ext.fz, fun b u h => ?_, R.ext.new⟩, ⟨fun b q => old_upd (R.st.all b q), fun z hz => ?_⟩, by rw [List.length_set, R.len], fun j s h => ?_, fun i j r s c n h3 h4 h5 => ?_⟩
  · rw [upd_ne (ne_of_none h n0)]
    exact R.ext.old b u h n
  · rw [upd_ne (ne_of_none h n0)]
    exact R.ext.dom b u h
  · rw [upd_ne (ne_of_none h nf)]
    exact R.ext.sub b u h
  · obtain ⟨h1, h2, h3, h4, h5⟩ := R.st.str z hz
    refine ⟨?_, ?_, h3, h4, h5⟩
    · rw [upd_ne (fun q => nz ⟨z, hz, .inl q.symm⟩)]
      exact h1
    · rw [upd_ne (fun q => nz ⟨z, hz, .inr q.symm⟩)]
      exact h2
  · rcases set_some h with ⟨rfl, rfl, hl⟩ | ⟨hn, h⟩
    · exact ⟨_, h2, by rw [if_pos rfl]; exact ⟨a, rfl, n0, nf, nz, w⟩⟩
    · obtain ⟨v, h3, h4⟩ := R.sl j s h
      refine ⟨v, h3, ?_⟩
      by_cases ho : s.own = true
      · rw [if_pos ho] at h4 ⊢
        obtain ⟨c, rfl, e2, e3, e4, e5⟩ := h4
        have hc : c ≠ a := fun z => by
          subst z
          obtain ⟨so, sp⟩ := s
          cases ho
          exact R.apart k j q sp c hn h1 h h2 h3
        refine ⟨c, rfl, e2, e3, e4, ?_⟩
        cases hp : s.p with
        | lst c ps => rw [hp] at e5; obtain ⟨xs, f1, f2⟩ := e5; exact ⟨xs, by rw [upd_ne hc]; exact f1, f2⟩
        | dK c ps => rw [hp] at e5; obtain ⟨xs, f1, f2⟩ := e5; exact ⟨xs, by rw [upd_ne hc]; exact f1, f2⟩
        | dT c ps => rw [hp] at e5; obtain ⟨xs, f1, f2⟩ := e5; exact ⟨xs, by rw [upd_ne hc]; exact f1, f2⟩
        | _ => rw [hp] at e5; exact e5.elim
      · rw [if_neg ho] at h4 ⊢
        exact h4
  · have back : ∀ {i : Nat} {r : PV}, (ρ.set k (some ⟨true, p⟩))[i]? = some (some ⟨true, r⟩) → ∃ r', ρ[i]? = some (some ⟨true, r'⟩) := fun {i r} h => by
      rcases set_some h with ⟨rfl, e, hl⟩ | ⟨hn, h⟩
      · exact ⟨q, h1⟩
      · exact ⟨r, h⟩
    obtain ⟨r', h6⟩ := back h3
    obtain ⟨s', h7⟩ := back h4
    exact R.apart i j r' s' c n h6 h7 h5
theorem Rel.share1 (R : Rel Z H0 Hf0 ρ S σ H Hf) {i : Nat} {p : PV} (h : ρ[i]? = some (some ⟨true, p⟩)) : ∃ Hf', Rel Z H0 Hf0 (ρ.set i (some ⟨false, p⟩)) S σ H Hf' := by
  obtain ⟨v, h1, h2⟩ := R.sl i _ h
  rw [if_pos rfl] at h2
  obtain ⟨a, rfl, n0, nf, nz, w⟩ := h2
  obtain ⟨o, ho⟩ := w.there
  have sb : Sub Hf (upd Hf a o) := sub_upd nf
  refine ⟨upd Hf a o, ⟨R.ext.old, R.ext.dom, fun b u h => sb _ _ (R.ext.fz _ _ h), fun b u h => ?_, fun b u h n => ?_⟩, ⟨R.st.all, fun z hz => ?_⟩, by rw [List.length_set, R.len], fun j s h3 => ?_, fun j k q r c n h3 h4 h5 => ?_⟩
  · by_cases hb : b = a
    · subst hb
      rw [upd_same] at h
      rw [ho]
      exact h
    · rw [upd_ne hb] at h
      exact R.ext.sub b u h
  · by_cases hb : b = a
    · subst hb
      exact n0
    · rw [upd_ne hb] at h
      exact R.ext.new b u h n
  · obtain ⟨h1, h2, h3, h4, h5⟩ := R.st.str z hz
    refine ⟨h1, h2, ?_, ?_, h5⟩
    · rw [upd_ne (fun q => nz ⟨z, hz, .inl q.symm⟩)]
      exact h3
    · rw [upd_ne (fun q => nz ⟨z, hz, .inr q.symm⟩)]
      exact h4
  · rcases set_some h3 with ⟨rfl, rfl, hl⟩ | ⟨hn, h3⟩
    · exact ⟨_, h1, w.den ho nf⟩
    · obtain ⟨v, h4, h5⟩ := R.sl j s h3
      refine ⟨v, h4, ?_⟩
      by_cases hs : s.own = true
      · rw [if_pos hs] at h5 ⊢
        obtain ⟨c, rfl, e2, e3, e4, e5⟩ := h5
        have hc : c ≠ a := fun z => by
          subst z
          obtain ⟨so, sp⟩ := s
          cases hs
          exact R.apart i j p sp c hn h h3 h1 h4
        refine ⟨c, rfl, e2, by rw [upd_ne hc]; exact e3, e4, ?_⟩
        cases hp : s.p with
        | lst c ps => rw [hp] at e5; obtain ⟨xs, f1, f3, f2⟩ := e5; exact ⟨xs, f1, f3, f2.mono sb⟩
        | dK c ps => rw [hp] at e5; obtain ⟨xs, f1, f3, f2⟩ := e5; exact ⟨xs, f1, f3, f2.mono sb⟩
        | dT c ps => rw [hp] at e5; obtain ⟨xs, f1, f3, f2⟩ := e5; exact ⟨xs, f1, f3, f2.mono sb⟩
        | _ => rw [hp] at e5; exact e5.elim
      · rw [if_neg hs] at h5 ⊢
        exact h5.mono sb
  · rcases set_some h3 with ⟨rfl, e, hl⟩ | ⟨hn, h3⟩
    · cases e
    · rcases set_some h4 with ⟨rfl, e, hl⟩ | ⟨hn2, h4⟩
      · cases e
      · exact R.apart j k q r c n h3 h4 h5
theorem share_cons (i : Nat) (is : List Nat) (ρ : Env') : share (i :: is) ρ = match (share is ρ)[i]? with
  | some (some ⟨true, p⟩) => (share is ρ).set i (some ⟨false, p⟩)
  | _ => share is ρ := rfl
theorem Rel.share : ∀ (is : List Nat) {ρ : Env'} {Hf : Hp}, Rel Z H0 Hf0 ρ S σ H Hf → ∃ Hf', Rel Z H0 Hf0 (share is ρ) S σ H Hf'
  | [], ρ, Hf, R => ⟨Hf, R⟩
  | i :: is, ρ, Hf, R => by
    obtain ⟨Hf1, R1⟩ := Rel.share is R
    rw [share_cons]
    split
    · rename_i p e
      exact R1.share1 e
    · exact ⟨Hf1, R1⟩
theorem share_own : ∀ (is : List Nat) {ρ : Env'} {i : Nat} {p : PV}, (share is ρ)[i]? = some (some ⟨true, p⟩) → ρ[i]? = some (some ⟨true, p⟩) ∧ i ∉ is
  | [], ρ, i, p, h => ⟨h, by simp⟩
  | j :: is, ρ, i, p, h => by
    rw [share_cons] at h
    split at h
    · rename_i q e
      rcases set_some h with ⟨rfl, e, hl⟩ | ⟨hn, h⟩
      · cases e
      · obtain ⟨h1, h2⟩ := share_own is h
        exact ⟨h1, fun z => (List.mem_cons.mp z).elim (fun z => hn z.symm) h2⟩
    · rename_i e
      obtain ⟨h1, h2⟩ := share_own is h
      refine ⟨h1, fun z => ?_⟩
      rcases List.mem_cons.mp z with z | z
      · subst z
        exact e p h
      · exact h2 z
theorem tops_esc (it : Itx) : ∀ i ∈ tops it, i ∈ escF it := by
  intro i h
  cases it with
  | val e => cases e <;> first | (simp [tops, topV] at h; done) | (simpa [tops, topV, escF] using h)
  | rng es => simp [tops] at h
  | enum e => cases e <;> first | (simp [tops, topV] at h; done) | (simpa [tops, topV, escF] using h)
  | zip a b =>
    cases a <;> cases b <;> first | (simp [tops, topV] at h; done) | (simp [tops, topV, escF] at h ⊢; simp [h])
theorem share_noOwn {is js : List Nat} {ρ : Env'} (h : ∀ i ∈ js, i ∈ is) : noOwn (share is ρ) js := fun i hi p e => (share_own is e).2 (h i hi)
/-! ### the base -/
theorem Ext.base {H' Hf' : Hp} (x : Ext Z H0 Hf0 H1 Hf1) (y : Ext Z H0 Hf1 H' Hf') : Ext Z H0 Hf0 H' Hf' := ⟨y.old, y.dom, fun a o h => y.fz a o (x.fz a o h), y.sub, fun a o h n => by
  cases e : Hf1 a with
  | none => exact y.new a o h e
  | some o1 => exact x.new a o1 e n⟩
theorem Rel.base {H' Hf' : Hp} (x : Ext Z H0 Hf0 H1 Hf1) (R : Rel Z H0 Hf1 ρ S σ H' Hf') : Rel Z H0 Hf0 ρ S σ H' Hf' := ⟨x.base R.ext, R.st, R.len, R.sl, R.apart⟩
theorem Rel.rebase (R : Rel Z H0 Hf0 ρ S σ H Hf) : Rel Z H0 Hf ρ S σ H Hf := ⟨⟨R.ext.old, R.ext.dom, fun _ _ h => h, R.ext.sub, fun a o h n => by rw [n] at h; cases h⟩, R.st, R.len, R.sl, R.apart⟩
theorem KFl.base {D : Ends} {fl : Fl} (x : Ext Z H0 Hf0 H1 Hf1) (k : KFl Z H0 Hf0 D fl S) : KFl Z H0 Hf1 D fl S := by
  cases fl with
  | nxt ρ => exact fun σ H Hf R => k σ H Hf (R.base x)
  | ret p => exact fun v H Hf e st d => k v H Hf (x.base e) st d
theorem Gd.base {r : Rs α} {K : α → SS → Prop} (x : Ext Z H0 Hf0 H1 Hf1) (g : Gd C Z H0 Hf0 E r K) : Gd C Z H0 Hf1 E r K := by
  cases r with
  | no => exact g
  | ok a S => exact g
  | ex c p S => exact fun H' Hf' d v e' st n1 n2 h dn => g H' Hf' d v (x.base e') st n1 n2 h dn
theorem Gd.okk {a : α} {K : α → SS → Prop} (g : Gd C Z H Hf E (.ok a S) K) : K a S := g
theorem putIx_L {q x p q' : PV} {b : Bool} (h : putIx q x p = some q') (hb : isL q = b) : (b = true → ∃ c xs k j, q = .lst c xs ∧ x = .int k ∧ ixN xs.length k = some j ∧ q' = .lst true (xs.set j p)) := by
  intro e
  subst e
  unfold putIx at h
  split at h
  · obtain ⟨j, h1, h2⟩ := Option.map_eq_some_iff.mp h
    exact ⟨_, _, _, j, rfl, rfl, h1, h2.symm⟩
  · cases hb
  · cases hb
  · cases h
theorem own_put {q x p q' : PV} {a : Addr} {v y : V} {D : Hp → Prop} (s : Sub Hf H) (w : OwnAt Z H Hf a q) (dv : Den Z Hf v p) (dx : Den Z Hf y x) (h : putIx q x p = some q') (hb : isL q = false)
    (k : ∀ o, OwnAt Z (upd H a o) Hf a q' → D (upd H a o)) : ∃ H4, DPut H a y v H4 ∧ D H4 := by
  unfold putIx at h
  simp only [putF_eq] at h
  split at h
  · cases hb
  · split at h
    · rename_i hl
      obtain ⟨kk, h1, h2⟩ := Option.map_eq_some_iff.mp h
      subst h2
      obtain ⟨xs, h3, hz, h4⟩ := w
      have e := keyK_of dx h1
      subst e
      exact ⟨_, DPut.k h3 (big_lt (by rw [h4.length]; exact Nat.le_of_lt hl)), k _ ⟨_, upd_same, ⟨rfl, hz.2⟩, h4.put dv⟩⟩
    · cases h
  · split at h
    · rename_i hl
      obtain ⟨kk, h1, h2⟩ := Option.map_eq_some_iff.mp h
      subst h2
      obtain ⟨xs, h3, hz, h4⟩ := w
      unfold keyT at h1
      split at h1
      · obtain ⟨b, ys, rfl, hb, db⟩ := dx.tupI
        have ey := keysK_of db h1
        subst ey
        exact ⟨_, DPut.t h3 (s _ _ hb) (big_lt (by rw [h4.length]; exact Nat.le_of_lt hl)), k _ ⟨_, upd_same, ⟨rfl, hz.2⟩, h4.put dv⟩⟩
      · cases h1
    · cases h
  · cases h
theorem forL_bind {f : PV → Env' → SS → Rs Fl} {p : PV} {ps : List PV} {K : Fl → SS → Prop} (g : Gd C Z H Hf E (forL f (p :: ps) ρ S) K) : Gd C Z H Hf E (f p ρ S) (fun fl S1 => Gd C Z H Hf E (match fl with | .nxt ρ1 => forL f ps ρ1 S1 | .ret q => .ok (.ret q) S1) K) := Gd.bind g
/-! ### the theorem -/
mutual
theorem soundS (hF : FSound C Z F) (W : Nat) : ∀ (s : Sx) {ρ : Env'} {S : SS} {σ : L2.St} {H Hf H0 Hf0 : Hp} {E : XK} {D : Ends}, Rel Z H0 Hf0 ρ S σ H Hf → Gd C Z H0 Hf0 E (evS F W s ρ S) (KFl Z H0 Hf0 D) → rdS C E s D σ H
  | .set i e, ρ, S, σ, H, Hf, H0, Hf0, E, D, R, g => by
    simp only [evS] at g
    simp only [rdS]
    obtain ⟨Hf1, R1⟩ := R.share (esc e)
    exact soundE hF e R1 ((g.step R1.ext).bind.mono fun p S1 k => KK.mk fun v H' Hf' e1 st1 d => (Gd.okk k) _ _ _ (R1.setSl e1 st1 d i))
  | .par i j a b, ρ, S, σ, H, Hf, H0, Hf0, E, D, R, g => by
    simp only [evS] at g
    simp only [rdS]
    obtain ⟨Hf1, R1⟩ := R.share (esc a ++ esc b)
    refine soundE hF a R1 ((g.step R1.ext).bind.mono fun p S1 g1 => KK.mk fun v H1 Hf1 e1 st1 d => ?_)
    refine soundE hF b (R1.step e1 st1) ((g1.step e1).bind.mono fun q S2 g2 => KK.mk fun w H2 Hf2 e2 st2 d2 => ?_)
    by_cases hij : i = j
    · rw [if_pos hij] at g2
      exact g2.elim
    · rw [if_neg hij] at g2
      exact ⟨v, w, rfl, (Gd.okk g2) _ _ _ ((R1.setSl e1 st1 d i).setSl e2 st2 d2 j)⟩
  | .par3 i j l a b c, ρ, S, σ, H, Hf, H0, Hf0, E, D, R, g => by
    simp only [evS] at g
    simp only [rdS]
    obtain ⟨Hf1, R1⟩ := R.share (esc a ++ esc b ++ esc c)
    refine soundE hF a R1 ((g.step R1.ext).bind.mono fun p S1 g1 => KK.mk fun v H1 Hf1 e1 st1 d => ?_)
    refine soundE hF b (R1.step e1 st1) ((g1.step e1).bind.mono fun q S2 g2 => KK.mk fun w H2 Hf2 e2 st2 d2 => ?_)
    refine soundE hF c ((R1.step e1 st1).step e2 st2) ((g2.step e2).bind.mono fun r S3 g3 => KK.mk fun x H3 Hf3 e3 st3 d3 => ?_)
    by_cases hij : i = j ∨ i = l ∨ j = l
    · rw [if_pos hij] at g3
      exact g3.elim
    · rw [if_neg hij] at g3
      exact ⟨v, w, x, rfl, (Gd.okk g3) _ _ _ (((R1.setSl e1 st1 d i).setSl e2 st2 d2 j).setSl e3 st3 d3 l)⟩
  | .asg is e, ρ, S, σ, H, Hf, H0, Hf0, E, D, R, g => by
    simp only [evS] at g
    simp only [rdS]
    obtain ⟨Hf1, R1⟩ := R.share (esc e)
    refine soundE hF e R1 (((g.step R1.ext).bind.mono fun p S1 g1 v H1 Hf1 e1 st1 d => ?_ : Gd C Z H Hf1 E _ (KE Z H Hf1 _)).mono fun _ _ k => k.kk)
    obtain ⟨ps, h1, k⟩ := g1.bind.ofO
    unfold tupOf at h1
    split at h1
    · split at h1
      · rename_i hl
        cases h1
        have R2 := R1.step e1 st1
        obtain ⟨a, xs, rfl, h2, d2⟩ := d.tupI
        exact ⟨a, xs, rfl, sq_of (R2.sub _ _ h2), by rw [d2.length]; exact hl, R2.setAll d2 hl fun σ' R' _ => (Gd.okk k) _ _ _ R'⟩
      · cases h1
    · cases h1
  | .put o i v, ρ, S, σ, H, Hf, H0, Hf0, E, D, R, g => by
    simp only [evS] at g
    simp only [rdS]
    obtain ⟨k, ho, ga⟩ := g.bind.ofO
    clear g
    obtain ⟨q, hq, g⟩ := ga.bind.ofO
    clear ga
    cases o <;> first | (cases ho; done) | skip
    cases ho
    obtain ⟨Hf1, R1⟩ := R.share (esc v ++ esc i)
    obtain ⟨a, hs, n0, nf, nz, w, hr⟩ := R1.lookO hq
    cases hb : isL q with
    | true =>
      refine .inl (soundE hF v R1 (((g.step R1.ext).bind.mono fun p S1 g1 x H1 Hf1 e1 st1 dv => ?_ : Gd C Z H Hf1 E _ (KE Z H Hf1 _)).mono fun _ _ k => k.kk))
      have R2 := R1.step e1 st1
      refine ⟨_, hs, ?_⟩
      refine soundE hF i R2 (((g1.step e1).bind.mono fun y S2 g2 yv H2 Hf2 e2 st2 di => ?_ : Gd C Z H1 _ E _ (KE Z H1 _ _)).mono fun _ _ k => k.kk)
      have R3 := R2.step e2 st2
      obtain ⟨q', h1, kf⟩ := g2.bind.ofO
      obtain ⟨c, xs, m, j, rfl, rfl, h2, rfl⟩ := putIx_L h1 hb rfl
      obtain ⟨a', hs', n0', nf', nz', w', hr'⟩ := R3.lookO hq
      rw [hs] at hs'
      cases hs'
      obtain ⟨us, h3, hz, h4⟩ := w'
      cases di
      refine ⟨a, us, m, j, rfl, rfl, h3, by rw [h4.length]; exact h2, ?_⟩
      exact (Gd.okk kf) _ _ _ (R3.over hr hs n0' nf' nz' ⟨_, upd_same, ⟨rfl, hz.2⟩, DenAll.set (dv.mono e2.fz) j h4⟩)
    | false =>
      refine .inr (soundE hF v R1 (((g.step R1.ext).bind.mono fun p S1 g1 x H1 Hf1 e1 st1 dv => ?_ : Gd C Z H Hf1 E _ (KE Z H Hf1 _)).mono fun _ _ k => k.kk))
      have R2 := R1.step e1 st1
      refine ⟨_, hs, ?_⟩
      refine soundE hF i R2 (((g1.step e1).bind.mono fun y S2 g2 yv H2 Hf2 e2 st2 di => ?_ : Gd C Z H1 _ E _ (KE Z H1 _ _)).mono fun _ _ k => k.kk)
      have R3 := R2.step e2 st2
      obtain ⟨q', h1, kf⟩ := g2.bind.ofO
      obtain ⟨a', hs', n0', nf', nz', w', hr'⟩ := R3.lookO hq
      rw [hs] at hs'
      cases hs'
      obtain ⟨H4, h5, h6⟩ := own_put (D := fun H => D.nx σ H) R3.sub w' (dv.mono e2.fz) di h1 hb fun o w2 => (Gd.okk kf) _ _ _ (R3.over hr hs n0' nf' nz' w2)
      exact ⟨a, H4, rfl, h5, h6⟩
  | .app o v, ρ, S, σ, H, Hf, H0, Hf0, E, D, R, g => by
    simp only [evS] at g
    simp only [rdS]
    obtain ⟨k, ho, ga⟩ := g.bind.ofO
    clear g
    obtain ⟨q, hq, g⟩ := ga.bind.ofO
    clear ga
    cases o <;> first | (cases ho; done) | skip
    cases ho
    obtain ⟨Hf1, R1⟩ := R.share (esc v)
    obtain ⟨q0, hq0, hl⟩ := Option.bind_eq_some_iff.mp hq
    cases q0 <;> first | (cases hl; done) | skip
    cases hl
    obtain ⟨a, hs, n0, nf, nz, w, hr⟩ := R1.lookO hq0
    obtain ⟨us, h1, hz, h2⟩ := w
    refine ⟨_, hs, .inl ⟨rfl, us, sl_of h1⟩, ?_⟩
    refine soundE hF v R1 (((g.step R1.ext).bind.mono fun p S1 g1 x H1 Hf1 e1 st1 dv => ?_ : Gd C Z H Hf1 E _ (KE Z H Hf1 _)).mono fun _ _ k => k.kk)
    have R2 := R1.step e1 st1
    obtain ⟨q', h3, kf⟩ := g1.bind.ofO
    simp only [appP] at h3
    split at h3
    · rename_i hl
      cases h3
      have h4 := e1.old _ _ h1 nz
      have h5 := h2.mono e1.fz
      obtain ⟨a', hs', n0', nf', nz', w', hr'⟩ := R2.lookO hq0
      rw [hs] at hs'
      cases hs'
      refine ⟨a, us, x, rfl, rfl, h4, big_lt (by rw [h2.length]; exact Nat.le_of_lt hl), ?_⟩
      exact (Gd.okk kf) _ _ _ (R2.over hr hs n0' nf' nz' ⟨_, upd_same, ⟨rfl, hz.2⟩, h5.append (.cons dv .nil)⟩)
    · cases h3
  | .ext o v, ρ, S, σ, H, Hf, H0, Hf0, E, D, R, g => by
    simp only [evS] at g
    simp only [rdS]
    obtain ⟨k, ho, ga⟩ := g.bind.ofO
    clear g
    obtain ⟨q, hq, g⟩ := ga.bind.ofO
    clear ga
    cases o <;> first | (cases ho; done) | skip
    cases ho
    obtain ⟨Hf1, R1⟩ := R.share (esc v)
    obtain ⟨q0, hq0, hl⟩ := Option.bind_eq_some_iff.mp hq
    cases q0 <;> first | (cases hl; done) | skip
    cases hl
    obtain ⟨a, hs, n0, nf, nz, w, hr⟩ := R1.lookO hq0
    obtain ⟨us, h1, hz, h2⟩ := w
    refine ⟨_, hs, .inl ⟨rfl, us, sl_of h1⟩, ?_⟩
    refine soundE hF v R1 (((g.step R1.ext).bind.mono fun p S1 g1 x H1 Hf1 e1 st1 dv => ?_ : Gd C Z H Hf1 E _ (KE Z H Hf1 _)).mono fun _ _ k => k.kk)
    have R2 := R1.step e1 st1
    obtain ⟨q', h3, kf⟩ := g1.bind.ofO
    cases p <;> first | (simp [extP] at h3; done) | skip
    simp only [extP] at h3
    split at h3
    · rename_i hl
      cases h3
      have h4 := e1.old _ _ h1 nz
      have h5 := h2.mono e1.fz
      obtain ⟨a', hs', n0', nf', nz', w', hr'⟩ := R2.lookO hq0
      rw [hs] at hs'
      cases hs'
      cases dv with
      | lst hb _ db =>
        refine ⟨a, _, us, _, rfl, rfl, h4, R2.sub _ _ hb, big_le (by rw [h2.length, db.length]; exact hl), ?_⟩
        exact (Gd.okk kf) _ _ _ (R2.over hr hs n0' nf' nz' ⟨_, upd_same, ⟨rfl, hz.2⟩, h5.append db⟩)
    · cases h3
  | .ite c a b, ρ, S, σ, H, Hf, H0, Hf0, E, D, R, g => by
    simp only [evS] at g
    simp only [rdS]
    have g0 := g.bind
    obtain ⟨Hf0', R0⟩ := R.share (esc c)
    refine soundE hF c R0 (((Gd.step g0 R0.ext).mono fun px S1 g1 x H1 Hf1 e1 st1 dx => ?_ : Gd C Z H Hf0' E _ (KE Z H Hf0' _)).mono fun _ _ k => k.kk)
    obtain ⟨t, h2, k⟩ := g1.bind.ofO
    cases px <;> first | (cases h2; done) | skip
    cases h2
    cases dx
    refine ⟨_, rfl, ?_⟩
    cases t with
    | true => exact soundSs hF W a (R0.step e1 st1) k
    | false => exact soundSs hF W b (R0.step e1 st1) k
  | .for tg it b, ρ, S, σ, H, Hf, H0, Hf0, E, D, R, g => by
    simp only [evS] at g
    simp only [rdS]
    obtain ⟨Hf1, R1⟩ := R.share (escF it)
    have g0 := g.bind
    refine soundI hF true it R1 (fun _ => share_noOwn (tops_esc it)) ((Gd.step g0 R1.ext).mono fun items S1 g1 J H1 Hf2 e1 st1 ig => ?_)
    have R2 := R1.step e1 st1
    obtain ⟨G, Y, w, hG, hY⟩ := ig
    refine for_it w (fun i σ H => ∃ ρ S Hf, Rel Z H0 Hf2 ρ S σ H Hf ∧ Gd C Z H0 Hf2 E (forL (fun p ρ S => (ofO (bindTg tg p ρ) S).bind fun ρ2 S => evSs F W b ρ2 S) (items.drop i) ρ S) (KFl Z H0 Hf2 D)) ?_ ?_ ?_ ?_
    · exact ⟨_, S1, Hf2, R2.rebase, (Gd.base R2.ext g1).mono fun fl S k => k.base R2.ext⟩
    · rintro i σ' H' hi ⟨ρ', S', Hf', R', g'⟩
      exact hG H' Hf' ⟨R'.ext.fz, R'.sub⟩
    · rintro i x σ' H' H'' hi ⟨ρ', S', Hf', R', g'⟩ y
      rw [drop_at hi] at g'
      have g2 := forL_bind g'
      obtain ⟨ρ2, h2, g3⟩ := g2.bind.ofO
      obtain ⟨Hf3, e3, st3, dx⟩ := hY i x items[i] H' Hf' S' H'' (List.getElem?_eq_getElem hi) ⟨R'.ext.fz, R'.sub⟩ R'.sub R'.st y
      have R3 := R'.step e3 st3
      refine R3.bind dx h2 fun σ2 R4 _ => ?_
      refine soundSs hF W b R4 (g3.mono fun fl S2 k => ?_)
      cases fl with
      | nxt ρ1 => exact fun σ3 H3 Hf3 R5 => ⟨ρ1, S2, Hf3, R5, k⟩
      | ret q => exact k
    · rintro σ' H' ⟨ρ', S', Hf', R', g'⟩
      rw [List.drop_length] at g'
      exact (Gd.okk g') _ _ _ R'
  | .while c b, ρ, S, σ, H, Hf, H0, Hf0, E, D, R, g => by
    simp only [evS] at g
    simp only [rdS]
    refine ⟨fun m σ H => ∃ ρ S Hf, Rel Z H0 Hf0 ρ S σ H Hf ∧ Gd C Z H0 Hf0 E (whL (fun ρ S => (evE F c ρ S).bind fun x S1 => ofO (blOf x) S1) (fun ρ S => evSs F W b ρ S) m ρ S) (KFl Z H0 Hf0 D), ⟨W, ρ, S, Hf, R, g⟩, ?_⟩
    rintro m σ H ⟨ρ, S, Hf, R, g⟩
    cases m with
    | zero => exact g.elim
    | succ m =>
      have g1 : Gd C Z H0 Hf0 E (((evE F c ρ S).bind fun x S1 => ofO (blOf x) S1).bind fun b' S1 => if b' then (evSs F W b ρ S1).bind fun fl S2 => (match fl with
        | .nxt ρ1 => whL (fun ρ S => (evE F c ρ S).bind fun x S1 => ofO (blOf x) S1) (fun ρ S => evSs F W b ρ S) m ρ1 S2
        | .ret q => .ok (.ret q) S2) else .ok (.nxt ρ) S1) (KFl Z H0 Hf0 D) := g
      have g2 := g1.bind.bind
      refine soundE hF c R (((Gd.step g2 R.ext).mono fun px S1 g1 x H1 Hf1 e1 st1 dx => ?_ : Gd C Z H Hf E _ (KE Z H Hf _)).mono fun _ _ k => k.kk)
      obtain ⟨t, h2, k⟩ := g1.ofO
      cases px <;> first | (cases h2; done) | skip
      cases h2
      cases dx
      refine ⟨_, rfl, ?_⟩
      cases t with
      | true =>
        refine ⟨fun σ H => ∃ ρ S Hf, Rel Z H0 Hf0 ρ S σ H Hf ∧ Gd C Z H0 Hf0 E (whL (fun ρ S => (evE F c ρ S).bind fun x S1 => ofO (blOf x) S1) (fun ρ S => evSs F W b ρ S) m ρ S) (KFl Z H0 Hf0 D), fun σ' H' h => ⟨m, Nat.lt_succ_self m, h⟩, ?_⟩
        refine soundSs hF W b (R.step e1 st1) ((Gd.bind (show Gd C Z H0 Hf0 E ((evSs F W b ρ S1).bind _) _ from k)).mono fun fl S2 k => ?_)
        cases fl with
        | nxt ρ1 => exact fun σ3 H3 Hf3 R5 => ⟨ρ1, S2, Hf3, R5, k⟩
        | ret q => exact k
      | false => exact (Gd.okk k) _ _ _ (R.step e1 st1)
  | .ret e, ρ, S, σ, H, Hf, H0, Hf0, E, D, R, g => by
    simp only [evS] at g
    simp only [rdS]
    obtain ⟨Hf1, R1⟩ := R.share (esc e)
    exact soundE hF e R1 (((g.step R1.ext).bind.mono fun p S1 k v H' Hf' e1 st1 d => (Gd.okk k) _ _ _ (R1.ext.trans e1) st1 d : Gd C Z H Hf1 E _ (KE Z H Hf1 D.rt)).mono fun _ _ k => k.kk)
  | .retN, ρ, S, σ, H, Hf, H0, Hf0, E, D, R, g => by
    simp only [evS] at g
    simp only [rdS]
    exact (Gd.okk g) _ _ _ R.ext R.st .non
  | .drop e, ρ, S, σ, H, Hf, H0, Hf0, E, D, R, g => by
    simp only [evS] at g
    simp only [rdS]
    obtain ⟨Hf1, R1⟩ := R.share (esc e)
    exact soundE hF e R1 (((g.step R1.ext).bind.mono fun p S1 k v H' Hf' e1 st1 d => (Gd.okk k) _ _ _ (R1.step e1 st1) : Gd C Z H Hf1 E _ (KE Z H Hf1 _)).mono fun _ _ k => k.kk)
  | .pass, ρ, S, σ, H, Hf, H0, Hf0, E, D, R, g => by
    simp only [evS] at g
    simp only [rdS]
    exact (Gd.okk g) _ _ _ R
  | .never, ρ, S, σ, H, Hf, H0, Hf0, E, D, R, g => by
    simp only [evS] at g
    exact g.elim
theorem soundSs (hF : FSound C Z F) (W : Nat) : ∀ (s : Sxs) {ρ : Env'} {S : SS} {σ : L2.St} {H Hf H0 Hf0 : Hp} {E : XK} {D : Ends}, Rel Z H0 Hf0 ρ S σ H Hf → Gd C Z H0 Hf0 E (evSs F W s ρ S) (KFl Z H0 Hf0 D) → rdSs C E s D σ H
  | .nil, ρ, S, σ, H, Hf, H0, Hf0, E, D, R, g => by
    simp only [evSs] at g
    simp only [rdSs]
    exact (Gd.okk g) _ _ _ R
  | .cons s r, ρ, S, σ, H, Hf, H0, Hf0, E, D, R, g => by
    simp only [evSs] at g
    simp only [rdSs]
    refine soundS hF W s R (g.bind.mono fun fl S1 k => ?_)
    cases fl with
    | nxt ρ1 => exact fun σ' H' Hf' R' => soundSs hF W r R' k
    | ret q => exact k
end
end
end Bb

set_option maxRecDepth 100000
set_option maxHeartbeats 4000000
/-! A table of defs: each keeps the promise that the pure evaluator tells, by the level of calls. -/
namespace Bb
open L2 PyProof.Rows PySem.Spec PySem
structure Dfn where
  x : Str
  N : List Str
  k : Nat
  kw : Bool
  st : Stmt
  body : Sxs
def Dfn.ps (d : Dfn) : List Str := d.N.take d.k
def Dfn.fe (d : Dfn) : FnE := ⟨d.x, d.ps, d.kw⟩
def startP (d : Dfn) (ps : List PV) : Env' := ps.map (fun p => some ⟨false, p⟩) ++ List.replicate (d.N.length - ps.length) none
def retOf : Fl → SS → Rs PV := fun fl S => match fl with
  | .ret p => .ok p S
  | .nxt _ => .ok .non S
/-- the defs, the primitives, the whiles' fuel -/
structure Tb where
  T : List Dfn
  P : List FnE
  PF : Nat → List PV → SS → Rs PV
  W : Nat
def Tb.FN (t : Tb) : List FnE := t.T.map Dfn.fe ++ t.P
def callN (t : Tb) : Nat → Nat → List PV → SS → Rs PV
  | 0, _, _, _ => .no
  | n + 1, f, ps, S => match t.T[f]? with
    | some d => if ps.length = d.k then (evSs (callN t n) t.W d.body (startP d ps) S).bind retOf else .no
    | none => t.PF f ps S
/-- what is looked at of a def -/
def ckD (t : Tb) (d : Dfn) : Bool := ckSs d.N t.FN (defScope d.st) d.body (defBody d.st) && decide (d.k ≤ d.N.length)
def scK (sc : Scope) : Bool := match sc.kind with
  | .function => !(sc.isCoroutine || sc.isGenerator)
  | _ => false
def ckScope (d : Dfn) (sc : Scope) : Bool := scK sc && (decide d.N.Nodup && d.ps.all (loc sc)) && (sc.names.all fun y => match y.2 with | .free => false | _ => true)
theorem scope_of {d : Dfn} {sc : Scope} (h : ckScope d sc = true) : FnScope d.N d.ps sc := by
  unfold ckScope at h
  rw [Bool.and_eq_true, Bool.and_eq_true, Bool.and_eq_true, decide_eq_true_eq] at h
  obtain ⟨⟨a, b, c⟩, f⟩ := h
  have hk : sc.kind = .function ∧ sc.isCoroutine = false ∧ sc.isGenerator = false := by
    unfold scK at a
    split at a
    · rename_i q
      rw [Bool.not_eq_true', Bool.or_eq_false_iff] at a
      exact ⟨q, a.1, a.2⟩
    · cases a
  refine ⟨hk.1, hk.2.1, hk.2.2, b, ?_, fun x hx => ?_, fun y hy e => ?_⟩
  · unfold Dfn.ps
    rw [List.length_take, List.take_eq_take_iff]
    omega
  · have z := List.all_eq_true.mp c x hx
    unfold loc at z
    split at z
    · rename_i q
      exact .inl q
    · rename_i q
      exact .inr q
    · cases z
  · have z := List.all_eq_true.mp f y hy
    rw [e] at z
    cases z
/-- the module's facts of a def -/
structure DefF (K : PySem.W.Frag) (mg : Str → Option Value) (d : Dfn) : Prop where
  ex : ∃ a fd, Fun K d.x d.x d.st a fd ∧ mg d.x = some (.ref a) ∧ Binds K fd d.ps [] ∧ (d.kw = true → KB0 K fd d.ps)
structure TbX where
  xa : Nat → Addr
  xf : Nat → Str
def rc0 (K : PySem.W.Frag) (x : TbX) : RC := ⟨K, fun _ _ _ _ _ => False, 0, x.xa, x.xf⟩
def spN (K : PySem.W.Frag) (x : TbX) (t : Tb) (n f : Nat) : Sp := fun vs H Q E => ∃ Z Hf ps S, Sub Hf H ∧ StAt Z H Hf S ∧ DenAll Z Hf vs ps ∧ Gd (rc0 K x) Z H Hf E (callN t n f ps S) (KE Z H Hf Q)
def rcN (K : PySem.W.Frag) (x : TbX) (t : Tb) (j n : Nat) : RC := ⟨K, spN K x t n, n + j, x.xa, x.xf⟩
theorem Gd.rc {C C' : RC} {Z : Zn} {H Hf : Hp} {E : XK} {α : Type} {r : Rs α} {K : α → SS → Prop} (h1 : C.xa = C'.xa) (h2 : C.xf = C'.xf) (g : Gd C Z H Hf E r K) : Gd C' Z H Hf E r K := by
  cases r with
  | no => exact g
  | ok a S => exact g
  | ex c p S =>
    unfold Gd at g ⊢
    rw [← h1, ← h2]
    exact g
theorem fsound (K : PySem.W.Frag) (x : TbX) (t : Tb) (j n : Nat) (Z : Zn) : FSound (rcN K x t j n) Z (callN t n) := fun f vs ps S H Hf E Q s st d g => ⟨Z, Hf, ps, S, s, st, d, Gd.rc rfl rfl g⟩
theorem rel_start {Z : Zn} {H Hf : Hp} {S : SS} (d : Dfn) {vs : List V} {ps : List PV} (s : Sub Hf H) (st : StAt Z H Hf S) (dn : DenAll Z Hf vs ps) : Rel Z H Hf (startP d ps) S (L2.start d.N vs) H Hf where
  ext := Ext.refl s
  st := st
  len := by
    unfold L2.start startP
    simp only [List.length_append, List.length_map, List.length_replicate, dn.length]
  sl := fun i sl h => by
    unfold startP at h
    rw [List.getElem?_append] at h
    split at h
    · rename_i hl
      rw [List.getElem?_map] at h
      obtain ⟨p, h1, h2⟩ := Option.map_eq_some_iff.mp h
      cases h2
      obtain ⟨v, h3, h4⟩ := dn.get h1
      refine ⟨v, ?_, h4⟩
      unfold L2.start
      rw [List.getElem?_append_left (by rw [List.length_map, dn.length]; simpa using hl), List.getElem?_map, h3]
      rfl
    · rw [List.getElem?_replicate] at h
      split at h <;> cases h
  apart := fun i j p q a _ h _ _ => by
    unfold startP at h
    rw [List.getElem?_append] at h
    split at h
    · rw [List.getElem?_map] at h
      obtain ⟨p, h1, h2⟩ := Option.map_eq_some_iff.mp h
      cases h2
    · rw [List.getElem?_replicate] at h
      split at h <;> cases h
section
variable {P : Program} {w : World} {K : PySem.W.Frag} {mg : Str → Option Value} {base : Heap} {x : TbX} {t : Tb} {j : Nat}
/-- the promises of all that may be called -/
def GFn (P : Program) (w : World) (K : PySem.W.Frag) (mg : Str → Option Value) (base : Heap) (FN : List FnE) (k : Nat) (sp : Nat → Sp) : Prop := ∀ f d, FN[f]? = some d → ∃ a fd, FnOk P w K mg base (L2.CX P w) k a fd d.ps (sp f) ∧ mg d.x = some (.ref a) ∧ PySem.W.keepIn K (.ref a) = true ∧ Binds K fd d.ps [] ∧ (d.kw = true → KB0 K fd d.ps)
theorem sok_of {C : RC} {FN : List FnE} {d : Dfn} {a : Addr} {cdv : Value} {A : Around} {outer : List Env} {s : Shared} {H : Hp} {E : XK} {ps : List Str} (S : FnScope d.N ps (defScope d.st)) (hK : C.K = K) (hr : Room C.k (A.deeper (envOfC d.x (defScope d.st) s.heap.objs.size a cdv)))
    (hf : GFn P w K mg base FN C.k C.sp) (hb : ∀ x ∈ bNames, mg x = none) : SOk C d.N FN (defScope d.st) E (cxOf (L2.CX P w) P w K mg base d.N d.x (defScope d.st) a cdv A outer s H E) where
  nN := rfl
  nd := S.nd
  scp := fun x k h => .inl h
  fnp := fun _ _ => rfl
  calm := rfl
  g := ⟨hK, hr, hf, hb⟩
  pass := passes_call (takes_of rfl rfl rfl rfl) fun _ _ _ _ h => h
  sce := rfl
  kind := S.kind
  hp := passes_of rfl
theorem fn_step {n : Nat} {f : Nat} {d : Dfn} {a : Addr} {fd : FuncData} (hd : t.T[f]? = some d) (F : Fun K d.x d.x d.st a fd) (S : FnScope d.N d.ps (defScope d.st)) (hc : ckD t d = true) (hb : ∀ x ∈ bNames, mg x = none)
    (ih : GFn P w K mg base t.FN (n + j) (spN K x t n)) : FnOk P w K mg base (L2.CX P w) (n + 1 + j) a fd d.ps (spN K x t (n + 1) f) := by
  unfold ckD at hc
  rw [Bool.and_eq_true, decide_eq_true_eq] at hc
  have e : n + 1 + j = n + j + 1 := by omega
  rw [e]
  refine Fun.okX F S (fun vs H Q E h => ?_) fun cdv A outer s H vs Q E hr h => ?_
  · obtain ⟨Z, Hf, ps, S0, h1, h2, h3, h4⟩ := h
    simp only [callN, hd] at h4
    obtain ⟨hl, _⟩ := h4.ifp
    rw [h3.length, hl]
    unfold Dfn.ps
    rw [List.length_take]
    omega
  · obtain ⟨Z, Hf, ps, S0, h1, h2, h3, h4⟩ := h
    simp only [callN, hd] at h4
    obtain ⟨hl, g⟩ := h4.ifp
    have ok : SOk (rcN K x t j n) d.N t.FN (defScope d.st) E (cxOf (L2.CX P w) P w K mg base d.N d.x (defScope d.st) a cdv A outer s H E) := sok_of S rfl hr ih hb
    refine ⟨_, ckSs_ok ok d.body _ hc.1, soundSs (fsound K x t j n Z) t.W d.body (rel_start d h1 h2 h3) ((Gd.rc rfl rfl g).bind.mono fun fl S1 k => ?_)⟩
    cases fl with
    | nxt ρ => exact fun σ H' Hf' R => (show KE Z H Hf Q .non S1 from k) .non H' Hf' R.ext R.st .non
    | ret p => exact fun v H' Hf' e st dn => (show KE Z H Hf Q p S1 from k) v H' Hf' e st dn
/-- all of them, at each level -/
theorem all_ok (hT : ∀ d ∈ t.T, DefF K mg d ∧ FnScope d.N d.ps (defScope d.st) ∧ ckD t d = true) (hb : ∀ x ∈ bNames, mg x = none)
    (hP : ∀ i d, t.P[i]? = some d → ∃ a fd, (∀ n, FnOk P w K mg base (L2.CX P w) (n + j) a fd d.ps (spN K x t n (t.T.length + i))) ∧ mg d.x = some (.ref a) ∧ PySem.W.keepIn K (.ref a) = true ∧ Binds K fd d.ps [] ∧ (d.kw = true → KB0 K fd d.ps)) :
    ∀ n : Nat, GFn P w K mg base t.FN (n + j) (spN K x t n)
  | n, f, d, hd => by
    unfold Tb.FN at hd
    rw [List.getElem?_append] at hd
    split at hd
    · rename_i hl
      rw [List.getElem?_map] at hd
      obtain ⟨d0, h1, h2⟩ := Option.map_eq_some_iff.mp hd
      subst h2
      obtain ⟨⟨a, fd, F, hm, hB, hk⟩, S, hc⟩ := hT d0 (List.mem_of_getElem? h1)
      refine ⟨a, fd, ?_, hm, F.kp, hB, hk⟩
      cases n with
      | zero =>
        refine ⟨fun vs H Q E h => ?_, fun A outer s H args us vs Q E _ _ _ _ h => ?_⟩
        · obtain ⟨Z, Hf, ps, S0, _, _, _, h4⟩ := h
          exact h4.elim
        · obtain ⟨Z, Hf, ps, S0, _, _, _, h4⟩ := h
          exact h4.elim
      | succ n => exact fn_step h1 F S hc hb (all_ok hT hb hP n)
    · rename_i hl
      obtain ⟨a, fd, F, h⟩ := hP _ _ hd
      have e : t.T.length + (f - (t.T.map Dfn.fe).length) = f := by
        rw [List.length_map] at hl ⊢
        omega
      rw [e] at F
      exact ⟨a, fd, F n, h⟩
end
end Bb

set_option maxRecDepth 100000
set_option maxHeartbeats 4000000
/-! The stream of draws: its def by hand over the reading of its text. -/
namespace Bb
open L2 PyProof.Rows PySem.Spec PySem

/-! ### the stream's law -/
def hashN (h x : Int) : Int := (h * 6151 + (if x < 0 then -x else x) + 7).fmod 2147483629
def cellN (x : Int) : Int := if (10 : Int) ^ 18 ≤ (if x < 0 then -x else x) then (if x < 0 then -x else x) else 0
def dLoop : List Int → Int → Int → List Int × Int × Int
  | [], c, h => ([], c, h)
  | x :: sc, c, h => if c = 0 then dLoop sc (cellN x) (hashN h x) else (x :: sc, c, h)
def mixN (h k : Int) : Int := ((h + 8191 * k + 50021) ^ 5).fmod 2147483587
def outN (mx k m : Int) : Int := (((mx * 40009 + 20011 * k + 31) ^ 3).fmod 1000000009).fmod m
def drawP (S : SS) (m : Int) : Rs PV :=
  if 0 < m ∧ m < 1073741824 ∧ 0 ≤ S.count ∧ S.count < 1000000000 ∧ 0 ≤ S.hash ∧ S.hash < 2147483648 then
    (match dLoop S.script S.cell S.hash with
      | (sc, c, h) => if c > 0 then .ok (.int (c.fmod m)) ⟨sc, c.fdiv m, S.count + 1, h⟩ else .ok (.int (outN (mixN h (S.count + 1)) (S.count + 1) m)) ⟨sc, c, S.count + 1, h⟩)
  else .no
def drawF : List PV → SS → Rs PV
  | [.strm, .int m], S => drawP S m
  | _, _ => .no
theorem hashN_ok (h x : Int) : 0 ≤ hashN h x ∧ hashN h x < 2147483648 := by
  unfold hashN
  have h1 := Int.fmod_nonneg_of_pos (h * 6151 + (if x < 0 then -x else x) + 7) (b := 2147483629) (by omega)
  have h2 := Int.fmod_lt_of_pos (h * 6151 + (if x < 0 then -x else x) + 7) (b := 2147483629) (by omega)
  omega
theorem dLoop_hash : ∀ (sc : List Int) (c h : Int), 0 ≤ h → h < 2147483648 → 0 ≤ (dLoop sc c h).2.2 ∧ (dLoop sc c h).2.2 < 2147483648
  | [], c, h, h1, h2 => ⟨h1, h2⟩
  | x :: sc, c, h, h1, h2 => by
    unfold dLoop
    split
    · exact dLoop_hash sc _ _ (hashN_ok h x).1 (hashN_ok h x).2
    · exact ⟨h1, h2⟩
/-- a draw: a number below m, the stream goes on -/
theorem draw_ok {S : SS} {m : Int} (h1 : 0 < m) (h2 : m < 1073741824) (h3 : 0 ≤ S.count) (h4 : S.count < 1000000000) (h5 : 0 ≤ S.hash) (h6 : S.hash < 2147483648) :
    ∃ r S', drawP S m = .ok (.int r) S' ∧ 0 ≤ r ∧ r < m ∧ S'.count = S.count + 1 ∧ 0 ≤ S'.hash ∧ S'.hash < 2147483648 := by
  unfold drawP
  rw [if_pos ⟨h1, h2, h3, h4, h5, h6⟩]
  obtain ⟨a, b⟩ := dLoop_hash S.script S.cell S.hash h5 h6
  generalize dLoop S.script S.cell S.hash = z at a b
  obtain ⟨sc, c, h⟩ := z
  by_cases hc : c > 0
  · exact ⟨c.fmod m, ⟨sc, c.fdiv m, S.count + 1, h⟩, by simp only [if_pos hc], Int.fmod_nonneg_of_pos _ h1, Int.fmod_lt_of_pos _ h1, rfl, a, b⟩
  · exact ⟨outN (mixN h (S.count + 1)) (S.count + 1) m, ⟨sc, c, S.count + 1, h⟩, by simp only [if_neg hc], Int.fmod_nonneg_of_pos _ h1, Int.fmod_lt_of_pos _ h1, rfl, a, b⟩
/-! ### values by hand -/
def Val (C : RC) (E : XK) (e : Ex) (σ : L2.St) (H : Hp) (v : V) : Prop := ∀ Q : VK, Q v H → rdE C E e σ H Q
section
variable {C : RC} {E : XK} {σ : L2.St} {H : Hp} {a b c : Ex} {i j : Int} {v : V}
theorem Val.var {k : Nat} (h : σ[k]? = some (some v)) : Val C E (.var k) σ H v := fun Q q => by
  simp only [rdE]
  exact ⟨v, h, q⟩
theorem Val.int : Val C E (.int i) σ H (.int i) := fun Q q => by
  simp only [rdE]
  exact q
theorem Val.str {s : Str} : Val C E (.str s) σ H (.str s) := fun Q q => by
  simp only [rdE]
  exact q
theorem Val.add (ha : Val C E a σ H (.int i)) (hb : Val C E b σ H (.int j)) : Val C E (.bin .add a b) σ H (.int (i + j)) := fun Q q => by
  simp only [rdE]
  exact ha _ (hb _ (.inl ⟨_, _, rfl, rfl, q⟩))
theorem Val.mul (ha : Val C E a σ H (.int i)) (hb : Val C E b σ H (.int j)) (h : CMul i j) : Val C E (.bin .mul a b) σ H (.int (i * j)) := fun Q q => by
  simp only [rdE]
  exact ha _ (hb _ (.inl ⟨_, _, rfl, rfl, h, q⟩))
theorem Val.fdiv (ha : Val C E a σ H (.int i)) (hb : Val C E b σ H (.int j)) (h : CDivN i j) : Val C E (.bin .fdiv a b) σ H (.int (i.fdiv j)) := fun Q q => by
  simp only [rdE]
  exact ha _ (hb _ (.inl ⟨_, _, rfl, rfl, h, q⟩))
theorem Val.mod (ha : Val C E a σ H (.int i)) (hb : Val C E b σ H (.int j)) (h : j ≠ 0) : Val C E (.bin .mod a b) σ H (.int (i.fmod j)) := fun Q q => by
  simp only [rdE]
  exact ha _ (hb _ ⟨_, _, rfl, rfl, h, q⟩)
theorem Val.pow (ha : Val C E a σ H (.int i)) (hb : Val C E b σ H (.int j)) (h : CPow i j) : Val C E (.bin .pow a b) σ H (.int (i ^ j.toNat)) := fun Q q => by
  simp only [rdE]
  exact ha _ (hb _ ⟨_, _, rfl, rfl, h, q⟩)
theorem Val.ge (ha : Val C E a σ H (.int i)) (hb : Val C E b σ H (.int j)) : Val C E (.cmp .ge a b) σ H (.bl (decide (j ≤ i))) := fun Q q => by
  simp only [rdE]
  exact ha _ (hb _ (.inl ⟨_, _, rfl, rfl, q⟩))
theorem Val.gt (ha : Val C E a σ H (.int i)) (hb : Val C E b σ H (.int j)) : Val C E (.cmp .gt a b) σ H (.bl (decide (j < i))) := fun Q q => by
  simp only [rdE]
  exact ha _ (hb _ (.inl ⟨_, _, rfl, rfl, q⟩))
theorem Val.eqI (ha : Val C E a σ H (.int i)) (hb : Val C E b σ H (.int j)) : Val C E (.cmp .eq a b) σ H (.bl (i == j)) := fun Q q => by
  simp only [rdE]
  exact ha _ (hb _ (.inl ⟨rfl, by rw [dec_int]; exact q⟩))
theorem Val.ite {t : Bool} (hc : Val C E c σ H (.bl t)) (ha : t = true → Val C E a σ H v) (hb : t = false → Val C E b σ H v) : Val C E (.ite c a b) σ H v := fun Q q => by
  simp only [rdE]
  refine hc _ ⟨t, rfl, ?_⟩
  cases t with
  | true => exact ha rfl Q q
  | false => exact hb rfl Q q
theorem Val.toInt (ha : Val C E a σ H (.int i)) : Val C E (.bf .int (.cons a .nil)) σ H (.int i) := fun Q q => by
  simp only [rdE, rdEs]
  exact ha _ (.inl ⟨_, rfl, q⟩)
theorem Val.ix {p : Addr} {xs : List V} (ha : Val C E a σ H (.ref p)) (hb : Val C E b σ H (.int i)) (h : H p = some (.lst xs)) (e : atI xs i = some v) : Val C E (.idx a b) σ H v := fun Q q => by
  simp only [rdE]
  exact .inl (ha _ (hb _ (.inl ⟨p, xs, i, v, rfl, rfl, sl_of h, e, q⟩)))
theorem rd_put {D : Ends} {p : Addr} {xs : List V} {k : Nat} {o e : Ex} (ho : Val C E o σ H (.ref p)) (hb : Val C E b σ H (.int i)) (he : Val C E e σ H v) (h : H p = some (.lst xs)) (hk : ixN xs.length i = some k) (q : D.nx σ (upd H p (.lst (xs.set k v)))) : rdS C E (.put o b e) D σ H := by
  simp only [rdS]
  exact .inl (he _ (ho _ (hb _ ⟨p, xs, i, k, rfl, rfl, h, hk, q⟩)))
theorem rd_set {D : Ends} {k : Nat} {e : Ex} (he : Val C E e σ H v) (q : D.nx (σ.set k (some v)) H) : rdS C E (.set k e) D σ H := by
  simp only [rdS]
  exact he _ q
theorem rd_ret {D : Ends} {e : Ex} (he : Val C E e σ H v) (q : D.rt v H) : rdS C E (.ret e) D σ H := by
  simp only [rdS]
  exact he _ q
end
theorem seq0 {α : Type} {x : α} (xs : List α) : seqIndex? 0 (x :: xs).length = some 0 := by
  unfold seqIndex?
  rw [List.length_cons]
  simp
  try omega
theorem ift {c : Bool} {A B : Prop} (h : c = true) (a : A) : if c = true then A else B := by
  rw [if_pos h]
  exact a
theorem iff' {c : Bool} {A B : Prop} (h : c = false) (a : B) : if c = true then A else B := by
  rw [if_neg (by rw [h]; simp)]
  exact a
/-! ### the stream's heap -/
theorem Ext.up {Z : Zn} {H0 Hf0 H Hf : Hp} {p : Addr} {o : HO} (e : Ext Z H0 Hf0 H Hf) (z : InZ Z p) (n : Hf p = none) : Ext Z H0 Hf0 (upd H p o) Hf := by
  refine ⟨fun a u h nz => ?_, fun a u h => ?_, e.fz, fun a u h => ?_, e.new⟩
  · rw [upd_ne (fun q => nz (by rw [q]; exact z))]
    exact e.old a u h nz
  · exact old_upd (e.dom a u h)
  · rw [upd_ne (fun q => by rw [q, n] at h; cases h)]
    exact e.sub a u h
theorem StAt.upA {Z : Zn} {H Hf : Hp} {S : SS} {a b : Addr} {c k h : Int} (st : StAt Z H Hf S) (z : Z.st = some (a, b)) : StAt Z (upd H a (.lst [.ref b, .int c, .int k, .int h])) Hf ⟨S.script, c, k, h⟩ := ⟨fun x q => old_upd (st.all x q), fun p hp => by
  rw [z] at hp
  cases hp
  obtain ⟨h1, h2, h3, h4, h5⟩ := st.str _ z
  exact ⟨upd_same, by rw [upd_ne (fun q => h5 q.symm)]; exact h2, h3, h4, h5⟩⟩
theorem StAt.upB {Z : Zn} {H Hf : Hp} {S : SS} {a b : Addr} {sc : List Int} (st : StAt Z H Hf S) (z : Z.st = some (a, b)) : StAt Z (upd H b (.lst (sc.map .int))) Hf ⟨sc, S.cell, S.count, S.hash⟩ := ⟨fun x q => old_upd (st.all x q), fun p hp => by
  rw [z] at hp
  cases hp
  obtain ⟨h1, h2, h3, h4, h5⟩ := st.str _ z
  exact ⟨by rw [upd_ne h5]; exact h1, upd_same, h3, h4, h5⟩⟩
theorem ints_dp {K : PySem.W.Frag} {H : Hp} : ∀ is : List Int, DpAll K H (is.map V.int) (is.map PyData.int)
  | [] => .nil
  | i :: is => .cons (.int i) (ints_dp is)
theorem ints_lay : ∀ is : List Int, PyData.canLayAll0 (is.map PyData.int) = true ∧ PyData.depthAll (is.map PyData.int) = 0
  | [] => ⟨rfl, rfl⟩
  | i :: is => by
    obtain ⟨a, b⟩ := ints_lay is
    refine ⟨?_, ?_⟩
    · show (PyData.canLay0 (.int i) && PyData.canLayAll0 (is.map PyData.int)) = true
      rw [a]
      rfl
    · show max (PyData.depth (.int i)) (PyData.depthAll (is.map PyData.int)) = 0
      rw [b]
      rfl
theorem ints_shaped (is : List Int) : SeqAt.shaped (.list (is.map PyData.int)) = true := by
  obtain ⟨a, b⟩ := ints_lay is
  show (PyData.canLayAll0 (is.map PyData.int) && decide (PyData.depthAll (is.map PyData.int) + 1 ≤ 64)) = true
  rw [a, b]
  rfl
def drawB : Sxs :=
  .cons (.put (.var 0) (.int 2) (.bin .add (.idx (.var 0) (.int 2)) (.int 1))) (.cons (.while (.and (.cmp .eq (.idx (.var 0) (.int 1)) (.int 0)) (.cmp .ne (.idx (.var 0) (.int 0)) (.lst (.nil)))) (.cons (.set 2 (.bf .abs (.cons (.pop0 (.idx (.var 0) (.int 0))) (.nil)))) (.cons (.put (.var 0) (.int 3) (.bin .mod (.bf .int (.cons (.bin .add (.bin .add (.bin .mul (.idx (.var 0) (.int 3)) (.int 6151)) (.var 2)) (.int 7)) (.nil))) (.int 2147483629))) (.cons (.put (.var 0) (.int 1) (.ite (.cmp .ge (.var 2) (.bin .pow (.int 10) (.int 18))) (.var 2) (.int 0))) (.nil))))) (.cons (.ite (.cmp .gt (.idx (.var 0) (.int 1)) (.int 0)) (.cons (.set 3 (.bin .mod (.bf .int (.cons (.idx (.var 0) (.int 1)) (.nil))) (.var 1))) (.cons (.put (.var 0) (.int 1) (.bin .fdiv (.idx (.var 0) (.int 1)) (.var 1))) (.cons (.ret (.var 3)) (.nil)))) (.nil)) (.cons (.set 4 (.bin .mod (.bf .int (.cons (.bin .pow (.bin .add (.bin .add (.idx (.var 0) (.int 3)) (.bin .mul (.int 8191) (.idx (.var 0) (.int 2)))) (.int 50021)) (.int 5)) (.nil))) (.int 2147483587))) (.cons (.ret (.bin .mod (.bin .mod (.bf .int (.cons (.bin .pow (.bin .add (.bin .add (.bin .mul (.var 4) (.int 40009)) (.bin .mul (.int 20011) (.idx (.var 0) (.int 2)))) (.int 31)) (.int 3)) (.nil))) (.int 1000000009)) (.var 1))) (.nil)))))
section
variable {C : RC} {Z : Zn} {H Hf : Hp} {E : XK}
theorem draw_rd {S : SS} {a b : Addr} {m : Int} {Q : VK} (s : Sub Hf H) (st : StAt Z H Hf S) (z : Z.st = some (a, b)) (g : Gd C Z H Hf E (drawP S m) (KE Z H Hf Q)) :
    rdSs C E drawB { nx := fun _ H' => Q .non H', rt := Q } [some (.ref a), some (.int m), none, none, none] H := by
  unfold drawP at g
  obtain ⟨⟨m1, m2, k1, k2, h1, h2⟩, g⟩ := g.ifp
  have za : InZ Z a := ⟨_, z, .inl rfl⟩
  have zb : InZ Z b := ⟨_, z, .inr rfl⟩
  obtain ⟨q1, q2, q3, q4, q5⟩ := st.str _ z
  obtain ⟨hb1, hb2⟩ := dLoop_hash S.script S.cell S.hash h1 h2
  have hz : ∃ t, t = dLoop S.script S.cell S.hash := ⟨_, rfl⟩
  obtain ⟨⟨sc', c', h'⟩, hz⟩ := hz
  rw [← hz] at g hb1 hb2
  have g : Gd C Z H Hf E (if c' > 0 then .ok (.int (c'.fmod m)) ⟨sc', c'.fdiv m, S.count + 1, h'⟩ else .ok (.int (outN (mixN h' (S.count + 1)) (S.count + 1) m)) ⟨sc', c', S.count + 1, h'⟩) (KE Z H Hf Q) := g
  have v0 : ∀ {H : Hp} {x y w : Option V}, Val C E (.var 0) [some (.ref a), some (.int m), x, y, w] H (.ref a) := Val.var rfl
  have v1 : ∀ {H : Hp} {x y w : Option V}, Val C E (.var 1) [some (.ref a), some (.int m), x, y, w] H (.int m) := Val.var rfl
  show rdS C E _ _ _ _
  refine rd_put (k := 2) v0 .int (.add (.ix v0 .int q1 rfl) .int) q1 rfl ?_
  have e1 := (Ext.refl s).up (o := .lst [.ref b, .int S.cell, .int (S.count + 1), .int S.hash]) za q3
  have st1 := st.upA (c := S.cell) (k := S.count + 1) (h := S.hash) z
  show rdS C E _ _ _ (upd H a (.lst [.ref b, .int S.cell, .int (S.count + 1), .int S.hash]))
  simp only [rdS]
  refine ⟨fun n σ H' => ∃ S' x, σ = [some (.ref a), some (.int m), x, none, none] ∧ Ext Z H Hf H' Hf ∧ StAt Z H' Hf S' ∧ S'.script.length = n ∧ S'.count = S.count + 1 ∧ dLoop S'.script S'.cell S'.hash = (sc', c', h') ∧ 0 ≤ S'.hash ∧ S'.hash < 2147483648, ⟨S.script.length, ⟨S.script, S.cell, S.count + 1, S.hash⟩, none, rfl, e1, st1, rfl, rfl, hz.symm, h1, h2⟩, ?_⟩
  rintro n σ H1 ⟨S1, x, rfl, e2, st2, hn, hk, hd, i1, i2⟩
  obtain ⟨r1, r2, r3, r4, r5⟩ := st2.str _ z
  have w0 : ∀ {H : Hp} {x y w : Option V}, Val C E (.var 0) [some (.ref a), some (.int m), x, y, w] H (.ref a) := Val.var rfl
  have c1 : Val C E (.cmp .eq (.idx (.var 0) (.int 1)) (.int 0)) [some (.ref a), some (.int m), x, none, none] H1 (.bl (S1.cell == 0)) := .eqI (.ix w0 .int r1 rfl) .int
  have done : ∀ {H2 : Hp} {S2 : SS}, Ext Z H Hf H2 Hf → StAt Z H2 Hf S2 → S2.count = S.count + 1 → (S2.script, S2.cell, S2.hash) = (sc', c', h') →
      rdSs C E (.cons (.ite (.cmp .gt (.idx (.var 0) (.int 1)) (.int 0)) (.cons (.set 3 (.bin .mod (.bf .int (.cons (.idx (.var 0) (.int 1)) (.nil))) (.var 1))) (.cons (.put (.var 0) (.int 1) (.bin .fdiv (.idx (.var 0) (.int 1)) (.var 1))) (.cons (.ret (.var 3)) (.nil)))) (.nil)) (.cons (.set 4 (.bin .mod (.bf .int (.cons (.bin .pow (.bin .add (.bin .add (.idx (.var 0) (.int 3)) (.bin .mul (.int 8191) (.idx (.var 0) (.int 2)))) (.int 50021)) (.int 5)) (.nil))) (.int 2147483587))) (.cons (.ret (.bin .mod (.bin .mod (.bf .int (.cons (.bin .pow (.bin .add (.bin .add (.bin .mul (.var 4) (.int 40009)) (.bin .mul (.int 20011) (.idx (.var 0) (.int 2)))) (.int 31)) (.int 3)) (.nil))) (.int 1000000009)) (.var 1))) (.nil)))) { nx := fun _ H' => Q .non H', rt := Q } [some (.ref a), some (.int m), x, none, none] H2 := by
    intro H2 S2 e st hc he
    obtain ⟨sc2, cc2, kk2, hh2⟩ := S2
    have hc : kk2 = S.count + 1 := hc
    subst hc
    have he : (sc2, cc2, hh2) = (sc', c', h') := he
    injection he with he1 he
    injection he with he2 he3
    subst he1 he2 he3
    obtain ⟨t1, t2, t3, t4, t5⟩ := st.str _ z
    show rdS C E _ _ _ _
    simp only [rdS]
    refine (Val.gt (.ix w0 .int t1 rfl) .int) _ ⟨_, rfl, ?_⟩
    by_cases hp : cc2 > 0
    · rw [if_pos hp] at g
      refine ift (decide_eq_true hp) ?_
      show rdS C E _ _ _ _
      refine rd_set (.mod (.toInt (.ix w0 .int t1 rfl)) (.var rfl) (by omega)) ?_
      show rdS C E _ _ _ _
      refine rd_put (k := 1) (.var rfl) .int (.fdiv (.ix (.var rfl) .int t1 rfl) (.var rfl) ⟨by omega, by omega⟩) t1 rfl ?_
      show rdS C E _ _ _ _
      refine rd_ret (.var rfl) ?_
      exact (Gd.okk g) _ _ _ (e.up za t3) (st.upA z) (.int _)
    · rw [if_neg hp] at g
      refine iff' (decide_eq_false hp) ?_
      show rdS C E _ _ _ _
      have hb1 : 0 ≤ hh2 := hb1
      have hb2 : hh2 < 2147483648 := hb2
      have b5 : (hh2 + 8191 * (S.count + 1) + 50021).natAbs < 2 ^ 64 := by omega
      refine rd_set (.mod (.toInt (.pow (.add (.add (.ix w0 .int t1 rfl) (.mul .int (.ix w0 .int t1 rfl) (.inl (by omega)))) .int) .int ⟨by omega, by omega, b5⟩)) .int (by omega)) ?_
      have bm := Int.fmod_nonneg_of_pos ((hh2 + 8191 * (S.count + 1) + 50021) ^ (5 : Int).toNat) (b := 2147483587) (by omega)
      have bn := Int.fmod_lt_of_pos ((hh2 + 8191 * (S.count + 1) + 50021) ^ (5 : Int).toNat) (b := 2147483587) (by omega)
      generalize hmx : ((hh2 + 8191 * (S.count + 1) + 50021) ^ (5 : Int).toNat).fmod 2147483587 = mx at bm bn
      have hmx' : mixN hh2 (S.count + 1) = mx := hmx
      have b6 : (mx * 40009 + 20011 * (S.count + 1) + 31).natAbs < 2 ^ 64 := by omega
      show rdS C E _ _ _ _
      refine rd_ret (.mod (.mod (.toInt (.pow (.add (.add (.mul (.var rfl) .int (.inr (by omega))) (.mul .int (.ix (.var rfl) .int t1 rfl) (.inl (by omega)))) .int) .int ⟨by omega, by omega, b6⟩)) .int (by omega)) (.var rfl) (by omega)) ?_
      have k := (Gd.okk g) (.int (outN (mixN hh2 (S.count + 1)) (S.count + 1) m)) _ _ e st (.int _)
      rw [hmx'] at k
      exact k
  have cnd : ∀ {Q' : Bool → Hp → Prop}, (S1.cell = 0 → S1.script ≠ [] → ∀ H2, Ext Z H Hf H2 Hf → StAt Z H2 Hf S1 → Q' true H2) → ((S1.cell ≠ 0 ∨ S1.script = []) → ∀ H2, Ext Z H Hf H2 Hf → StAt Z H2 Hf S1 → Q' false H2) →
      tB (rdE C E (.and (.cmp .eq (.idx (.var 0) (.int 1)) (.int 0)) (.cmp .ne (.idx (.var 0) (.int 0)) (.lst (.nil))))) [some (.ref a), some (.int m), x, none, none] H1 Q' := by
    intro Q' y1 y2
    show rdE C E _ _ _ _
    simp only [rdE]
    have c1' : Val C E (.cmp .eq (.idx (.var 0) (.int 1)) (.int 0)) [some (.ref a), some (.int m), x, none, none] H1 (.bl (S1.cell == 0)) := c1
    unfold Val at c1'
    simp only [rdE] at c1'
    refine c1' _ ⟨_, rfl, ?_⟩
    by_cases hc : S1.cell = 0
    · refine ift (by simpa using hc) ?_
      have w : Val C E (.idx (.var 0) (.int 0)) [some (.ref a), some (.int m), x, none, none] H1 (.ref b) := .ix w0 .int r1 rfl
      unfold Val at w
      simp only [rdE] at w
      refine w _ ?_
      simp only [rdEs]
      refine ⟨Nat.zero_le _, fun p hp => .inr ⟨.list (S1.script.map PyData.int), .list [], .lst (.inl (.inl (by rw [upd_ne (ne_of_none r2 hp)]; exact r2))) (ints_dp _), .lst (.inl (.inl upd_same)) .nil, ints_shaped _, rfl, _, rfl, ?_⟩⟩
      have e3 := e2.trans (Ext.new' (o := .lst []) e2.sub hp)
      have st3 := st2.new' (o := .lst []) hp
      cases hsc : S1.script with
      | nil =>
        exact y2 (.inr hsc) _ e3 st3
      | cons y ys =>
        exact y1 hc (by rw [hsc]; simp) _ e3 st3
    · refine iff' (by simpa using hc) ?_
      exact ⟨_, rfl, y2 (.inl hc) _ e2 st2⟩
  refine cnd ?_ ?_
  · intro hc hne H2 e3 st3
    refine ift rfl ?_
    obtain ⟨t1, t2, t3, t4, t5⟩ := st3.str _ z
    cases hsc : S1.script with
    | nil => exact absurd hsc hne
    | cons y ys =>
      rw [hsc] at hn hd t2
      refine ⟨fun σ' H' => ∃ S' x, σ' = [some (.ref a), some (.int m), x, none, none] ∧ Ext Z H Hf H' Hf ∧ StAt Z H' Hf S' ∧ S'.script.length = ys.length ∧ S'.count = S.count + 1 ∧ dLoop S'.script S'.cell S'.hash = (sc', c', h') ∧ 0 ≤ S'.hash ∧ S'.hash < 2147483648, ?_, ?_⟩
      · rintro σ' H' ⟨S', x', hσ, e4, st4, hl, r⟩
        exact ⟨ys.length, by rw [← hn]; simp, S', x', hσ, e4, st4, hl, r⟩
      · show rdS C E _ _ _ _
        simp only [rdS, rdE, rdEs]
        have w : Val C E (.idx (.var 0) (.int 0)) [some (.ref a), some (.int m), x, none, none] H2 (.ref b) := .ix w0 .int t1 rfl
        unfold Val at w
        simp only [rdE] at w
        refine w _ ⟨.inl ⟨rfl, _, sl_of t2⟩, ?_⟩
        refine ⟨b, _, 0, 0, .int y, rfl, rfl, t2, by omega, by omega, ?_, rfl, ?_⟩
        · exact seq0 (x := V.int y) (ys.map V.int)
        refine ⟨y, rfl, ?_⟩
        have e4 := e3.up (o := .lst (ys.map .int)) zb t4
        have st4 := st3.upB (sc := ys) z
        obtain ⟨u1, u2, u3, u4, u5⟩ := st4.str _ z
        show rdS C E _ _ _ (upd H2 b (.lst (ys.map V.int)))
        refine rd_put (k := 3) (.var rfl) .int (.mod (.toInt (.add (.add (.mul (.ix (.var rfl) .int u1 rfl) .int (.inr (by omega))) (.var rfl)) .int)) .int (by omega)) u1 rfl ?_
        have e5 := e4.up (o := .lst [.ref b, .int S1.cell, .int S1.count, .int (hashN S1.hash y)]) za u3
        have st5 := st4.upA (c := S1.cell) (k := S1.count) (h := hashN S1.hash y) z
        obtain ⟨w1, w2, w3, w4, w5⟩ := st5.str _ z
        show rdS C E _ _ _ (upd (upd H2 b (.lst (ys.map V.int))) a (.lst [.ref b, .int S1.cell, .int S1.count, .int (hashN S1.hash y)]))
        refine rd_put (k := 1) (v := .int (cellN y)) (.var rfl) .int (.ite (.ge (.var rfl) (.pow .int .int ⟨by omega, by omega, by omega⟩)) (fun t => ?_) (fun t => ?_)) w1 rfl ?_
        · have t := of_decide_eq_true t
          have q : cellN y = (if y < 0 then -y else y) := by
            unfold cellN
            exact if_pos t
          rw [q]
          exact .var rfl
        · have t := of_decide_eq_false t
          have q : cellN y = 0 := by
            unfold cellN
            exact if_neg t
          rw [q]
          exact .int
        · have e6 := e5.up (o := .lst [.ref b, .int (cellN y), .int S1.count, .int (hashN S1.hash y)]) za w3
          have st6 := st5.upA (c := cellN y) (k := S1.count) (h := hashN S1.hash y) z
          refine ⟨_, _, rfl, e6, st6, rfl, hk, ?_, (hashN_ok _ _).1, (hashN_ok _ _).2⟩
          have hd' : dLoop (y :: ys) S1.cell S1.hash = (sc', c', h') := hd
          unfold dLoop at hd'
          rw [if_pos hc] at hd'
          exact hd'
  · intro hc H2 e3 st3
    refine iff' rfl ?_
    refine done e3 st3 hk ?_
    rcases hc with hc | hc
    · cases hsc : S1.script with
      | nil => rw [hsc] at hd; exact hd
      | cons y ys =>
        rw [hsc] at hd
        unfold dLoop at hd
        rw [if_neg hc] at hd
        exact hd
    · rw [hc] at hd ⊢
      exact hd
end
end Bb

set_option maxRecDepth 100000
set_option maxHeartbeats 4000000
/-! What _law_spoilt does to a tree of lists and tuples; the primitives' promises. -/
namespace Bb
open L2 PyProof.Rows PySem.Spec PySem
inductive Tree where
  | leaf | node (l : Bool) (ts : List Tree)
mutual
def dep : Tree → Nat
  | .leaf => 0
  | .node _ ts => depL ts + 1
def depL : List Tree → Nat
  | [] => 0
  | t :: ts => max (dep t) (depL ts)
end
mutual
def cnt : Tree → Nat
  | .leaf => 0
  | .node _ ts => cntL ts + 1
def cntL : List Tree → Nat
  | [] => 0
  | t :: ts => cnt t + cntL ts
end
mutual
inductive Tr (G : Hp) : V → Tree → Prop where
  | leaf {v : V} : flatV v = true → Tr G v .leaf
  | lst {a : Addr} {xs : List V} {ts : List Tree} : G a = some (.lst xs) → TrAll G xs ts → Tr G (.ref a) (.node true ts)
  | tup {a : Addr} {xs : List V} {ts : List Tree} : G a = some (.tup xs) → TrAll G xs ts → Tr G (.ref a) (.node false ts)
inductive TrAll (G : Hp) : List V → List Tree → Prop where
  | nil : TrAll G [] []
  | cons {v : V} {t : Tree} {vs : List V} {ts : List Tree} : Tr G v t → TrAll G vs ts → TrAll G (v :: vs) (t :: ts)
end
mutual
theorem Tr.one {G : Hp} : ∀ {v : V} {s t : Tree}, Tr G v s → Tr G v t → s = t
  | _, _, _, .leaf h, t => by
    cases t with
    | leaf => rfl
    | lst _ _ => cases h
    | tup _ _ => cases h
  | _, _, _, .lst h r, t => by
    cases t with
    | leaf q => cases q
    | lst q u => rw [h] at q; cases q; rw [TrAll.one r u]
    | tup q _ => rw [h] at q; cases q
  | _, _, _, .tup h r, t => by
    cases t with
    | leaf q => cases q
    | tup q u => rw [h] at q; cases q; rw [TrAll.one r u]
    | lst q _ => rw [h] at q; cases q
theorem TrAll.one {G : Hp} : ∀ {v : List V} {s t : List Tree}, TrAll G v s → TrAll G v t → s = t
  | _, _, _, .nil, t => by cases t; rfl
  | _, _, _, .cons a r, t => by
    cases t with
    | cons b u => rw [Tr.one a b, TrAll.one r u]
end
theorem TrAll.length {G : Hp} : ∀ {vs : List V} {ts : List Tree}, TrAll G vs ts → vs.length = ts.length
  | _, _, .nil => rfl
  | _, _, .cons _ t => congrArg (· + 1) (TrAll.length t)
theorem TrAll.get {G : Hp} : ∀ {vs : List V} {ts : List Tree}, TrAll G vs ts → ∀ {i : Nat} {v : V}, vs[i]? = some v → ∃ t, ts[i]? = some t ∧ Tr G v t
  | _, _, .nil, i, v, h => by simp at h
  | _, _, .cons (t := t) d r, 0, v, h => by
    simp only [List.getElem?_cons_zero, Option.some.injEq] at h
    subst h
    exact ⟨t, rfl, d⟩
  | _, _, .cons d r, i + 1, v, h => by
    simp only [List.getElem?_cons_succ] at h ⊢
    exact TrAll.get r h
theorem dep_get : ∀ {ts : List Tree} {i : Nat} {t : Tree}, ts[i]? = some t → dep t ≤ depL ts
  | [], i, t, h => by simp at h
  | s :: ts, 0, t, h => by
    simp only [List.getElem?_cons_zero, Option.some.injEq] at h
    subst h
    exact Nat.le_max_left _ _
  | s :: ts, i + 1, t, h => by
    simp only [List.getElem?_cons_succ] at h
    exact Nat.le_trans (dep_get h) (Nat.le_max_right _ _)
theorem cnt_take : ∀ {ts : List Tree} {i : Nat} {t : Tree}, ts[i]? = some t → cntL (ts.take (i + 1)) = cntL (ts.take i) + cnt t
  | [], i, t, h => by simp at h
  | s :: ts, 0, t, h => by
    simp only [List.getElem?_cons_zero, Option.some.injEq] at h
    subst h
    simp [cntL]
  | s :: ts, i + 1, t, h => by
    simp only [List.getElem?_cons_succ] at h
    simp only [List.take_succ_cons, cntL]
    rw [cnt_take h]
    omega
theorem cnt_le : ∀ (ts : List Tree) (i : Nat), cntL (ts.take i) ≤ cntL ts
  | [], i => by simp [cntL]
  | s :: ts, 0 => by simp [cntL]
  | s :: ts, i + 1 => by
    simp only [List.take_succ_cons, cntL]
    have := cnt_le ts i
    omega
/-! ### from what stands for a value -/
mutual
def treeOf : PV → Option Tree
  | .non => some .leaf | .bl _ => some .leaf | .int _ => some .leaf | .str _ => some .leaf
  | .lst _ xs => (treesOf xs).map (.node true)
  | .tup xs => (treesOf xs).map (.node false)
  | .ty _ => none | .dK _ _ => none | .dT _ _ => none | .strm => none
def treesOf : List PV → Option (List Tree)
  | [] => some []
  | p :: ps => (treeOf p).bind fun t => (treesOf ps).map fun ts => t :: ts
end
mutual
theorem Den.tree {Z : Zn} {G : Hp} : ∀ {v : V} {p : PV} {t : Tree}, Den Z G v p → treeOf p = some t → Tr G v t
  | _, _, _, .non, e => by simp only [treeOf, Option.some.injEq] at e; subst e; exact .leaf rfl
  | _, _, _, .bl _, e => by simp only [treeOf, Option.some.injEq] at e; subst e; exact .leaf rfl
  | _, _, _, .int _, e => by simp only [treeOf, Option.some.injEq] at e; subst e; exact .leaf rfl
  | _, _, _, .str _, e => by simp only [treeOf, Option.some.injEq] at e; subst e; exact .leaf rfl
  | _, _, _, .ty _, e => by simp [treeOf] at e
  | _, _, _, .lst h _ d, e => by
    simp only [treeOf] at e
    obtain ⟨ts, e1, e2⟩ := Option.map_eq_some_iff.mp e
    subst e2
    exact .lst h (DenAll.tree d e1)
  | _, _, _, .tup h d, e => by
    simp only [treeOf] at e
    obtain ⟨ts, e1, e2⟩ := Option.map_eq_some_iff.mp e
    subst e2
    exact .tup h (DenAll.tree d e1)
  | _, _, _, .dK _ _ _, e => by simp [treeOf] at e
  | _, _, _, .dT _ _ _, e => by simp [treeOf] at e
  | _, _, _, .strm _, e => by simp [treeOf] at e
theorem DenAll.tree {Z : Zn} {G : Hp} : ∀ {v : List V} {p : List PV} {t : List Tree}, DenAll Z G v p → treesOf p = some t → TrAll G v t
  | _, _, _, .nil, e => by simp only [treesOf, Option.some.injEq] at e; subst e; exact .nil
  | _, _, _, .cons h a, e => by
    simp only [treesOf] at e
    obtain ⟨d, e1, e2⟩ := Option.bind_eq_some_iff.mp e
    obtain ⟨ds, e3, e4⟩ := Option.map_eq_some_iff.mp e2
    subst e4
    exact .cons (Den.tree h e1) (DenAll.tree a e3)
end
/-! ### lists that grew -/
def late : V := .str ⟨#[108, 97, 116, 101]⟩
/-- as G, but at the end of each list up to B times late -/
structure Grown (G H : Hp) (B : Nat) : Prop where
  lst : ∀ a xs, G a = some (.lst xs) → ∃ k, k ≤ B ∧ H a = some (.lst (xs ++ List.replicate k late))
  tup : ∀ a xs, G a = some (.tup xs) → H a = some (.tup xs)
theorem Grown.mono {G H : Hp} {B B' : Nat} (g : Grown G H B) (h : B ≤ B') : Grown G H B' := ⟨fun a xs e => by
  obtain ⟨k, h1, h2⟩ := g.lst a xs e
  exact ⟨k, Nat.le_trans h1 h, h2⟩, g.tup⟩
/-- what may change -/
def Touch (G : Hp) (n : Nat) (a : Addr) : Prop := ∃ t, Tr G (.ref a) (.node true t) ∧ dep (.node true t) ≤ n
/-- nothing else has changed -/
def Rest (G : Hp) (n : Nat) (H H' : Hp) : Prop := ∀ a o, H a = some o → ¬ Touch G n a → H' a = some o
theorem Rest.refl {G : Hp} {n : Nat} {H : Hp} : Rest G n H H := fun _ _ h _ => h
theorem Rest.trans {G : Hp} {n m k : Nat} {H H' H'' : Hp} (x : Rest G n H H') (y : Rest G m H' H'') (h1 : n ≤ k) (h2 : m ≤ k) : Rest G k H H'' := fun a o h q =>
  y a o (x a o h fun ⟨t, z, l⟩ => q ⟨t, z, Nat.le_trans l h1⟩) fun ⟨t, z, l⟩ => q ⟨t, z, Nat.le_trans l h2⟩
def spS (n : Nat) : Sp := fun vs H Q _ => ∃ G v t B L, vs = [v] ∧ Tr G v t ∧ dep t < n ∧ Grown G H B ∧ (∀ a xs, G a = some (.lst xs) → xs.length ≤ L) ∧ L + B + cnt t < 1000000 ∧ (∀ a o, G a = some o → ∃ u, H a = some u) ∧
  ∀ H', Grown G H' (B + cnt t) → Rest G (dep t) H H' → (∀ a o, H a = some o → ∃ u, H' a = some u) → Q .non H'
def spoB (f : Nat) : Sxs :=
  .cons (.ite (.bf .isinst (.cons (.var 0) (.cons (.ty .dict) (.nil)))) (.cons (.for (.nm 1) (.val (.bf .list (.cons (.var 0) (.nil)))) (.cons (.drop (.call f (.cons (.idx (.var 0) (.var 1)) (.nil)))) (.nil))) (.cons (.put (.var 0) (.str ⟨#[108, 97, 116, 101]⟩) (.int 1)) (.nil))) (.nil)) (.cons (.ite (.bf .isinst (.cons (.var 0) (.cons (.tup (.cons (.ty .list) (.cons (.ty .tuple) (.nil)))) (.nil)))) (.cons (.for (.nm 2) (.val (.var 0)) (.cons (.drop (.call f (.cons (.var 2) (.nil)))) (.nil))) (.nil)) (.nil)) (.cons (.ite (.bf .isinst (.cons (.var 0) (.cons (.ty .list) (.nil)))) (.cons (.app (.var 0) (.str ⟨#[108, 97, 116, 101]⟩)) (.nil)) (.nil)) (.nil)))
section
variable {C : RC} {E : XK} {σ : L2.St} {H : Hp}
theorem isi1 {v : V} {k1 k2 : Kd} (hs : σ[0]? = some (some v)) (t : TyX C.K H v (.type k1.name)) (hk : known k2 = true) : Val C E (.bf .isinst (.cons (.var 0) (.cons (.ty k2) .nil))) σ H (.bl (isTy k1 k2)) := fun Q q => by
  simp only [rdE, rdEs]
  exact ⟨v, hs, .inl ⟨_, _, _, _, _, rfl, .ty _, t, kit_ty (kitB_of hk), q⟩⟩
theorem isi2 {v : V} {k1 : Kd} {Q : VK} (hs : σ[0]? = some (some v)) (t : ∀ p, H p = none → TyX C.K (upd H p (.tup [.ty "list", .ty "tuple"])) v (.type k1.name)) (q : ∀ p, H p = none → Q (.bl (isTy k1 .list || isTy k1 .tuple)) (upd H p (.tup [.ty "list", .ty "tuple"]))) :
    rdE C E (.bf .isinst (.cons (.var 0) (.cons (.tup (.cons (.ty .list) (.cons (.ty .tuple) .nil))) .nil))) σ H Q := by
  simp only [rdE, rdEs]
  refine ⟨v, hs, by decide, fun p hp => .inr ⟨_, p, _, _, _, _, rfl, upd_same, cls_all [.list, .tuple], t p hp, kitAny_of [.list, .tuple] (by simp [known]), ?_⟩⟩
  have e : ([Kd.list, Kd.tuple].any (isTy k1)) = (isTy k1 .list || isTy k1 .tuple) := by simp
  rw [e]
  exact q p hp
theorem flat_ty {v : V} (h : flatV v = true) : ∃ k : Kd, (∀ H, TyX C.K H v (.type k.name)) ∧ isTy k .dict = false ∧ isTy k .list = false ∧ isTy k .tuple = false := by
  cases v with
  | non => exact ⟨.non, fun _ => .base .non, rfl, rfl, rfl⟩
  | bl b => exact ⟨.bool, fun _ => .base (.bl b), rfl, rfl, rfl⟩
  | int i => exact ⟨.int, fun _ => .base (.int i), rfl, rfl, rfl⟩
  | str s => exact ⟨.str, fun _ => .base (.str s), rfl, rfl, rfl⟩
  | _ => cases h
theorem TrAll.app {G : Hp} : ∀ {vs ws : List V} {ts us : List Tree}, TrAll G vs ts → TrAll G ws us → TrAll G (vs ++ ws) (ts ++ us)
  | _, _, _, _, .nil, e => e
  | _, _, _, _, .cons d t, e => .cons d (TrAll.app t e)
theorem late_all (G : Hp) : ∀ k : Nat, TrAll G (List.replicate k late) (List.replicate k .leaf)
  | 0 => .nil
  | k + 1 => .cons (.leaf rfl) (late_all G k)
theorem cnt_leaf : ∀ k : Nat, cntL (List.replicate k .leaf) = 0 ∧ depL (List.replicate k .leaf) = 0
  | 0 => ⟨rfl, rfl⟩
  | k + 1 => by
    obtain ⟨a, b⟩ := cnt_leaf k
    rw [List.replicate_succ]
    exact ⟨by simp only [cntL, cnt, a], by simp only [depL, dep, b]; rfl⟩
theorem cnt_app : ∀ a b : List Tree, cntL (a ++ b) = cntL a + cntL b ∧ depL (a ++ b) = max (depL a) (depL b)
  | [], b => ⟨by simp [cntL], by simp [depL]⟩
  | t :: a, b => by
    obtain ⟨h1, h2⟩ := cnt_app a b
    exact ⟨by simp only [List.cons_append, cntL, h1]; omega, by simp only [List.cons_append, depL, h2]; omega⟩
/-- the loop over the parts -/
theorem spo_loop {f n : Nat} {G : Hp} {a : Addr} {ys : List V} {ts : List Tree} {l : Bool} {B L : Nat} {D : Ends} {x : Option V} {y : Option V}
    (hsp : C.sp f = spS n) (tr : Tr G (.ref a) (.node l ts)) (hl : ∀ a xs, G a = some (.lst xs) → xs.length ≤ L) (hd : depL ts < n) (g : Grown G H B) (hB : L + B + cntL ts < 1000000) (hG : ∀ a o, G a = some o → ∃ u, H a = some u)
    (hx : l = true → H a = some (.lst ys)) (hx2 : l = false → H a = some (.tup ys)) (hys : ∃ k, TrAll G ys (ts ++ List.replicate k .leaf))
    (k : ∀ H' z, Grown G H' (B + cntL ts) → Rest G (depL ts) H H' → (∀ a o, H a = some o → ∃ u, H' a = some u) → (l = true → H' a = some (.lst ys)) → D.nx [some (.ref a), x, z] H') :
    rdS C E (.for (.nm 2) (.val (.var 0)) (.cons (.drop (.call f (.cons (.var 2) (.nil)))) (.nil))) D [some (.ref a), x, y] H := by
  obtain ⟨kk, hys⟩ := hys
  have c1 := (cnt_app ts (List.replicate kk .leaf)).1
  have c2 := (cnt_app ts (List.replicate kk .leaf)).2
  rw [(cnt_leaf kk).1] at c1
  rw [(cnt_leaf kk).2] at c2
  have hlen := hys.length
  generalize hrs : ts ++ List.replicate kk .leaf = rs at hys c1 c2 hlen
  have ntouch : ¬ Touch G (depL ts) a := fun ⟨u, z, q⟩ => by
    have e := Tr.one z tr
    injection e with e1 e2
    subst e2
    simp only [dep] at q
    omega
  have step : ∀ {J : It} {G' : Hp → Prop}, Walk J ys.length G' (YAt ys) → (∀ H', (l = true → H' a = some (.lst ys)) → (l = false → H' a = some (.tup ys)) → G' H') →
      ∃ W : Nat → Nat → L2.St → Hp → Prop, (∃ m, W 0 m [some (.ref a), x, y] H) ∧ ∀ i m σ H, W i m σ H → (J.stop i H ∧ D.nx σ H) ∨ (J.go i H ∧ ∃ N : L2.St → Hp → Prop, (∀ σ' H', N σ' H' → ∃ m', m' < m ∧ W (i + 1) m' σ' H') ∧ ∀ x H', J.yld i H x H' → rdTg C.K (.nm 2) x σ H' fun σ2 H2 => rdSs C E (.cons (.drop (.call f (.cons (.var 2) (.nil)))) (.nil)) { D with nx := N, ct := N, bk := D.nx } σ2 H2) := by
    intro J G' w hg
    refine for_it w (fun i σ H' => ∃ z, σ = [some (.ref a), x, z] ∧ Grown G H' (B + cntL (rs.take i)) ∧ Rest G (depL ts) H H' ∧ (∀ a o, H a = some o → ∃ u, H' a = some u)) ⟨y, rfl, g.mono (by omega), Rest.refl, fun _ o h => ⟨o, h⟩⟩ ?_ ?_ ?_
    · rintro i σ H' hi ⟨z, rfl, q1, q2, q3⟩
      exact hg H' (fun e => q2 _ _ (hx e) ntouch) (fun e => q2 _ _ (hx2 e) ntouch)
    · rintro i v σ H' H'' hi ⟨z, rfl, q1, q2, q3⟩ ⟨rfl, hv⟩
      obtain ⟨t, h1, h2⟩ := hys.get hv
      have hdt := dep_get h1
      have hct := cnt_take h1
      have hcl := cnt_le rs (i + 1)
      show rdS C E _ _ _ _
      simp only [rdS, rdE, rdEs]
      refine ⟨v, rfl, ?_⟩
      show C.sp f [v] H'' _ E
      rw [hsp]
      refine ⟨G, v, t, B + cntL (rs.take i), L, rfl, h2, by omega, q1, hl, by omega, fun b o e => ?_, fun H3 y1 y2 y3 => ?_⟩
      · obtain ⟨u, hu⟩ := hG b o e
        exact q3 _ _ hu
      · refine ⟨some v, rfl, ?_, q2.trans y2 (Nat.le_refl _) (by omega), fun b o e => ?_⟩
        · rw [hct]
          exact y1.mono (by omega)
        · obtain ⟨u, hu⟩ := q3 _ _ e
          exact y3 _ _ hu
    · rintro σ H' ⟨z, rfl, q1, q2, q3⟩
      rw [hlen, List.take_length] at q1
      exact k H' z (q1.mono (by omega)) q2 q3 fun e => q2 _ _ (hx e) ntouch
  simp only [rdS, rdI]
  cases l with
  | true =>
    refine .inl ?_
    simp only [rdE]
    exact ⟨_, rfl, a, rfl, ⟨ys, sl_of (hx rfl)⟩, step walk_list fun H' e _ => sl_of (e rfl)⟩
  | false =>
    refine .inr ?_
    simp only [rdE]
    exact ⟨_, rfl, a, rfl, ⟨ys, sq_of (hx2 rfl)⟩, step walk_tup fun H' _ e => sq_of (e rfl)⟩
theorem grown_new {G H : Hp} {B : Nat} {p : Addr} {o : HO} (g : Grown G H B) (hG : ∀ a o, G a = some o → ∃ u, H a = some u) (hp : H p = none) : Grown G (upd H p o) B := by
  have ne : ∀ a u, G a = some u → a ≠ p := fun a u e q => by
    obtain ⟨w, hw⟩ := hG a u e
    rw [q, hp] at hw
    cases hw
  exact ⟨fun a xs e => by rw [upd_ne (ne a _ e)]; exact g.lst a xs e, fun a xs e => by rw [upd_ne (ne a _ e)]; exact g.tup a xs e⟩
theorem spo_rd {f n : Nat} {vs : List V} {Q : VK} (hsp : C.sp f = spS n) (h : spS (n + 1) vs H Q E) : ∃ v, vs = [v] ∧ rdSs C E (spoB f) { nx := fun _ H' => Q .non H', rt := Q } [some v, none, none] H := by
  obtain ⟨G, v, t, B, L, rfl, tr, hd, g, hl, hB, hG, k⟩ := h
  refine ⟨v, rfl, ?_⟩
  show rdS C E _ _ _ _
  simp only [rdS]
  have newR : ∀ {p : Addr} {o : HO}, H p = none → Rest G (dep t) H (upd H p o) ∧ (∀ a u, H a = some u → ∃ w, upd H p o a = some w) := fun {p o} hp => ⟨fun a u e _ => by rw [upd_ne (ne_of_none e hp)]; exact e, fun a u e => old_upd ⟨u, e⟩⟩
  cases t with
  | leaf =>
    cases tr with
    | leaf hf =>
      obtain ⟨kd, ty, i1, i2, i3⟩ := flat_ty (C := C) hf
      refine (isi1 (k2 := .dict) rfl (ty H) rfl) _ ⟨_, rfl, ?_⟩
      refine iff' i1 ?_
      show rdS C E _ _ _ _
      simp only [rdS]
      refine isi2 (v := v) rfl (fun p hp => ty _) fun p hp => ⟨_, rfl, ?_⟩
      refine iff' (by rw [i2, i3]; rfl) ?_
      show rdS C E _ _ _ _
      simp only [rdS]
      refine (isi1 (k2 := .list) rfl (ty _) rfl) _ ⟨_, rfl, ?_⟩
      refine iff' i2 ?_
      exact k _ ((grown_new g hG hp).mono (Nat.le_add_right _ _)) (newR hp).1 (newR hp).2
  | node l ts =>
    simp only [dep] at hd
    simp only [cnt] at hB
    cases l with
    | false =>
      obtain ⟨a, xs, rfl, hx, ta⟩ : ∃ a xs, v = .ref a ∧ G a = some (.tup xs) ∧ TrAll G xs ts := by
        cases tr with
        | tup h r => exact ⟨_, _, rfl, h, r⟩
      have hh := g.tup a xs hx
      refine (isi1 (k1 := .tuple) (k2 := .dict) rfl (.base (.tup hh)) rfl) _ ⟨_, rfl, ?_⟩
      refine iff' rfl ?_
      show rdS C E _ _ _ _
      simp only [rdS]
      have hh' : ∀ {p : Addr} {o : HO}, H p = none → upd H p o a = some (.tup xs) := fun hp => by rw [upd_ne (ne_of_none hh hp)]; exact hh
      refine isi2 (k1 := .tuple) (v := .ref a) rfl (fun p hp => .base (.tup (hh' hp))) fun p hp => ⟨_, rfl, ?_⟩
      refine ift rfl ?_
      show rdS C E _ _ _ _
      refine spo_loop hsp (.tup hx ta) hl (by omega) (grown_new g hG hp) (by omega) (fun a o e => ?_) (fun z => by cases z) (fun _ => hh' hp) ⟨0, by simpa using ta⟩ fun H2 z y1 y2 y3 _ => ?_
      · obtain ⟨u, hu⟩ := hG a o e
        exact old_upd ⟨u, hu⟩
      · show rdS C E _ _ _ _
        simp only [rdS]
        have h2 : H2 a = some (.tup xs) := y1.tup a xs hx
        refine (isi1 (k1 := .tuple) (k2 := .list) rfl (.base (.tup h2)) rfl) _ ⟨_, rfl, ?_⟩
        refine iff' rfl ?_
        refine k H2 (y1.mono (by simp only [cnt]; omega)) ((newR hp).1.trans y2 (Nat.le_refl _) (by simp only [dep]; omega)) fun b o e => ?_
        obtain ⟨u, hu⟩ := (newR (o := .tup [.ty "list", .ty "tuple"]) hp).2 b o e
        exact y3 b u hu
    | true =>
      obtain ⟨a, xs, rfl, hx, ta⟩ : ∃ a xs, v = .ref a ∧ G a = some (.lst xs) ∧ TrAll G xs ts := by
        cases tr with
        | lst h r => exact ⟨_, _, rfl, h, r⟩
      obtain ⟨kk, hk, hh⟩ := g.lst a xs hx
      refine (isi1 (k1 := .list) (k2 := .dict) rfl (.base (.lst hh)) rfl) _ ⟨_, rfl, ?_⟩
      refine iff' rfl ?_
      show rdS C E _ _ _ _
      simp only [rdS]
      have hh' : ∀ {p : Addr} {o : HO}, H p = none → upd H p o a = some (.lst (xs ++ List.replicate kk late)) := fun hp => by rw [upd_ne (ne_of_none hh hp)]; exact hh
      refine isi2 (k1 := .list) (v := .ref a) rfl (fun p hp => .base (.lst (hh' hp))) fun p hp => ⟨_, rfl, ?_⟩
      refine ift rfl ?_
      show rdS C E _ _ _ _
      refine spo_loop hsp (.lst hx ta) hl (by omega) (grown_new g hG hp) (by omega) (fun a o e => ?_) (fun _ => hh' hp) (fun z => by cases z) ⟨kk, ta.app (late_all G kk)⟩ fun H2 z y1 y2 y3 y4 => ?_
      · obtain ⟨u, hu⟩ := hG a o e
        exact old_upd ⟨u, hu⟩
      · show rdS C E _ _ _ _
        simp only [rdS]
        have h2 := y4 rfl
        refine (isi1 (k1 := .list) (k2 := .list) rfl (.base (.lst h2)) rfl) _ ⟨_, rfl, ?_⟩
        refine ift rfl ?_
        show rdS C E _ _ _ _
        simp only [rdS, rdE, rdEs]
        refine ⟨_, rfl, .inl ⟨rfl, _, sl_of h2⟩, ?_⟩
        have hll := hl a xs hx
        refine ⟨a, _, late, rfl, rfl, h2, ?_, ?_⟩
        · refine big_lt ?_
          unfold big
          rw [List.length_append, List.length_replicate]
          omega
        · show Q .non _
          refine k _ ⟨fun b zs e => ?_, fun b zs e => ?_⟩ ?_ ?_
          · by_cases hb : b = a
            · subst hb
              rw [hx] at e
              cases e
              refine ⟨kk + 1, by simp only [cnt]; omega, ?_⟩
              rw [upd_same, List.append_assoc]
              congr 3
              rw [List.replicate_succ']
            · rw [upd_ne hb]
              obtain ⟨j, j1, j2⟩ := y1.lst b zs e
              exact ⟨j, by simp only [cnt]; omega, j2⟩
          · have hb : b ≠ a := fun q => by
              rw [q, hx] at e
              cases e
            rw [upd_ne hb]
            exact y1.tup b zs e
          · intro b o e nt
            have hb : b ≠ a := fun q => nt (by rw [q]; exact ⟨ts, .lst hx ta, Nat.le_refl _⟩)
            rw [upd_ne hb]
            exact ((newR hp).1.trans y2 (Nat.le_refl _) (by simp only [dep]; omega)) b o e nt
          · intro b o e
            obtain ⟨u, hu⟩ := (newR (o := .tup [.ty "list", .ty "tuple"]) hp).2 b o e
            exact old_upd (y3 b u hu)
end
/-! ### the primitives keep their promises -/
def spX (fs : Nat) (K : PySem.W.Frag) (x : TbX) (t : Tb) (n : Nat) : Nat → Sp := fun f => if f = fs then spS n else spN K x t n f
def rcX (fs : Nat) (K : PySem.W.Frag) (x : TbX) (t : Tb) (j n : Nat) : RC := ⟨K, spX fs K x t n, n + j, x.xa, x.xf⟩
section
variable {P : Program} {w : World} {K : PySem.W.Frag} {mg : Str → Option Value} {base : Heap} {x : TbX} {t : Tb} {j : Nat}
theorem draw_fn {f : Nat} {d : Dfn} {a : Addr} {fd : FuncData} (hB : d.body = drawB) (hN : d.N.length = 5) (hk : d.k = 2) (F : Fun K d.x d.x d.st a fd) (S : FnScope d.N d.ps (defScope d.st)) (hc : ckSs d.N [] (defScope d.st) drawB (defBody d.st) = true) (hb : ∀ x ∈ bNames, mg x = none)
    (hT : t.T[f]? = none) (hP : ∀ ps S, t.PF f ps S = drawF ps S) : ∀ n, FnOk P w K mg base (L2.CX P w) (n + 1) a fd d.ps (spN K x t n f) := by
  intro n
  have look : ∀ {vs H Q E}, spN K x t n f vs H Q E → ∃ Z Hf S a b m, Sub Hf H ∧ StAt Z H Hf S ∧ Z.st = some (a, b) ∧ vs = [.ref a, .int m] ∧ Gd (rc0 K x) Z H Hf E (drawP S m) (KE Z H Hf Q) := by
    rintro vs H Q E ⟨Z, Hf, ps, S, h1, h2, h3, h4⟩
    cases n with
    | zero => exact h4.elim
    | succ n =>
      simp only [callN, hT, hP] at h4
      unfold drawF at h4
      split at h4
      · obtain _ | ⟨d1, h3⟩ := h3
        obtain _ | ⟨d2, h3⟩ := h3
        cases h3
        cases d2
        cases d1 with
        | strm hz => exact ⟨Z, Hf, S, _, _, _, h1, h2, hz, rfl, h4⟩
      · exact h4.elim
  refine Fun.okX F S (fun vs H Q E h => ?_) fun cdv A outer s H vs Q E hr h => ?_
  · obtain ⟨Z, Hf, S, a, b, m, _, _, _, rfl, _⟩ := look h
    unfold Dfn.ps
    rw [List.length_take, hk, hN]
    rfl
  · obtain ⟨Z, Hf, S0, a', b', m, h1, h2, h3, rfl, h4⟩ := look h
    have ok : SOk ⟨K, fun _ _ _ _ _ => False, n, x.xa, x.xf⟩ d.N [] (defScope d.st) E (cxOf (L2.CX P w) P w K mg base d.N d.x (defScope d.st) a cdv A outer s H E) := sok_of S rfl hr (fun f d h => by simp at h) hb
    refine ⟨_, ckSs_ok ok drawB _ hc, ?_⟩
    have e : L2.start d.N [.ref a', .int m] = [some (.ref a'), some (.int m), none, none, none] := by
      unfold L2.start
      rw [hN]
      rfl
    rw [e]
    exact draw_rd h1 h2 h3 (Gd.rc rfl rfl h4)
theorem gfx_of {fs n : Nat} {d : Dfn} {a : Addr} {fd : FuncData} (F : FnOk P w K mg base (L2.CX P w) (n + j) a fd d.ps (spS n)) (hm : mg d.x = some (.ref a)) (hk : PySem.W.keepIn K (.ref a) = true) (hB : Binds K fd d.ps []) (hkw : d.kw = true → KB0 K fd d.ps)
    (hfs : t.FN[fs]? = some d.fe) (gf : GFn P w K mg base t.FN (n + j) (spN K x t n)) : GFn P w K mg base t.FN (n + j) (spX fs K x t n) := fun f e he => by
  by_cases h : f = fs
  · subst h
    rw [hfs] at he
    cases he
    refine ⟨a, fd, ?_, hm, hk, hB, hkw⟩
    unfold spX
    rw [if_pos rfl]
    exact F
  · unfold spX
    rw [if_neg h]
    exact gf f e he
theorem spo_fn {fs : Nat} {d : Dfn} {a : Addr} {fd : FuncData} (hBd : d.body = spoB fs) (hN : d.N.length = 3) (hk : d.k = 1) (F : Fun K d.x d.x d.st a fd) (S : FnScope d.N d.ps (defScope d.st)) (hc : ckD t d = true) (hb : ∀ x ∈ bNames, mg x = none)
    (hm : mg d.x = some (.ref a)) (hB : Binds K fd d.ps []) (hkw : d.kw = true → KB0 K fd d.ps) (hfs : t.FN[fs]? = some d.fe) (gf : ∀ n, GFn P w K mg base t.FN (n + j) (spN K x t n)) : ∀ n, FnOk P w K mg base (L2.CX P w) (n + j) a fd d.ps (spS n)
  | 0 => by
    refine ⟨fun vs H Q E h => ?_, fun A outer s H args us vs Q E _ _ _ _ h => ?_⟩
    · obtain ⟨G, v, t, B, L, _, _, hd, _⟩ := h
      exact absurd hd (Nat.not_lt_zero _)
    · obtain ⟨G, v, t, B, L, _, _, hd, _⟩ := h
      exact absurd hd (Nat.not_lt_zero _)
  | n + 1 => by
    have ih := spo_fn hBd hN hk F S hc hb hm hB hkw hfs gf n
    unfold ckD at hc
    rw [Bool.and_eq_true] at hc
    have e : n + 1 + j = n + j + 1 := by omega
    rw [e]
    refine Fun.okX F S (fun vs H Q E h => ?_) fun cdv A outer s H vs Q E hr h => ?_
    · obtain ⟨G, v, t, B, L, rfl, _⟩ := h
      unfold Dfn.ps
      rw [List.length_take, hk, hN]
      rfl
    · have ok : SOk (rcX fs K x t j n) d.N t.FN (defScope d.st) E (cxOf (L2.CX P w) P w K mg base d.N d.x (defScope d.st) a cdv A outer s H E) := sok_of S rfl hr (gfx_of ih hm F.kp hB hkw hfs (gf n)) hb
      refine ⟨_, ckSs_ok ok d.body _ hc.1, ?_⟩
      obtain ⟨v, rfl, q⟩ := spo_rd (C := rcX fs K x t j n) (E := E) (f := fs) (by show spX fs K x t n fs = spS n; unfold spX; rw [if_pos rfl]) h
      have e2 : L2.start d.N [v] = [some v, none, none] := by
        unfold L2.start
        rw [hN]
        rfl
      rw [e2, hBd]
      exact q
end
end Bb

set_option maxRecDepth 100000
set_option maxHeartbeats 4000000
/-! Old and new: colours set anew; what is left when new things are spoilt. The stream made; _law_same of like values. -/
namespace Bb
open L2 PyProof.Rows PySem.Spec PySem
/-! ### colours set anew -/
mutual
def setO : PV → PV
  | .lst _ xs => .lst false (setOs xs)
  | .tup xs => .tup (setOs xs)
  | .dK _ xs => .dK false (setOK xs)
  | .dT _ xs => .dT false (setOT xs)
  | .non => .non | .bl b => .bl b | .int i => .int i | .str s => .str s | .ty n => .ty n | .strm => .strm
def setOs : List PV → List PV
  | [] => []
  | x :: xs => setO x :: setOs xs
def setOK : List (Key × PV) → List (Key × PV)
  | [] => []
  | (k, x) :: xs => (k, setO x) :: setOK xs
def setOT : List (List Key × PV) → List (List Key × PV)
  | [] => []
  | (k, x) :: xs => (k, setO x) :: setOT xs
end
def topO : PV → PV
  | .lst c xs => .lst c (setOs xs)
  | .dK c xs => .dK c (setOK xs)
  | .dT c xs => .dT c (setOT xs)
  | p => p
def recE (ρ : Env') : Env' := ρ.map fun o => o.map fun s => ⟨s.own, if s.own then topO s.p else setO s.p⟩
section
variable {Z Z' : Zn} {Hf : Hp}
mutual
theorem Den.setO (hs : Z'.st = Z.st) (ho : ∀ a o, Hf a = some o → Z'.old a) : ∀ {v : V} {p : PV}, Den Z Hf v p → Den Z' Hf v (Bb.setO p)
  | _, _, .non => .non
  | _, _, .bl b => .bl b
  | _, _, .int i => .int i
  | _, _, .str x => .str x
  | _, _, .ty n => .ty n
  | _, _, .lst e c d => .lst e ⟨fun z => (by cases z), fun z => absurd (ho _ _ e) z⟩ (DenAll.setO hs ho d)
  | _, _, .tup e d => .tup e (DenAll.setO hs ho d)
  | _, _, .dK e c d => .dK e ⟨fun z => (by cases z), fun z => absurd (ho _ _ e) z⟩ (DenK.setO hs ho d)
  | _, _, .dT e c d => .dT e ⟨fun z => (by cases z), fun z => absurd (ho _ _ e) z⟩ (DenT.setO hs ho d)
  | _, _, .strm e => .strm (hs.trans e)
theorem DenAll.setO (hs : Z'.st = Z.st) (ho : ∀ a o, Hf a = some o → Z'.old a) : ∀ {v : List V} {p : List PV}, DenAll Z Hf v p → DenAll Z' Hf v (setOs p)
  | _, _, .nil => .nil
  | _, _, .cons d ds => .cons (Den.setO hs ho d) (DenAll.setO hs ho ds)
theorem DenK.setO (hs : Z'.st = Z.st) (ho : ∀ a o, Hf a = some o → Z'.old a) : ∀ {v : List (Key × V)} {p : List (Key × PV)}, DenK Z Hf v p → DenK Z' Hf v (setOK p)
  | _, _, .nil => .nil
  | _, _, .cons d ds => .cons (Den.setO hs ho d) (DenK.setO hs ho ds)
theorem DenT.setO (hs : Z'.st = Z.st) (ho : ∀ a o, Hf a = some o → Z'.old a) : ∀ {v : List (List Key × V)} {p : List (List Key × PV)}, DenT Z Hf v p → DenT Z' Hf v (setOT p)
  | _, _, .nil => .nil
  | _, _, .cons d ds => .cons (Den.setO hs ho d) (DenT.setO hs ho ds)
end
end
theorem InZ.cg {Z Z' : Zn} (hs : Z'.st = Z.st) {a : Addr} (h : InZ Z' a) : InZ Z a := by
  obtain ⟨p, e, q⟩ := h
  exact ⟨p, by rw [← hs]; exact e, q⟩
theorem Ext.cg {Z Z' : Zn} (hs : Z'.st = Z.st) {H Hf H' Hf' : Hp} (e : Ext Z H Hf H' Hf') : Ext Z' H Hf H' Hf' := ⟨fun a o h n => e.old a o h fun q => n (q.cg hs.symm), e.dom, e.fz, e.sub, e.new⟩
theorem StAt.cg {Z Z' : Zn} (hs : Z'.st = Z.st) {H Hf : Hp} {S : SS} (st : StAt Z H Hf S) (ho : ∀ a, Z'.old a → ∃ o, H a = some o) : StAt Z' H Hf S := ⟨ho, fun p hp => st.str p (by rw [← hs]; exact hp)⟩
/-- all that is frozen now is old from now on -/
def oldZ (Z : Zn) (Hf : Hp) : Zn := ⟨Z.st, fun a => ∃ o, Hf a = some o⟩
theorem Rel.recolor {Z : Zn} {H0 Hf0 : Hp} {ρ : Env'} {S : SS} {σ : L2.St} {H Hf : Hp} (R : Rel Z H0 Hf0 ρ S σ H Hf) : Rel (oldZ Z Hf) H0 Hf0 (recE ρ) S σ H Hf where
  ext := Ext.cg (Z := Z) (Z' := oldZ Z Hf) rfl R.ext
  st := StAt.cg (Z := Z) (Z' := oldZ Z Hf) rfl R.st fun a h => by
    obtain ⟨o, h⟩ := h
    exact ⟨o, R.sub a o h⟩
  len := by unfold recE; rw [List.length_map]; exact R.len
  sl := fun i s h => by
    unfold recE at h
    rw [List.getElem?_map] at h
    obtain ⟨o, h1, h2⟩ := Option.map_eq_some_iff.mp h
    cases o with
    | none => cases h2
    | some s0 =>
      cases h2
      obtain ⟨v, h3, h4⟩ := R.sl i s0 h1
      refine ⟨v, h3, ?_⟩
      have ho : ∀ a o, Hf a = some o → (oldZ Z Hf).old a := fun a o h => ⟨o, h⟩
      obtain ⟨own, p⟩ := s0
      cases own with
      | false =>
        rw [if_neg (by simp)] at h4 ⊢
        exact Den.setO (Z := Z) (Z' := oldZ Z Hf) rfl ho h4
      | true =>
        rw [if_pos rfl] at h4 ⊢
        obtain ⟨a, e1, e2, e3, e4, e5⟩ := h4
        have no : ¬ (oldZ Z Hf).old a := fun ⟨o, q⟩ => by rw [e3] at q; cases q
        refine ⟨a, e1, e2, e3, fun q => e4 (InZ.cg (Z := Z) (Z' := oldZ Z Hf) rfl q), ?_⟩
        cases p with
        | lst c ps => obtain ⟨xs, q1, q2, q3⟩ := e5; exact ⟨xs, q1, ⟨q2.1, no⟩, DenAll.setO (Z := Z) (Z' := oldZ Z Hf) rfl ho q3⟩
        | dK c ps => obtain ⟨xs, q1, q2, q3⟩ := e5; exact ⟨xs, q1, ⟨q2.1, no⟩, DenK.setO (Z := Z) (Z' := oldZ Z Hf) rfl ho q3⟩
        | dT c ps => obtain ⟨xs, q1, q2, q3⟩ := e5; exact ⟨xs, q1, ⟨q2.1, no⟩, DenT.setO (Z := Z) (Z' := oldZ Z Hf) rfl ho q3⟩
        | _ => exact e5.elim
  apart := fun i j p q a n h1 h2 => by
    have back : ∀ {i : Nat} {p : PV}, (recE ρ)[i]? = some (some ⟨true, p⟩) → ∃ p', ρ[i]? = some (some ⟨true, p'⟩) := fun {i p} h => by
      unfold recE at h
      rw [List.getElem?_map] at h
      obtain ⟨o, h1, h2⟩ := Option.map_eq_some_iff.mp h
      cases o with
      | none => cases h2
      | some s0 =>
        obtain ⟨own, p'⟩ := s0
        cases own with
        | false => cases h2
        | true => exact ⟨p', h1⟩
    obtain ⟨p', h3⟩ := back h1
    obtain ⟨q', h4⟩ := back h2
    exact R.apart i j p' q' a n h3 h4
/-! ### the new, the rest -/
open Classical in
noncomputable def newG (Z : Zn) (Hf : Hp) : Hp := fun a => match Hf a with
  | some (.lst xs) => if Z.old a ∨ 100000 < xs.length then none else some (.lst xs)
  | o => o
open Classical in
noncomputable def oldG (Z : Zn) (Hf : Hp) : Hp := fun a => match Hf a with
  | some (.lst xs) => if Z.old a then some (.lst xs) else none
  | o => o
theorem newG_sub {Z : Zn} {Hf : Hp} : Sub (newG Z Hf) Hf := fun a o h => by
  unfold newG at h
  split at h
  · rename_i e
    split at h
    · cases h
    · rw [e]; exact h
  · exact h
theorem oldG_sub {Z : Zn} {Hf : Hp} : Sub (oldG Z Hf) Hf := fun a o h => by
  unfold oldG at h
  split at h
  · rename_i e
    split at h
    · rw [e]; exact h
    · cases h
  · exact h
theorem newG_lst {Z : Zn} {Hf : Hp} {a : Addr} {xs : List V} (h : newG Z Hf a = some (.lst xs)) : ¬ Z.old a := by
  unfold newG at h
  split at h
  · split at h
    · cases h
    · rename_i q
      exact fun z => q (.inl z)
  · rename_i q
    exact absurd h (q xs)
theorem newG_len {Z : Zn} {Hf : Hp} {a : Addr} {xs : List V} (h : newG Z Hf a = some (.lst xs)) : xs.length ≤ 100000 := by
  unfold newG at h
  split at h
  · split at h
    · cases h
    · rename_i q
      cases h
      exact Nat.le_of_not_lt fun z => q (.inr z)
  · rename_i q
    exact absurd h (q xs)
theorem newG_of {Z : Zn} {Hf : Hp} {a : Addr} {xs : List V} (h : Hf a = some (.lst xs)) (n : ¬ Z.old a) (l : xs.length ≤ 100000) : newG Z Hf a = some (.lst xs) := by
  unfold newG
  rw [h]
  exact if_neg fun z => z.elim n fun z => absurd z (Nat.not_lt.mpr l)
theorem oldG_of {Z : Zn} {Hf : Hp} {a : Addr} {xs : List V} (h : Hf a = some (.lst xs)) (n : Z.old a) : oldG Z Hf a = some (.lst xs) := by
  unfold oldG
  rw [h]
  exact if_pos n
theorem newG_tup {Z : Zn} {Hf : Hp} {a : Addr} {xs : List V} (h : Hf a = some (.tup xs)) : newG Z Hf a = some (.tup xs) := by
  unfold newG
  rw [h]
theorem oldG_tup {Z : Zn} {Hf : Hp} {a : Addr} {xs : List V} (h : Hf a = some (.tup xs)) : oldG Z Hf a = some (.tup xs) := by
  unfold oldG
  rw [h]
theorem oldG_lst {Z : Zn} {Hf : Hp} {a : Addr} {xs : List V} (h : oldG Z Hf a = some (.lst xs)) : Z.old a := by
  unfold oldG at h
  split at h
  · split at h
    · assumption
    · cases h
  · rename_i q
    exact absurd h (q xs)
mutual
/-- a tree of new lists, of tuples -/
def newP : PV → Option Tree
  | .non => some .leaf | .bl _ => some .leaf | .int _ => some .leaf | .str _ => some .leaf
  | .lst c xs => if c && Nat.ble xs.length 100000 then (newPs xs).map (.node true) else none
  | .tup xs => (newPs xs).map (.node false)
  | .ty _ => none | .dK _ _ => none | .dT _ _ => none | .strm => none
def newPs : List PV → Option (List Tree)
  | [] => some []
  | p :: ps => (newP p).bind fun t => (newPs ps).map fun ts => t :: ts
end
mutual
/-- old lists, tuples -/
def oldP : PV → Bool
  | .non => true | .bl _ => true | .int _ => true | .str _ => true | .strm => true | .ty _ => true
  | .lst c xs => !c && oldPs xs
  | .tup xs => oldPs xs
  | .dK _ _ => false | .dT _ _ => false
def oldPs : List PV → Bool
  | [] => true
  | p :: ps => oldP p && oldPs ps
end
section
variable {Z : Zn} {Hf : Hp}
mutual
theorem Den.new : ∀ {v : V} {p : PV} {t : Tree}, Den Z Hf v p → newP p = some t → Tr (newG Z Hf) v t
  | _, _, _, .non, e => by simp only [newP, Option.some.injEq] at e; subst e; exact .leaf rfl
  | _, _, _, .bl _, e => by simp only [newP, Option.some.injEq] at e; subst e; exact .leaf rfl
  | _, _, _, .int _, e => by simp only [newP, Option.some.injEq] at e; subst e; exact .leaf rfl
  | _, _, _, .str _, e => by simp only [newP, Option.some.injEq] at e; subst e; exact .leaf rfl
  | _, _, _, .ty _, e => by simp [newP] at e
  | _, _, _, .lst (c := c) h q d, e => by
    simp only [newP] at e
    split at e
    · rename_i hc
      obtain ⟨ts, e1, e2⟩ := Option.map_eq_some_iff.mp e
      subst e2
      rw [Bool.and_eq_true] at hc
      exact .lst (newG_of h (q.mp hc.1) (by rw [d.length]; exact Nat.le_of_ble_eq_true hc.2)) (DenAll.new d e1)
    · cases e
  | _, _, _, .tup h d, e => by
    simp only [newP] at e
    obtain ⟨ts, e1, e2⟩ := Option.map_eq_some_iff.mp e
    subst e2
    exact .tup (newG_tup h) (DenAll.new d e1)
  | _, _, _, .dK _ _ _, e => by simp [newP] at e
  | _, _, _, .dT _ _ _, e => by simp [newP] at e
  | _, _, _, .strm _, e => by simp [newP] at e
theorem DenAll.new : ∀ {v : List V} {p : List PV} {t : List Tree}, DenAll Z Hf v p → newPs p = some t → TrAll (newG Z Hf) v t
  | _, _, _, .nil, e => by simp only [newPs, Option.some.injEq] at e; subst e; exact .nil
  | _, _, _, .cons h a, e => by
    simp only [newPs] at e
    obtain ⟨d, e1, e2⟩ := Option.bind_eq_some_iff.mp e
    obtain ⟨ds, e3, e4⟩ := Option.map_eq_some_iff.mp e2
    subst e4
    exact .cons (Den.new h e1) (DenAll.new a e3)
end
mutual
theorem Den.old' : ∀ {v : V} {p : PV}, Den Z Hf v p → oldP p = true → Den Z (oldG Z Hf) v p
  | _, _, .non, _ => .non
  | _, _, .bl _, _ => .bl _
  | _, _, .int _, _ => .int _
  | _, _, .str _, _ => .str _
  | _, _, .ty _, _ => .ty _
  | _, _, .strm e, _ => .strm e
  | _, _, .lst (c := c) (a := a) h q d, e => by
    simp only [oldP, Bool.and_eq_true, Bool.not_eq_true'] at e
    have ho : Z.old a := Classical.byContradiction fun n => by
      have := q.mpr n
      rw [e.1] at this
      cases this
    exact .lst (oldG_of h ho) q (DenAll.old' d e.2)
  | _, _, .tup h d, e => by
    simp only [oldP] at e
    exact .tup (oldG_tup h) (DenAll.old' d e)
  | _, _, .dK _ _ _, e => by simp [oldP] at e
  | _, _, .dT _ _ _, e => by simp [oldP] at e
theorem DenAll.old' : ∀ {v : List V} {p : List PV}, DenAll Z Hf v p → oldPs p = true → DenAll Z (oldG Z Hf) v p
  | _, _, .nil, _ => .nil
  | _, _, .cons h a, e => by
    simp only [oldPs, Bool.and_eq_true] at e
    exact .cons (Den.old' h e.1) (DenAll.old' a e.2)
end
end
/-- what new lists alone may have changed -/
def Keep (Z : Zn) (Hf H H' : Hp) : Prop := ∀ a o, H a = some o → ¬ (∃ xs, newG Z Hf a = some (.lst xs)) → H' a = some o
theorem Keep.sub {Z : Zn} {Hf H H' : Hp} (k : Keep Z Hf H H') (s : Sub Hf H) : Sub (oldG Z Hf) H' := fun a o h => k a o (s a o (oldG_sub a o h)) fun ⟨xs, q⟩ => by
  have h1 := newG_sub a _ q
  have h2 := oldG_sub a _ h
  rw [h1] at h2
  cases h2
  exact newG_lst q (oldG_lst h)
theorem Keep.st {Z : Zn} {Hf H H' : Hp} {S : SS} (k : Keep Z Hf H H') (hd : ∀ a o, H a = some o → ∃ u, H' a = some u) (st : StAt Z H Hf S) : StAt Z H' (oldG Z Hf) S := ⟨fun a q => by
  obtain ⟨o, h⟩ := st.all a q
  exact hd a o h, fun p hp => by
  obtain ⟨h1, h2, h3, h4, h5⟩ := st.str p hp
  have n1 : ¬ ∃ xs, newG Z Hf p.1 = some (.lst xs) := fun ⟨xs, q⟩ => by have := newG_sub _ _ q; rw [h3] at this; cases this
  have n2 : ¬ ∃ xs, newG Z Hf p.2 = some (.lst xs) := fun ⟨xs, q⟩ => by have := newG_sub _ _ q; rw [h4] at this; cases this
  exact ⟨k _ _ h1 n1, k _ _ h2 n2, Sub.none oldG_sub h3, Sub.none oldG_sub h4, h5⟩⟩
/-! ### the stream is made -/
def spT (K : PySem.W.Frag) : Sp := fun vs H Q _ => ∃ (a : Addr) (ns : List Int), vs = [.ref a] ∧ SqL K H a (ns.map V.int) ∧ ∀ b, H b = none → ∀ p, upd H b (.lst (ns.map .int)) p = none → Q (.ref p) (upd (upd H b (.lst (ns.map .int))) p (.lst [.ref b, .int 0, .int 0, .int 19]))
def streamB : Sxs := .cons (.ret (.lst (.cons (.bf .list (.cons (.var 0) (.nil))) (.cons (.int 0) (.cons (.int 0) (.cons (.int 19) (.nil))))))) (.nil)
theorem stream_rd {C : RC} {E : XK} {H : Hp} {vs : List V} {Q : VK} (h : spT C.K vs H Q E) : ∃ v, vs = [v] ∧ rdSs C E streamB { nx := fun _ H' => Q .non H', rt := Q } [some v] H := by
  obtain ⟨a, ns, rfl, hs, k⟩ := h
  refine ⟨_, rfl, ?_⟩
  show rdS C E _ _ _ _
  simp only [rdS, rdE, rdEs]
  exact ⟨_, rfl, .inl ⟨a, _, rfl, .inl hs, fun b hb => ⟨by simp only [List.length_cons, List.length_nil]; decide, fun p hp => k b hb p hp⟩⟩⟩
theorem stream_at {H : Hp} {ns : List Int} {b p : Addr} (hb : H b = none) (hp : upd H b (.lst (ns.map V.int)) p = none) : StAt ⟨some (p, b), fun _ => False⟩ (upd (upd H b (.lst (ns.map .int))) p (.lst [.ref b, .int 0, .int 0, .int 19])) (fun _ => none) ⟨ns, 0, 0, 19⟩ := by
  have hne : p ≠ b := fun q => by rw [q, upd_same] at hp; cases hp
  refine ⟨fun a q => q.elim, fun q hq => ?_⟩
  cases hq
  exact ⟨upd_same, by rw [upd_ne (fun z => hne z.symm)]; exact upd_same, rfl, rfl, hne⟩
/-! ### like values are the same -/
mutual
def likeP : PV → PV → Bool
  | .non, q => match q with | .non => true | _ => false
  | .bl a, q => match q with | .bl b => a == b | _ => false
  | .int a, q => match q with | .int b => beqI a b | _ => false
  | .str a, q => match q with | .str b => beqS a b | _ => false
  | .lst _ xs, q => match q with | .lst _ ys => Nat.ble xs.length 1000000 && likePs xs ys | _ => false
  | .tup xs, q => match q with | .tup ys => Nat.ble xs.length 1000000 && likePs xs ys | _ => false
  | .ty _, _ => false | .dK _ _, _ => false | .dT _ _, _ => false | .strm, _ => false
def likePs : List PV → List PV → Bool
  | [], ys => match ys with | [] => true | _ => false
  | x :: xs, ys => match ys with | y :: ys => likeP x y && likePs xs ys | _ => false
end
mutual
def depP : PV → Nat
  | .lst _ xs => depPs xs + 1
  | .tup xs => depPs xs + 1
  | .non => 0 | .bl _ => 0 | .int _ => 0 | .str _ => 0 | .ty _ => 0 | .dK _ _ => 0 | .dT _ _ => 0 | .strm => 0
def depPs : List PV → Nat
  | [] => 0
  | x :: xs => max (depP x) (depPs xs)
end
def sameB (f : Nat) : Sxs :=
  .cons (.ite (.bf .isinst (.cons (.var 1) (.cons (.tup (.cons (.ty .list) (.cons (.ty .tuple) (.nil)))) (.nil)))) (.cons (.ite (.or (.cmp .ne (.bf .isinst (.cons (.var 0) (.cons (.ty .list) (.nil)))) (.bf .isinst (.cons (.var 1) (.cons (.ty .list) (.nil))))) (.cmp .ne (.bf .isinst (.cons (.var 0) (.cons (.ty .tuple) (.nil)))) (.bf .isinst (.cons (.var 1) (.cons (.ty .tuple) (.nil)))))) (.cons (.ret (.bl false)) (.nil)) (.nil)) (.cons (.ret (.and (.cmp .eq (.bf .len (.cons (.var 0) (.nil))) (.bf .len (.cons (.var 1) (.nil)))) (.bf .all (.cons (.comp (.call f (.cons (.var 2) (.cons (.var 3) (.nil)))) (.tp [2, 3]) (.zip (.var 0) (.var 1)) (.nil) [2, 3]) (.nil))))) (.nil))) (.nil)) (.cons (.ite (.bf .isinst (.cons (.var 1) (.cons (.ty .dict) (.nil)))) (.cons (.never) (.nil)) (.nil)) (.cons (.ite (.or (.bf .isinst (.cons (.var 1) (.cons (.ty .bool) (.nil)))) (.bf .isinst (.cons (.var 0) (.cons (.ty .bool) (.nil))))) (.cons (.ret (.and (.bf .isinst (.cons (.var 1) (.cons (.ty .bool) (.nil)))) (.and (.bf .isinst (.cons (.var 0) (.cons (.ty .bool) (.nil)))) (.cmp .eq (.var 0) (.var 1))))) (.nil)) (.nil)) (.cons (.ite (.or (.isN (.var 1)) (.isN (.var 0))) (.cons (.ret (.and (.isN (.var 1)) (.isN (.var 0)))) (.nil)) (.nil)) (.cons (.ite (.or (.cmp .ne (.bf .isinst (.cons (.var 1) (.cons (.ty .int) (.nil)))) (.bf .isinst (.cons (.var 0) (.cons (.ty .int) (.nil))))) (.cmp .ne (.bf .isinst (.cons (.var 1) (.cons (.ty .str) (.nil)))) (.bf .isinst (.cons (.var 0) (.cons (.ty .str) (.nil)))))) (.cons (.ret (.bl false)) (.nil)) (.nil)) (.cons (.ret (.and (.not (.bf .isinst (.cons (.var 0) (.cons (.tup (.cons (.ty .list) (.cons (.ty .tuple) (.cons (.ty .dict) (.nil))))) (.nil))))) (.cmp .eq (.var 0) (.var 1)))) (.nil))))))
def sameE (p q : PV) : Env' := [some ⟨false, p⟩, some ⟨false, q⟩, none, none]
def sameC (f : Nat) : Ex := .comp (.call f (.cons (.var 2) (.cons (.var 3) (.nil)))) (.tp [2, 3]) (.zip (.var 0) (.var 1)) (.nil) [2, 3]
def sameR (f : Nat) : Sxs := match sameB f with
  | .cons _ r => r
  | .nil => .nil
def wrapR (F : Nat → List PV → SS → Rs PV) (W f : Nat) (r : Rs PV) : Rs Fl := Rs.bind (Rs.bind (Rs.bind r fun p S1 => (Rs.ok (Fl.ret p) S1 : Rs Fl)) fun (fl : Fl) S1 => (match fl with
  | .nxt ρ1 => evSs F W .nil ρ1 S1
  | .ret q => Rs.ok (Fl.ret q) S1 : Rs Fl)) fun (fl : Fl) S1 => (match fl with
  | .nxt ρ1 => evSs F W (sameR f) ρ1 S1
  | .ret q => Rs.ok (Fl.ret q) S1 : Rs Fl)
section
variable {F : Nat → List PV → SS → Rs PV} {W f : Nat} {S : SS}
theorem same_int (i j : Int) : evSs F W (sameB f) (sameE (.int i) (.int j)) S = .ok (.ret (.bl (beqI i j))) S := by kernel_rfl
theorem same_str (i j : Str) : evSs F W (sameB f) (sameE (.str i) (.str j)) S = .ok (.ret (.bl (beqS i j))) S := by kernel_rfl
theorem same_bl (i j : Bool) : evSs F W (sameB f) (sameE (.bl i) (.bl j)) S = .ok (.ret (.bl (i == j))) S := by kernel_rfl
theorem same_non : evSs F W (sameB f) (sameE .non .non) S = .ok (.ret (.bl true)) S := by kernel_rfl
theorem same_lst (c d : Bool) (xs ys : List PV) : evSs F W (sameB f) (sameE (.lst c xs) (.lst d ys)) S = wrapR F W f ((if beqI (xs.length : Int) (ys.length : Int) = true then evE F (.bf .all (.cons (sameC f) .nil)) (sameE (.lst c xs) (.lst d ys)) S else .ok (.bl false) S)) := by kernel_rfl
theorem same_tup (xs ys : List PV) : evSs F W (sameB f) (sameE (.tup xs) (.tup ys)) S = wrapR F W f ((if beqI (xs.length : Int) (ys.length : Int) = true then evE F (.bf .all (.cons (sameC f) .nil)) (sameE (.tup xs) (.tup ys)) S else .ok (.bl false) S)) := by kernel_rfl

theorem compL_all {g : PV → SS → Rs (Option PV)} : ∀ {items : List PV}, (∀ p ∈ items, g p S = .ok (some (.bl true)) S) → compL g items S = .ok (List.replicate items.length (.bl true)) S
  | [], _ => rfl
  | p :: ps, h => by
    show (g p S).bind _ = _
    rw [h p (by simp), Rs.bind_ok, compL_all fun q hq => h q (by simp [hq]), Rs.bind_ok]
    rfl
theorem bls_all : ∀ n : Nat, blsOf (List.replicate n (.bl true)) = some (List.replicate n true) ∧ (List.replicate n true).all id = true
  | 0 => ⟨rfl, rfl⟩
  | n + 1 => by
    obtain ⟨a, b⟩ := bls_all n
    rw [List.replicate_succ, List.replicate_succ]
    exact ⟨by simp only [blsOf, a]; rfl, by simp [b]⟩
theorem like_zip : ∀ {xs ys : List PV}, likePs xs ys = true → xs.length = ys.length ∧ ∀ p ∈ zipL xs ys, ∃ x y, p = .tup [x, y] ∧ likeP x y = true ∧ depP x ≤ depPs xs
  | [], [], _ => ⟨rfl, fun p h => by simp [zipL] at h⟩
  | [], _ :: _, h => by simp [likePs] at h
  | _ :: _, [], h => by simp [likePs] at h
  | x :: xs, y :: ys, h => by
    simp only [likePs, Bool.and_eq_true] at h
    obtain ⟨a, b⟩ := like_zip h.2
    refine ⟨by rw [List.length_cons, List.length_cons, a], fun p hp => ?_⟩
    simp only [zipL, List.mem_cons] at hp
    rcases hp with rfl | hp
    · exact ⟨x, y, rfl, h.1, Nat.le_max_left _ _⟩
    · obtain ⟨u, v, h1, h2, h3⟩ := b p hp
      exact ⟨u, v, h1, h2, Nat.le_trans h3 (Nat.le_max_right _ _)⟩
theorem same_comp {P Q : PV} {xs ys : List PV} (hz : zipP P Q = some (zipL xs ys)) (hl : (zipL xs ys).length ≤ big) (h : ∀ p ∈ zipL xs ys, ∃ x y, p = .tup [x, y] ∧ F f [x, y] S = .ok (.bl true) S) : evE F (.bf .all (.cons (sameC f) .nil)) (sameE P Q) S = .ok (.bl true) S := by
  have hc : evE F (sameC f) (sameE P Q) S = .ok (.lst true (List.replicate (zipL xs ys).length (.bl true))) S := by
    unfold sameC
    simp only [evE, evI]
    show ((ofO (zipP P Q) S).bind _ : Rs PV) = _
    rw [hz, ofO_some, Rs.bind_ok]
    rw [if_pos (by simp only [tgIn, hl, decide_true, Bool.and_true]; rfl)]
    rw [compL_all]
    · rfl
    · intro p hp
      obtain ⟨x, y, rfl, e⟩ := h p hp
      show (Rs.bind (noex ((F f [x, y] S))) _) = _
      rw [e]
      rfl
  show (Rs.bind (Rs.bind (evE F (sameC f) (sameE P Q) S) _) _) = _
  rw [hc]
  show ofO ((blsOf (List.replicate (zipL xs ys).length (.bl true))).map fun bs => PV.bl (bs.all id)) S = _
  rw [(bls_all _).1]
  show ofO (some (PV.bl ((List.replicate (zipL xs ys).length true).all id))) S = _
  rw [(bls_all _).2]
  rfl
theorem same_ok {t : Tb} {d : Dfn} (hd : t.T[f]? = some d) (hB : d.body = sameB f) (hk : d.k = 2) (hN : d.N.length = 4) : ∀ (n : Nat) (p q : PV) (S : SS), likeP p q = true → depP p < n → callN t n f [p, q] S = .ok (.bl true) S
  | 0, _, _, _, _, h => absurd h (Nat.not_lt_zero _)
  | n + 1, p, q, S, hl, hp => by
    have e0 : startP d [p, q] = sameE p q := by
      unfold startP
      rw [hN]
      rfl
    have ih := same_ok hd hB hk hN n
    simp only [callN, hd]
    rw [if_pos (by rw [hk]; rfl), hB, e0]
    cases p with
    | non => cases q <;> first | (simp [likeP] at hl; done) | (rw [same_non]; rfl)
    | bl a =>
      cases q <;> first | (simp [likeP] at hl; done) | skip
      simp only [likeP] at hl
      rw [same_bl, hl]
      rfl
    | int a =>
      cases q <;> first | (simp [likeP] at hl; done) | skip
      simp only [likeP] at hl
      rw [same_int, hl]
      rfl
    | str a =>
      cases q <;> first | (simp [likeP] at hl; done) | skip
      simp only [likeP] at hl
      rw [same_str, hl]
      rfl
    | lst c xs =>
      cases q <;> first | (simp [likeP] at hl; done) | skip
      rename_i c2 ys
      simp only [likeP, Bool.and_eq_true] at hl
      obtain ⟨hb, hl⟩ := hl
      obtain ⟨h1, h2⟩ := like_zip hl
      simp only [depP] at hp
      have hbb : (zipL xs ys).length ≤ big := by
        rw [zip_len]
        have := Nat.le_of_ble_eq_true hb
        unfold big
        omega
      rw [same_lst, h1, if_pos (by rw [beqI_eq]; simp), same_comp rfl hbb fun p hp' => by
        obtain ⟨x, y, e1, e2, e3⟩ := h2 p hp'
        exact ⟨x, y, e1, ih x y S e2 (by omega)⟩]
      rfl
    | tup xs =>
      cases q <;> first | (simp [likeP] at hl; done) | skip
      rename_i ys
      simp only [likeP, Bool.and_eq_true] at hl
      obtain ⟨hb, hl⟩ := hl
      obtain ⟨h1, h2⟩ := like_zip hl
      simp only [depP] at hp
      have hbb : (zipL xs ys).length ≤ big := by
        rw [zip_len]
        have := Nat.le_of_ble_eq_true hb
        unfold big
        omega
      rw [same_tup, h1, if_pos (by rw [beqI_eq]; simp), same_comp rfl hbb fun p hp' => by
        obtain ⟨x, y, e1, e2, e3⟩ := h2 p hp'
        exact ⟨x, y, e1, ih x y S e2 (by omega)⟩]
      rfl
    | ty n => simp [likeP] at hl
    | dK c k => simp [likeP] at hl
    | dT c k => simp [likeP] at hl
    | strm => simp [likeP] at hl
end
end Bb

set_option maxRecDepth 100000
set_option maxHeartbeats 4000000
namespace K60
open L2 PyProof.Rows PySem.Spec PySem Bb
def top (i : Nat) : Stmt := PySem.Challenge.pw_bitsbetween_k60_whole_known_blocks_and_c.main.body.getD i (.Pass ⟨0, 0, 0, 0⟩)
/-- is_whole -/
def d_is_whole : Dfn := ⟨"is_whole", ["thing"], 1, false, top 1,
  .cons (.ret (.and (.bf .isinst (.cons (.var 0) (.cons (.ty .int) (.nil)))) (.not (.bf .isinst (.cons (.var 0) (.cons (.ty .bool) (.nil))))))) (.nil)⟩
/-- check_kind -/
def d_check_kind : Dfn := ⟨"check_kind", ["kind", "many"], 2, false, top 8,
  .cons (.ite (.or (.not (.bf .isinst (.cons (.var 0) (.cons (.ty .str) (.nil))))) (.cmp .notin (.var 0) (.tup (.cons (.str ⟨#[97, 108, 105, 107, 101]⟩) (.cons (.str ⟨#[103, 114, 101, 97, 116, 101, 114]⟩) (.cons (.str ⟨#[115, 117, 109, 115]⟩) (.cons (.str ⟨#[97, 112, 97, 114, 116]⟩) (.nil)))))))) (.cons (.never) (.nil)) (.nil)) (.cons (.ite (.or (.not (.call 0 (.cons (.var 1) (.nil)))) (.cmp .lt (.var 1) (.int 1))) (.cons (.never) (.nil)) (.nil)) (.nil))⟩
/-- power -/
def d_power : Dfn := ⟨"power", ["times", "found", "_"], 1, false, top 9,
  .cons (.set 1 (.int 1)) (.cons (.for (.nm 2) (.rng (.cons (.var 0) (.nil))) (.cons (.set 1 (.bin .mul (.var 1) (.int 2))) (.nil))) (.cons (.ret (.var 1)) (.nil)))⟩
/-- side_of -/
def d_side_of : Dfn := ⟨"side_of", ["kind", "many"], 2, false, top 10,
  .cons (.ret (.ite (.cmp .eq (.var 0) (.str ⟨#[97, 112, 97, 114, 116]⟩)) (.call 2 (.cons (.var 1) (.nil))) (.var 1))) (.nil)⟩
/-- do_meet -/
def d_do_meet : Dfn := ⟨"do_meet", ["one", "other"], 2, false, top 11,
  .cons (.while (.and (.cmp .gt (.var 0) (.int 0)) (.cmp .gt (.var 1) (.int 0))) (.cons (.ite (.and (.cmp .eq (.bin .mod (.var 0) (.int 2)) (.int 1)) (.cmp .eq (.bin .mod (.var 1) (.int 2)) (.int 1))) (.cons (.ret (.bl true)) (.nil)) (.nil)) (.cons (.par 0 1 (.bin .fdiv (.var 0) (.int 2)) (.bin .fdiv (.var 1) (.int 2))) (.nil)))) (.cons (.ret (.bl false)) (.nil))⟩
/-- entry_of -/
def d_entry_of : Dfn := ⟨"entry_of", ["kind", "many", "row", "column"], 4, false, top 12,
  .cons (.ite (.cmp .eq (.var 0) (.str ⟨#[97, 108, 105, 107, 101]⟩)) (.cons (.ret (.ite (.cmp .eq (.var 2) (.var 3)) (.int 1) (.int 0))) (.nil)) (.nil)) (.cons (.ite (.cmp .eq (.var 0) (.str ⟨#[103, 114, 101, 97, 116, 101, 114]⟩)) (.cons (.ret (.ite (.cmp .gt (.var 2) (.var 3)) (.int 1) (.int 0))) (.nil)) (.nil)) (.cons (.ite (.cmp .eq (.var 0) (.str ⟨#[115, 117, 109, 115]⟩)) (.cons (.ret (.bin .mod (.bin .add (.var 2) (.var 3)) (.var 1))) (.nil)) (.nil)) (.cons (.ret (.ite (.call 4 (.cons (.var 2) (.cons (.var 3) (.nil)))) (.int 0) (.int 1))) (.nil))))⟩
/-- table_of -/
def d_table_of : Dfn := ⟨"table_of", ["kind", "many", "side", "row", "column"], 2, false, top 13,
  .cons (.set 2 (.call 3 (.cons (.var 0) (.cons (.var 1) (.nil))))) (.cons (.ret (.comp (.comp (.call 5 (.cons (.var 0) (.cons (.var 1) (.cons (.var 3) (.cons (.var 4) (.nil)))))) (.nm 4) (.rng (.cons (.var 2) (.nil))) (.nil) [4]) (.nm 3) (.rng (.cons (.var 2) (.nil))) (.nil) [3])) (.nil))⟩
/-- known_parts -/
def d_known_parts : Dfn := ⟨"known_parts", ["kind", "many"], 2, false, top 14,
  .cons (.drop (.call 1 (.cons (.var 0) (.cons (.var 1) (.nil))))) (.cons (.ite (.cmp .eq (.call 3 (.cons (.var 0) (.cons (.var 1) (.nil)))) (.int 1)) (.cons (.ret (.int 1)) (.nil)) (.nil)) (.cons (.ite (.cmp .eq (.var 0) (.str ⟨#[115, 117, 109, 115]⟩)) (.cons (.ret (.bin .mul (.var 1) (.var 1))) (.nil)) (.nil)) (.cons (.ite (.cmp .eq (.var 0) (.str ⟨#[97, 112, 97, 114, 116]⟩)) (.cons (.ret (.bin .sub (.bin .mul (.int 2) (.call 2 (.cons (.var 1) (.nil)))) (.int 1))) (.nil)) (.nil)) (.cons (.ret (.ite (.cmp .eq (.var 0) (.str ⟨#[97, 108, 105, 107, 101]⟩)) (.bin .mul (.int 2) (.var 1)) (.bin .sub (.bin .mul (.int 2) (.var 1)) (.int 1)))) (.nil)))))⟩
/-- known_blocks -/
def d_known_blocks : Dfn := ⟨"known_blocks", ["kind", "many", "found", "row", "line", "entry", "columns", "column", "one"], 2, true, top 15,
  .cons (.drop (.call 1 (.cons (.var 0) (.cons (.var 1) (.nil))))) (.cons (.set 2 (.lst (.nil))) (.cons (.for (.tp [3, 4]) (.enum (.call 6 (.cons (.var 0) (.cons (.var 1) (.nil))))) (.cons (.ite (.cmp .eq (.var 0) (.str ⟨#[115, 117, 109, 115]⟩)) (.cons (.ext (.var 2) (.comp (.tup (.cons (.lst (.cons (.var 3) (.nil))) (.cons (.lst (.cons (.var 7) (.nil))) (.nil)))) (.nm 7) (.rng (.cons (.var 1) (.nil))) (.nil) [7])) (.nil)) (.cons (.for (.nm 5) (.val (.tup (.cons (.int 0) (.cons (.int 1) (.nil))))) (.cons (.set 6 (.comp (.var 7) (.tp [7, 8]) (.enum (.var 4)) (.cons (.cmp .eq (.var 8) (.var 5)) (.nil)) [7, 8])) (.cons (.ext (.var 2) (.ite (.cmp .ne (.var 6) (.lst (.nil))) (.lst (.cons (.tup (.cons (.lst (.cons (.var 3) (.nil))) (.cons (.var 6) (.nil)))) (.nil))) (.lst (.nil)))) (.nil)))) (.nil))) (.nil))) (.cons (.ret (.bf .sorted (.cons (.var 2) (.nil)))) (.nil))))⟩
/-- known_cells -/
def d_known_cells : Dfn := ⟨"known_cells", ["kind", "many", "side", "index"], 2, true, top 16,
  .cons (.drop (.call 1 (.cons (.var 0) (.cons (.var 1) (.nil))))) (.cons (.ite (.cmp .eq (.var 0) (.str ⟨#[97, 108, 105, 107, 101]⟩)) (.cons (.ret (.comp (.tup (.cons (.var 3) (.cons (.var 3) (.nil)))) (.nm 3) (.rng (.cons (.var 1) (.nil))) (.nil) [3])) (.nil)) (.nil)) (.cons (.ite (.cmp .eq (.var 0) (.str ⟨#[103, 114, 101, 97, 116, 101, 114]⟩)) (.cons (.ret (.comp (.tup (.cons (.var 3) (.cons (.bin .sub (.var 3) (.int 1)) (.nil)))) (.nm 3) (.rng (.cons (.int 1) (.cons (.var 1) (.nil)))) (.nil) [3])) (.nil)) (.nil)) (.cons (.ite (.cmp .eq (.var 0) (.str ⟨#[115, 117, 109, 115]⟩)) (.cons (.ret (.comp (.tup (.cons (.var 3) (.cons (.bin .mod (.bin .sub (.var 1) (.var 3)) (.var 1)) (.nil)))) (.nm 3) (.rng (.cons (.var 1) (.nil))) (.nil) [3])) (.nil)) (.nil)) (.cons (.set 2 (.call 2 (.cons (.var 1) (.nil)))) (.cons (.ret (.comp (.tup (.cons (.var 3) (.cons (.bin .sub (.bin .sub (.var 2) (.int 1)) (.var 3)) (.nil)))) (.nm 3) (.rng (.cons (.var 2) (.nil))) (.nil) [3])) (.nil))))))⟩
/-- _law_pick -/
def d_law_pick : Dfn := ⟨"_law_pick", ["stream", "things"], 2, false, top 20,
  .cons (.ret (.idx (.var 1) (.call 18 (.cons (.var 0) (.cons (.bf .len (.cons (.var 1) (.nil))) (.nil)))))) (.nil)⟩
/-- _law_same -/
def d_law_same : Dfn := ⟨"_law_same", ["found", "due", "mine", "theirs"], 2, false, top 21,
  .cons (.ite (.bf .isinst (.cons (.var 1) (.cons (.tup (.cons (.ty .list) (.cons (.ty .tuple) (.nil)))) (.nil)))) (.cons (.ite (.or (.cmp .ne (.bf .isinst (.cons (.var 0) (.cons (.ty .list) (.nil)))) (.bf .isinst (.cons (.var 1) (.cons (.ty .list) (.nil))))) (.cmp .ne (.bf .isinst (.cons (.var 0) (.cons (.ty .tuple) (.nil)))) (.bf .isinst (.cons (.var 1) (.cons (.ty .tuple) (.nil)))))) (.cons (.ret (.bl false)) (.nil)) (.nil)) (.cons (.ret (.and (.cmp .eq (.bf .len (.cons (.var 0) (.nil))) (.bf .len (.cons (.var 1) (.nil)))) (.bf .all (.cons (.comp (.call 11 (.cons (.var 2) (.cons (.var 3) (.nil)))) (.tp [2, 3]) (.zip (.var 0) (.var 1)) (.nil) [2, 3]) (.nil))))) (.nil))) (.nil)) (.cons (.ite (.bf .isinst (.cons (.var 1) (.cons (.ty .dict) (.nil)))) (.cons (.never) (.nil)) (.nil)) (.cons (.ite (.or (.bf .isinst (.cons (.var 1) (.cons (.ty .bool) (.nil)))) (.bf .isinst (.cons (.var 0) (.cons (.ty .bool) (.nil))))) (.cons (.ret (.and (.bf .isinst (.cons (.var 1) (.cons (.ty .bool) (.nil)))) (.and (.bf .isinst (.cons (.var 0) (.cons (.ty .bool) (.nil)))) (.cmp .eq (.var 0) (.var 1))))) (.nil)) (.nil)) (.cons (.ite (.or (.isN (.var 1)) (.isN (.var 0))) (.cons (.ret (.and (.isN (.var 1)) (.isN (.var 0)))) (.nil)) (.nil)) (.cons (.ite (.or (.cmp .ne (.bf .isinst (.cons (.var 1) (.cons (.ty .int) (.nil)))) (.bf .isinst (.cons (.var 0) (.cons (.ty .int) (.nil))))) (.cmp .ne (.bf .isinst (.cons (.var 1) (.cons (.ty .str) (.nil)))) (.bf .isinst (.cons (.var 0) (.cons (.ty .str) (.nil)))))) (.cons (.ret (.bl false)) (.nil)) (.nil)) (.cons (.ret (.and (.not (.bf .isinst (.cons (.var 0) (.cons (.tup (.cons (.ty .list) (.cons (.ty .tuple) (.cons (.ty .dict) (.nil))))) (.nil))))) (.cmp .eq (.var 0) (.var 1)))) (.nil))))))⟩
/-- _law_high -/
def d_law_high : Dfn := ⟨"_law_high", ["times", "found", "turn"], 1, false, top 23,
  .cons (.set 1 (.int 1)) (.cons (.for (.nm 2) (.rng (.cons (.var 0) (.nil))) (.cons (.set 1 (.bin .mul (.var 1) (.int 2))) (.nil))) (.cons (.ret (.var 1)) (.nil)))⟩
/-- _law_known -/
def d_law_known : Dfn := ⟨"_law_known", ["kind", "many", "side", "rows", "at", "to"], 2, false, top 24,
  .cons (.set 2 (.ite (.cmp .eq (.var 0) (.str ⟨#[97, 112, 97, 114, 116]⟩)) (.call 12 (.cons (.var 1) (.nil))) (.var 1))) (.cons (.set 3 (.lst (.nil))) (.cons (.for (.nm 4) (.rng (.cons (.var 2) (.nil))) (.cons (.ite (.cmp .eq (.var 0) (.str ⟨#[97, 108, 105, 107, 101]⟩)) (.cons (.app (.var 3) (.comp (.ite (.cmp .eq (.var 4) (.var 5)) (.int 1) (.int 0)) (.nm 5) (.rng (.cons (.var 2) (.nil))) (.nil) [5])) (.nil)) (.nil)) (.cons (.ite (.cmp .eq (.var 0) (.str ⟨#[103, 114, 101, 97, 116, 101, 114]⟩)) (.cons (.app (.var 3) (.comp (.ite (.cmp .lt (.var 5) (.var 4)) (.int 1) (.int 0)) (.nm 5) (.rng (.cons (.var 2) (.nil))) (.nil) [5])) (.nil)) (.nil)) (.cons (.ite (.cmp .eq (.var 0) (.str ⟨#[115, 117, 109, 115]⟩)) (.cons (.app (.var 3) (.comp (.bin .mod (.bf .int (.cons (.bin .add (.var 4) (.var 5)) (.nil))) (.var 1)) (.nm 5) (.rng (.cons (.var 2) (.nil))) (.nil) [5])) (.nil)) (.nil)) (.cons (.ite (.cmp .eq (.var 0) (.str ⟨#[97, 112, 97, 114, 116]⟩)) (.cons (.app (.var 3) (.comp (.ite (.call 14 (.cons (.var 4) (.cons (.var 5) (.nil)))) (.int 1) (.int 0)) (.nm 5) (.rng (.cons (.var 2) (.nil))) (.nil) [5])) (.nil)) (.nil)) (.nil)))))) (.cons (.ret (.var 3)) (.nil))))⟩
/-- _law_are_apart -/
def d_law_are_apart : Dfn := ⟨"_law_are_apart", ["one", "other"], 2, false, top 25,
  .cons (.while (.cmp .gt (.var 0) (.int 0)) (.cons (.ite (.and (.cmp .eq (.bin .mod (.bf .int (.cons (.var 0) (.nil))) (.int 2)) (.int 1)) (.cmp .eq (.bin .mod (.bf .int (.cons (.var 1) (.nil))) (.int 2)) (.int 1))) (.cons (.ret (.bl false)) (.nil)) (.nil)) (.cons (.par 0 1 (.bin .fdiv (.var 0) (.int 2)) (.bin .fdiv (.var 1) (.int 2))) (.nil)))) (.cons (.ret (.bl true)) (.nil))⟩
/-- _law_kind -/
def d_law_kind : Dfn := ⟨"_law_kind", ["stream", "most", "lots", "kind"], 3, false, top 26,
  .cons (.set 3 (.call 10 (.cons (.var 0) (.cons (.lst (.cons (.str ⟨#[97, 108, 105, 107, 101]⟩) (.cons (.str ⟨#[103, 114, 101, 97, 116, 101, 114]⟩) (.cons (.str ⟨#[115, 117, 109, 115]⟩) (.cons (.str ⟨#[97, 112, 97, 114, 116]⟩) (.nil)))))) (.nil))))) (.cons (.ret (.tup (.cons (.var 3) (.cons (.bin .add (.int 1) (.call 18 (.cons (.var 0) (.cons (.ite (.cmp .eq (.var 3) (.str ⟨#[97, 112, 97, 114, 116]⟩)) (.var 2) (.var 1)) (.nil))))) (.nil))))) (.nil))⟩
/-- _law_blocks -/
def d_law_blocks : Dfn := ⟨"_law_blocks", ["kind", "table", "found", "at", "row", "entry", "to", "one"], 2, false, top 27,
  .cons (.set 2 (.lst (.nil))) (.cons (.for (.tp [3, 4]) (.enum (.var 1)) (.cons (.ite (.cmp .eq (.var 0) (.str ⟨#[115, 117, 109, 115]⟩)) (.cons (.ext (.var 2) (.comp (.tup (.cons (.lst (.cons (.var 3) (.nil))) (.cons (.lst (.cons (.var 6) (.nil))) (.nil)))) (.nm 6) (.rng (.cons (.bf .len (.cons (.var 4) (.nil))) (.nil))) (.nil) [6])) (.nil)) (.cons (.for (.nm 5) (.val (.bf .sorted (.cons (.bf .dict (.cons (.comp (.tup (.cons (.var 7) (.cons (.int 0) (.nil)))) (.nm 7) (.val (.var 4)) (.nil) [7]) (.nil))) (.nil)))) (.cons (.app (.var 2) (.tup (.cons (.lst (.cons (.var 3) (.nil))) (.cons (.comp (.var 6) (.nm 6) (.rng (.cons (.bf .len (.cons (.var 4) (.nil))) (.nil))) (.cons (.cmp .eq (.idx (.var 4) (.var 6)) (.var 5)) (.nil)) [6]) (.nil))))) (.nil))) (.nil))) (.nil))) (.cons (.ret (.bf .sorted (.cons (.var 2) (.nil)))) (.nil)))⟩
/-- _law_cells -/
def d_law_cells : Dfn := ⟨"_law_cells", ["kind", "many", "side", "at"], 3, false, top 28,
  .cons (.ite (.cmp .eq (.var 0) (.str ⟨#[103, 114, 101, 97, 116, 101, 114]⟩)) (.cons (.ret (.comp (.tup (.cons (.var 3) (.cons (.bin .sub (.var 3) (.int 1)) (.nil)))) (.nm 3) (.rng (.cons (.int 1) (.cons (.var 2) (.nil)))) (.nil) [3])) (.nil)) (.nil)) (.cons (.ite (.cmp .eq (.var 0) (.str ⟨#[97, 108, 105, 107, 101]⟩)) (.cons (.ret (.comp (.tup (.cons (.var 3) (.cons (.var 3) (.nil)))) (.nm 3) (.rng (.cons (.var 2) (.nil))) (.nil) [3])) (.nil)) (.nil)) (.cons (.ite (.cmp .eq (.var 0) (.str ⟨#[97, 112, 97, 114, 116]⟩)) (.cons (.ret (.comp (.tup (.cons (.var 3) (.cons (.bin .sub (.bin .sub (.var 2) (.int 1)) (.var 3)) (.nil)))) (.nm 3) (.rng (.cons (.var 2) (.nil))) (.nil) [3])) (.nil)) (.nil)) (.cons (.ret (.comp (.tup (.cons (.var 3) (.cons (.bin .mod (.bf .int (.cons (.bin .sub (.var 1) (.var 3)) (.nil))) (.var 1)) (.nil)))) (.nm 3) (.rng (.cons (.var 1) (.nil))) (.nil) [3])) (.nil))))⟩
/-- _law_draw -/
def d_law_draw : Dfn := ⟨"_law_draw", ["stream", "many", "cell", "digit", "mixed"], 2, false, top 19,
  .cons (.put (.var 0) (.int 2) (.bin .add (.idx (.var 0) (.int 2)) (.int 1))) (.cons (.while (.and (.cmp .eq (.idx (.var 0) (.int 1)) (.int 0)) (.cmp .ne (.idx (.var 0) (.int 0)) (.lst (.nil)))) (.cons (.set 2 (.bf .abs (.cons (.pop0 (.idx (.var 0) (.int 0))) (.nil)))) (.cons (.put (.var 0) (.int 3) (.bin .mod (.bf .int (.cons (.bin .add (.bin .add (.bin .mul (.idx (.var 0) (.int 3)) (.int 6151)) (.var 2)) (.int 7)) (.nil))) (.int 2147483629))) (.cons (.put (.var 0) (.int 1) (.ite (.cmp .ge (.var 2) (.bin .pow (.int 10) (.int 18))) (.var 2) (.int 0))) (.nil))))) (.cons (.ite (.cmp .gt (.idx (.var 0) (.int 1)) (.int 0)) (.cons (.set 3 (.bin .mod (.bf .int (.cons (.idx (.var 0) (.int 1)) (.nil))) (.var 1))) (.cons (.put (.var 0) (.int 1) (.bin .fdiv (.idx (.var 0) (.int 1)) (.var 1))) (.cons (.ret (.var 3)) (.nil)))) (.nil)) (.cons (.set 4 (.bin .mod (.bf .int (.cons (.bin .pow (.bin .add (.bin .add (.idx (.var 0) (.int 3)) (.bin .mul (.int 8191) (.idx (.var 0) (.int 2)))) (.int 50021)) (.int 5)) (.nil))) (.int 2147483587))) (.cons (.ret (.bin .mod (.bin .mod (.bf .int (.cons (.bin .pow (.bin .add (.bin .add (.bin .mul (.var 4) (.int 40009)) (.bin .mul (.int 20011) (.idx (.var 0) (.int 2)))) (.int 31)) (.int 3)) (.nil))) (.int 1000000009)) (.var 1))) (.nil)))))⟩
/-- _law_spoilt -/
def d_law_spoilt : Dfn := ⟨"_law_spoilt", ["thing", "key", "part"], 1, false, top 22,
  .cons (.ite (.bf .isinst (.cons (.var 0) (.cons (.ty .dict) (.nil)))) (.cons (.for (.nm 1) (.val (.bf .list (.cons (.var 0) (.nil)))) (.cons (.drop (.call 19 (.cons (.idx (.var 0) (.var 1)) (.nil)))) (.nil))) (.cons (.put (.var 0) (.str ⟨#[108, 97, 116, 101]⟩) (.int 1)) (.nil))) (.nil)) (.cons (.ite (.bf .isinst (.cons (.var 0) (.cons (.tup (.cons (.ty .list) (.cons (.ty .tuple) (.nil)))) (.nil)))) (.cons (.for (.nm 2) (.val (.var 0)) (.cons (.drop (.call 19 (.cons (.var 2) (.nil)))) (.nil))) (.nil)) (.nil)) (.cons (.ite (.bf .isinst (.cons (.var 0) (.cons (.ty .list) (.nil)))) (.cons (.app (.var 0) (.str ⟨#[108, 97, 116, 101]⟩)) (.nil)) (.nil)) (.nil)))⟩
/-- _law_stream -/
def d_law_stream : Dfn := ⟨"_law_stream", ["script"], 1, false, top 18,
  .cons (.ret (.lst (.cons (.bf .list (.cons (.var 0) (.nil))) (.cons (.int 0) (.cons (.int 0) (.cons (.int 19) (.nil))))))) (.nil)⟩
/-- law -/
def d_law : Dfn := ⟨"law", ["script", "stream", "turn", "kind", "many", "table", "seen", "side", "due", "cells", "told", "far", "block", "at", "to", "number", "one", "two", "entry"], 1, false, top 29,
  .cons (.set 1 (.call 20 (.cons (.var 0) (.nil)))) (.cons (.for (.nm 2) (.rng (.cons (.int 6) (.nil))) (.cons (.asg [3, 4] (.call 15 (.cons (.var 1) (.cons (.int 16) (.cons (.int 4) (.nil)))))) (.cons (.par 5 6 (.call 13 (.cons (.var 3) (.cons (.var 4) (.nil)))) (.dnew true)) (.cons (.set 7 (.bf .len (.cons (.var 5) (.nil)))) (.cons (.par 8 9 (.call 16 (.cons (.var 3) (.cons (.var 5) (.nil)))) (.call 17 (.cons (.var 3) (.cons (.var 4) (.cons (.var 7) (.nil)))))) (.cons (.set 10 (.lst (.cons (.call 8 (.cons (.var 3) (.cons (.var 4) (.nil)))) (.cons (.callk 8 (.cons (.var 4) (.cons (.var 3) (.nil)))) (.nil))))) (.cons (.set 11 (.lst (.cons (.call 9 (.cons (.var 3) (.cons (.var 4) (.nil)))) (.cons (.callk 9 (.cons (.var 4) (.cons (.var 3) (.nil)))) (.nil))))) (.cons (.ite (.or (.not (.call 11 (.cons (.var 10) (.cons (.lst (.cons (.var 8) (.cons (.var 8) (.nil)))) (.nil))))) (.not (.call 11 (.cons (.var 11) (.cons (.lst (.cons (.var 9) (.cons (.var 9) (.nil)))) (.nil)))))) (.cons (.ret (.bl false)) (.nil)) (.nil)) (.cons (.for (.nm 12) (.val (.var 8)) (.cons (.for (.nm 13) (.val (.idx (.var 12) (.int 0))) (.cons (.for (.nm 14) (.val (.idx (.var 12) (.int 1))) (.cons (.ite (.or (.cmp .isin (.tup (.cons (.var 13) (.cons (.var 14) (.nil)))) (.var 6)) (.cmp .ne (.idx (.idx (.var 5) (.var 13)) (.var 14)) (.idx (.idx (.var 5) (.idx (.idx (.var 12) (.int 0)) (.int 0))) (.idx (.idx (.var 12) (.int 1)) (.int 0))))) (.cons (.ret (.bl false)) (.nil)) (.nil)) (.cons (.put (.var 6) (.tup (.cons (.var 13) (.cons (.var 14) (.nil)))) (.bl true)) (.nil)))) (.nil))) (.nil))) (.cons (.ite (.or (.cmp .ne (.bf .len (.cons (.var 6) (.nil))) (.bin .mul (.var 7) (.var 7))) (.not (.call 11 (.cons (.call 7 (.cons (.var 3) (.cons (.var 4) (.nil)))) (.cons (.bf .len (.cons (.var 8) (.nil))) (.nil)))))) (.cons (.ret (.bl false)) (.nil)) (.nil)) (.cons (.for (.tp [15, 16]) (.enum (.var 9)) (.cons (.for (.nm 17) (.val (.slice (.var 9) (.nil) (.cons (.var 15) (.nil)))) (.cons (.set 18 (.idx (.idx (.var 5) (.idx (.var 16) (.int 0))) (.idx (.var 16) (.int 1)))) (.cons (.ite (.or (.cmp .ne (.idx (.idx (.var 5) (.idx (.var 17) (.int 0))) (.idx (.var 17) (.int 1))) (.var 18)) (.and (.cmp .eq (.idx (.idx (.var 5) (.idx (.var 16) (.int 0))) (.idx (.var 17) (.int 1))) (.var 18)) (.cmp .eq (.idx (.idx (.var 5) (.idx (.var 17) (.int 0))) (.idx (.var 16) (.int 1))) (.var 18)))) (.cons (.ret (.bl false)) (.nil)) (.nil)) (.nil)))) (.nil))) (.cons (.for (.nm 12) (.val (.idx (.var 10) (.int 0))) (.cons (.app (.idx (.var 12) (.int 0)) (.str ⟨#[108, 97, 116, 101]⟩)) (.nil))) (.cons (.drop (.call 19 (.cons (.lst (.cons (.idx (.var 10) (.int 1)) (.cons (.idx (.var 11) (.int 0)) (.cons (.idx (.var 11) (.int 1)) (.nil))))) (.nil)))) (.cons (.ite (.not (.call 11 (.cons (.lst (.cons (.call 8 (.cons (.var 3) (.cons (.var 4) (.nil)))) (.cons (.call 9 (.cons (.var 3) (.cons (.var 4) (.nil)))) (.nil)))) (.cons (.lst (.cons (.var 8) (.cons (.var 9) (.nil)))) (.nil))))) (.cons (.ret (.bl false)) (.nil)) (.nil)) (.nil))))))))))))))) (.cons (.ret (.bl true)) (.nil)))⟩
def T : List Dfn := [d_is_whole, d_check_kind, d_power, d_side_of, d_do_meet, d_entry_of, d_table_of, d_known_parts, d_known_blocks, d_known_cells, d_law_pick, d_law_same, d_law_high, d_law_known, d_law_are_apart, d_law_kind, d_law_blocks, d_law_cells]
def P : List FnE := [d_law_draw.fe, d_law_spoilt.fe, d_law_stream.fe]
def f_is_whole : Nat := 0
def f_check_kind : Nat := 1
def f_power : Nat := 2
def f_side_of : Nat := 3
def f_do_meet : Nat := 4
def f_entry_of : Nat := 5
def f_table_of : Nat := 6
def f_known_parts : Nat := 7
def f_known_blocks : Nat := 8
def f_known_cells : Nat := 9
def f_law_pick : Nat := 10
def f_law_same : Nat := 11
def f_law_high : Nat := 12
def f_law_known : Nat := 13
def f_law_are_apart : Nat := 14
def f_law_kind : Nat := 15
def f_law_blocks : Nat := 16
def f_law_cells : Nat := 17
def f_law_draw : Nat := 18
def f_law_spoilt : Nat := 19
def f_law_stream : Nat := 20
end K60

set_option maxRecDepth 100000
set_option maxHeartbeats 4000000
namespace K60
open L2 PyProof.Rows PySem.Spec PySem Bb
def tb : Tb := ⟨T, P, fun f ps S => if f = f_law_draw then drawF ps S else .no, 100⟩
def dropS : Nat → Sxs → Sxs
  | n + 1, .cons _ r => dropS n r
  | _, r => r
def takeS : Nat → Sxs → Sxs
  | n + 1, .cons s r => .cons s (takeS n r)
  | _, _ => .nil
def forB : Sxs := match d_law.body with
  | .cons _ (.cons (.for _ _ b) _) => b
  | _ => .nil
abbrev LV : Nat := 12
abbrev FF : Nat → List PV → SS → Rs PV := callN tb LV
def sA : Sxs := takeS 3 (dropS 1 forB)
def sTold : Sxs := takeS 2 (dropS 4 forB)
def sC : Sxs := takeS 3 (dropS 7 forB)
def rho0 (k : Str) (m : Int) : Env' := [none, some ⟨false, .strm⟩, none, some ⟨false, .str k⟩, some ⟨false, .int m⟩, none, none, none, none, none, none, none, none, none, none, none, none, none, none]
def esc7 : List Nat := [10, 8, 8, 11, 9, 9]
def turnO (k : Str) (m : Int) (S : SS) : Option (Env' × Env' × Env' × SS × SS × SS) := match evSs FF 100 sA (rho0 k m) S with
  | .ok (.nxt ρ4) S1 => (match evSs FF 100 sTold (recE ρ4) S1 with
    | .ok (.nxt ρ6) S2 => (match evSs FF 100 sC (share esc7 ρ6) S2 with
      | .ok (.nxt ρ10) S3 => some (ρ4, ρ6, ρ10, S1, S2, S3)
      | _ => none)
    | _ => none)
  | _ => none
def small : Option Bb.Tree → Bool
  | some t => Nat.ble (cnt t) 100000 && Nat.ble (dep t) 10
  | none => false
def blockOk : PV → Bool
  | .tup (.lst _ _ :: _) => true
  | _ => false
def toldOk : PV → Bool
  | .lst _ [.lst _ bs, _] => bs.all blockOk
  | _ => false
def farOk : PV → Bool
  | .lst _ [_, _] => true
  | _ => false
def isStrm : Option PV → Bool
  | some .strm => true
  | _ => false
def good6 (ρ7 : Env') : Bool := match lookS ρ7 10, lookS ρ7 8, lookS ρ7 11, lookS ρ7 9 with
  | some told, some due, some far, some cells => likeP told (.lst true [due, due]) && likeP far (.lst true [cells, cells]) && Nat.ble (depP told) 10 && Nat.ble (depP far) 10
  | _, _, _, _ => false
def good10 (ρ : Env') (S : SS) : Bool × SS := match lookS ρ 10, lookS ρ 8, lookS ρ 11, lookS ρ 9, lookS ρ 3, lookS ρ 4 with
  | some told, some due, some far, some cells, some k, some m => (match FF f_known_blocks [k, m] S with
    | .ok pb S1 => (match FF f_known_cells [k, m] S1 with
      | .ok pc S2 => (isStrm (lookS ρ 1) && oldP due && oldP cells && toldOk told && farOk far && small (newP told) && small (newP far) && likeP (.lst true [pb, pc]) (.lst true [due, cells]) && Nat.ble (depP (.lst true [pb, pc])) 10 && oldP k && oldP m && Nat.beq ρ.length 19, S2)
      | _ => (false, S))
    | _ => (false, S))
  | _, _, _, _, _, _ => (false, S)
def turnB (k : Str) (m : Int) (S : SS) : Bool × SS := match turnO k m S with
  | some (_, ρ6, ρ10, _, _, S3) => if good6 (share esc7 ρ6) then good10 ρ10 S3 else (false, S)
  | none => (false, S)
def kS : Str := ⟨#[115, 117, 109, 115]⟩
def kL : Str := ⟨#[97, 108, 105, 107, 101]⟩
def kA : Str := ⟨#[97, 112, 97, 114, 116]⟩
def kG : Str := ⟨#[103, 114, 101, 97, 116, 101, 114]⟩
end K60

set_option maxRecDepth 100000
set_option maxHeartbeats 4000000
namespace K60
open L2 PyProof.Rows PySem.Spec PySem Bb
def restK (F : Nat → List PV → SS → Rs PV) (r : Sxs) : Fl → SS → Rs Fl := fun fl S1 => match fl with
  | .nxt ρ1 => evSs F 100 r ρ1 S1
  | .ret q => Rs.ok (Fl.ret q) S1
def retK : PV → SS → Rs Fl := fun p S1 => Rs.ok (Fl.ret p) S1
theorem pick_step (c : Bool) (things : List PV) (S : SS) : callN tb 11 f_law_pick [.strm, .lst c things] S = Rs.bind (Rs.bind (Rs.bind (Rs.bind (drawP S (things.length : Int)) fun y S2 => ofO (idxP (.lst c things) y) S2) retK) (restK (callN tb 10) .nil)) retOf := by kernel_rfl
def kinds : List PV := [.str kL, .str kG, .str kS, .str kA]
def kindB : Sxs := match d_law_kind.body with
  | .cons _ r => r
  | .nil => .nil
theorem kind_step (S : SS) : callN tb 12 f_law_kind [.strm, .int 16, .int 4] S = Rs.bind (Rs.bind (Rs.bind (callN tb 11 f_law_pick [.strm, .lst true kinds] S) fun p S1 => Rs.ok (Fl.nxt [some ⟨false, .strm⟩, some ⟨false, .int 16⟩, some ⟨false, .int 4⟩, some ⟨false, p⟩]) S1) (restK (callN tb 11) kindB)) retOf := by kernel_rfl
def envK (k : Str) : Env' := [some ⟨false, .strm⟩, some ⟨false, .int 16⟩, some ⟨false, .int 4⟩, some ⟨false, .str k⟩]
def kEnd (k : Str) (m : Int) (S : SS) : Rs Fl := Rs.bind (Rs.bind (Rs.bind (Rs.bind (Rs.bind (drawP S m) fun y S2 => ofO (binP .add (.int 1) y) S2) fun x S1 => Rs.bind (Rs.ok [] S1) fun xs S2 => Rs.ok (x :: xs) S2) fun xs S2 => Rs.ok (PV.str k :: xs) S2) fun ps S1 => Rs.ok (PV.tup ps) S1) retK
theorem end_L (S : SS) : evSs (callN tb 11) 100 kindB (envK kL) S = Rs.bind (kEnd kL 16 S) (restK (callN tb 11) .nil) := by kernel_rfl
theorem end_G (S : SS) : evSs (callN tb 11) 100 kindB (envK kG) S = Rs.bind (kEnd kG 16 S) (restK (callN tb 11) .nil) := by kernel_rfl
theorem end_S (S : SS) : evSs (callN tb 11) 100 kindB (envK kS) S = Rs.bind (kEnd kS 16 S) (restK (callN tb 11) .nil) := by kernel_rfl
theorem end_A (S : SS) : evSs (callN tb 11) 100 kindB (envK kA) S = Rs.bind (kEnd kA 4 S) (restK (callN tb 11) .nil) := by kernel_rfl
def rho1 : Env' := [none, some ⟨false, .strm⟩, none, none, none, none, none, none, none, none, none, none, none, none, none, none, none, none, none]
def s0 : Sx := match forB with
  | .cons s _ => s
  | .nil => .pass
theorem s0_step (S : SS) : evS FF 100 s0 rho1 S = Rs.bind (callN tb 12 f_law_kind [.strm, .int 16, .int 4] S) fun p S1 => Rs.bind (ofO (tupOf 2 p) S1) fun ps S1 => Rs.ok (Fl.nxt (setAll [3, 4] ps rho1)) S1 := by kernel_rfl
/-- the kinds and numbers that may be drawn -/
def Drawn (k : Str) (m : Int) : Prop := ((k = kL ∨ k = kG ∨ k = kS) ∧ 1 ≤ m ∧ m ≤ 16) ∨ (k = kA ∧ 1 ≤ m ∧ m ≤ 4)
structure SOk (S : SS) (n : Int) : Prop where
  c0 : 0 ≤ S.count
  c1 : S.count ≤ n
  h0 : 0 ≤ S.hash
  h1 : S.hash < 2147483648
theorem kind_end (k : Str) (m : Int) (S : SS) (n : Int) (hm : 0 < m ∧ m ≤ 16) (ok : SOk S n) (hn : n < 1000) : ∃ r S', 1 ≤ r ∧ r ≤ m ∧ SOk S' (n + 1) ∧ Rs.bind (Rs.bind (kEnd k m S) (restK (callN tb 11) .nil)) retOf = .ok (.tup [.str k, .int r]) S' := by
  have c0 := ok.c0
  have c1 := ok.c1
  obtain ⟨r, S', e, r0, r1, q1, q2, q3⟩ := draw_ok (S := S) (m := m) hm.1 (by omega) ok.c0 (by omega) ok.h0 ok.h1
  refine ⟨1 + r, S', by omega, by omega, ⟨by omega, by omega, q2, q3⟩, ?_⟩
  unfold kEnd
  rw [e]
  rfl
theorem kind_ok (S : SS) (n : Int) (ok : SOk S n) (hn : n < 900) : ∃ k m S', Drawn k m ∧ SOk S' (n + 2) ∧ evS FF 100 s0 rho1 S = .ok (.nxt (rho0 k m)) S' := by
  have c0 := ok.c0
  have c1 := ok.c1
  obtain ⟨r, S1, e, r0, r1, q1, q2, q3⟩ := draw_ok (S := S) (m := 4) (by omega) (by omega) ok.c0 (by omega) ok.h0 ok.h1
  have ok1 : SOk S1 (n + 1) := ⟨by omega, by omega, q2, q3⟩
  have fin : ∀ (k : Str) (b : Int), (0 < b ∧ b ≤ 16) → (∀ m, 1 ≤ m → m ≤ b → Drawn k m) → callN tb 11 f_law_pick [.strm, .lst true kinds] S = .ok (.str k) S1 → (∀ S, evSs (callN tb 11) 100 kindB (envK k) S = Rs.bind (kEnd k b S) (restK (callN tb 11) .nil)) →
      ∃ k m S', Drawn k m ∧ SOk S' (n + 2) ∧ evS FF 100 s0 rho1 S = .ok (.nxt (rho0 k m)) S' := by
    intro k b hb hd hp he
    obtain ⟨m, S2, m1, m2, ok2, e2⟩ := kind_end k b S1 (n + 1) hb ok1 (by omega)
    have ok3 : SOk S2 (n + 2) := ⟨ok2.c0, by have := ok2.c1; omega, ok2.h0, ok2.h1⟩
    refine ⟨k, m, S2, hd m m1 m2, ok3, ?_⟩
    rw [s0_step, kind_step, hp]
    show Rs.bind (Rs.bind (evSs (callN tb 11) 100 kindB (envK k) S1) retOf) _ = _
    rw [he, e2]
    rfl
  have pk : ∀ (k : Str), kinds[r.toNat]? = some (.str k) → callN tb 11 f_law_pick [.strm, .lst true kinds] S = .ok (.str k) S1 := by
    intro k hk
    rw [pick_step]
    have e' : drawP S ((kinds.length : Nat) : Int) = .ok (.int r) S1 := e
    rw [e']
    have hx : idxP (.lst true kinds) (.int r) = some (.str k) := by
      show atI kinds r = _
      unfold atI ixN
      have hl : kinds.length = 4 := rfl
      rw [hl, if_pos r0, if_pos (by omega)]
      exact hk
    show Rs.bind (Rs.bind (Rs.bind (ofO (idxP (.lst true kinds) (.int r)) S1) retK) (restK (callN tb 10) .nil)) retOf = _
    rw [hx]
    rfl
  have h4 : r = 0 ∨ r = 1 ∨ r = 2 ∨ r = 3 := by omega
  rcases h4 with rfl | rfl | rfl | rfl
  · exact fin kL 16 (by omega) (fun m a b => .inl ⟨.inl rfl, a, b⟩) (pk kL rfl) end_L
  · exact fin kG 16 (by omega) (fun m a b => .inl ⟨.inr (.inl rfl), a, b⟩) (pk kG rfl) end_G
  · exact fin kS 16 (by omega) (fun m a b => .inl ⟨.inr (.inr rfl), a, b⟩) (pk kS rfl) end_S
  · exact fin kA 4 (by omega) (fun m a b => .inr ⟨rfl, a, b⟩) (pk kA rfl) end_A
end K60

set_option maxRecDepth 100000
set_option maxHeartbeats 4000000
namespace K60
open L2 PyProof.Rows PySem.Spec PySem Bb
theorem rd_split {C : RC} {E : XK} : ∀ (n : Nat) (ss : Sxs) (D : Ends), rdSs C E ss D = rdSs C E (takeS n ss) { D with nx := rdSs C E (dropS n ss) D }
  | 0, ss, D => by cases ss <;> rfl
  | n + 1, .nil, D => rfl
  | n + 1, .cons s r, D => by
    have ih := rd_split (C := C) (E := E) n r D
    have e1 : rdSs C E (.cons s r) D = rdS C E s { D with nx := rdSs C E r D } := rfl
    have e2 : rdSs C E (takeS (n + 1) (.cons s r)) { D with nx := rdSs C E (dropS (n + 1) (.cons s r)) D } = rdS C E s { D with nx := rdSs C E (takeS n r) { D with nx := rdSs C E (dropS n r) D } } := rfl
    rw [e1, e2, ← ih]
theorem turn_split {k : Str} {m : Int} {S : SS} (h : turnB k m S = (true, S)) : ∃ ρ4 ρ6 ρ10 Sa Sb Sc, evSs FF 100 sA (rho0 k m) S = .ok (.nxt ρ4) Sa ∧ evSs FF 100 sTold (recE ρ4) Sa = .ok (.nxt ρ6) Sb ∧ evSs FF 100 sC (share esc7 ρ6) Sb = .ok (.nxt ρ10) Sc ∧ good6 (share esc7 ρ6) = true ∧ good10 ρ10 Sc = (true, S) := by
  have ho : ∃ o, o = turnO k m S := ⟨_, rfl⟩
  obtain ⟨o, ho⟩ := ho
  unfold turnB at h
  rw [← ho] at h
  cases o with
  | none => cases h
  | some z =>
    obtain ⟨ρ4, ρ6, ρ10, Sa, Sb, Sc⟩ := z
    have h : (if good6 (share esc7 ρ6) = true then good10 ρ10 Sc else (false, S)) = (true, S) := h
    cases hg : good6 (share esc7 ρ6) with
    | false => rw [hg] at h; cases h
    | true =>
      rw [hg, if_pos rfl] at h
      have ho := ho.symm
      unfold turnO at ho
      split at ho
      · rename_i e1
        split at ho
        · rename_i e2
          split at ho
          · rename_i e3
            cases ho
            exact ⟨_, _, _, _, _, _, e1, e2, e3, hg, h⟩
          · cases ho
        · cases ho
      · cases ho
def s7 : Sx := match dropS 6 forB with
  | .cons s _ => s
  | .nil => .pass
def c7 : Ex := .or (.not (.call f_law_same (.cons (.var 10) (.cons (.lst (.cons (.var 8) (.cons (.var 8) .nil))) .nil)))) (.not (.call f_law_same (.cons (.var 11) (.cons (.lst (.cons (.var 9) (.cons (.var 9) .nil))) .nil))))
theorem s7_is : s7 = .ite c7 (.cons (.ret (.bl false)) .nil) .nil := rfl
theorem esc7_is : esc c7 = esc7 := rfl
theorem same_FF (p q : PV) (S : SS) (h : likeP p q = true) (hd : Nat.ble (depP p) 10 = true) : FF f_law_same [p, q] S = .ok (.bl true) S :=
  same_ok (t := tb) (d := d_law_same) (f := f_law_same) rfl rfl rfl rfl 12 p q S h (by have := Nat.le_of_ble_eq_true hd; omega)
theorem s7_step {ρ : Env'} {S : SS} (h : good6 (share esc7 ρ) = true) : evS FF 100 s7 ρ S = .ok (.nxt (share esc7 ρ)) S := by
  unfold good6 at h
  split at h
  · rename_i told due far cells e10 e8 e11 e9
    simp only [Bool.and_eq_true] at h
    obtain ⟨⟨⟨h1, h2⟩, h3⟩, h4⟩ := h
    have q1 := same_FF told (.lst true [due, due]) S h1 h3
    have q2 := same_FF far (.lst true [cells, cells]) S h2 h4
    have ce : evE FF c7 (share esc7 ρ) S = .ok (.bl false) S := by
      unfold c7
      simp only [evE, evEs, e10, e8, e11, e9, ofO_some, Rs.bind_ok, exsLen, show (0 + 1 + 1 ≤ 1000) = True from eq_true (by omega), if_true, q1]
      show Rs.bind (FF f_law_same [far, PV.lst true [cells, cells]] S) _ = _
      rw [q2]
      rfl
    rw [s7_is]
    simp only [evS, esc7_is]
    rw [ce]
    rfl
  · cases h
def s13 : Sxs := dropS 12 forB
def c13 : Ex := .not (.call f_law_same (.cons (.lst (.cons (.call f_known_blocks (.cons (.var 3) (.cons (.var 4) .nil))) (.cons (.call f_known_cells (.cons (.var 3) (.cons (.var 4) .nil))) .nil))) (.cons (.lst (.cons (.var 8) (.cons (.var 9) .nil))) .nil)))
theorem s13_is : s13 = .cons (.ite c13 (.cons (.ret (.bl false)) .nil) .nil) .nil := rfl
def rho13 (k m due cells : PV) : Env' := [none, some ⟨false, .strm⟩, none, some ⟨false, k⟩, some ⟨false, m⟩, none, none, none, some ⟨false, due⟩, some ⟨false, cells⟩, none, none, none, none, none, none, none, none, none]
theorem s13_step {k m due cells pb pc : PV} {S S1 S2 : SS} (e1 : FF f_known_blocks [k, m] S = .ok pb S1) (e2 : FF f_known_cells [k, m] S1 = .ok pc S2) (h : likeP (.lst true [pb, pc]) (.lst true [due, cells]) = true) (hd : Nat.ble (depP (.lst true [pb, pc])) 10 = true) : evSs FF 100 s13 (rho13 k m due cells) S = .ok (.nxt (rho13 k m due cells)) S2 := by
  have q1 := same_FF (.lst true [pb, pc]) (.lst true [due, cells]) S2 h hd
  have es : share (esc c13) (rho13 k m due cells) = rho13 k m due cells := rfl
  have l3 : lookS (rho13 k m due cells) 3 = some k := rfl
  have l4 : lookS (rho13 k m due cells) 4 = some m := rfl
  have l8 : lookS (rho13 k m due cells) 8 = some due := rfl
  have l9 : lookS (rho13 k m due cells) 9 = some cells := rfl
  have ce : evE FF c13 (rho13 k m due cells) S = .ok (.bl false) S2 := by
    unfold c13
    simp only [evE, evEs, l3, l4, l8, l9, ofO_some, Rs.bind_ok, exsLen, show (0 + 1 + 1 ≤ 1000) = True from eq_true (by omega), if_true, e1, e2, q1]
    rfl
  rw [s13_is]
  simp only [evSs, evS, es]
  rw [ce]
  rfl
theorem rel1 {p b : Addr} {σ : L2.St} {H : Hp} {S : SS} (hl : σ.length = 19) (h1 : σ[1]? = some (some (.ref p))) (st : StAt ⟨some (p, b), fun _ => False⟩ H (fun _ => none) S) : Rel ⟨some (p, b), fun _ => False⟩ H (fun _ => none) rho1 S σ H (fun _ => none) where
  ext := Ext.refl fun _ _ h => by cases h
  st := st
  len := hl
  sl := fun i s h => by
    match i, h with
    | 0, h => cases h
    | 1, h =>
      cases h
      exact ⟨_, h1, .strm rfl⟩
    | n + 2, h =>
      have e : rho1[n + 2]? = (List.replicate 17 (none : Option Sl))[n]? := rfl
      rw [e, List.getElem?_replicate] at h
      split at h <;> cases h
  apart := fun i j p q a _ h _ _ => by
    match i, h with
    | 0, h => cases h
    | 1, h => cases h
    | n + 2, h =>
      have e : rho1[n + 2]? = (List.replicate 17 (none : Option Sl))[n]? := rfl
      rw [e, List.getElem?_replicate] at h
      split at h <;> cases h
theorem rel13 {Z : Zn} {σ : L2.St} {H Hf : Hp} {S : SS} {k m due cells : PV} {v1 v3 v4 v8 v9 : V} (hl : σ.length = 19) (s : Sub Hf H) (st : StAt Z H Hf S) (h1 : σ[1]? = some (some v1)) (d1 : Den Z Hf v1 .strm) (h3 : σ[3]? = some (some v3)) (d3 : Den Z Hf v3 k) (h4 : σ[4]? = some (some v4)) (d4 : Den Z Hf v4 m)
    (h8 : σ[8]? = some (some v8)) (d8 : Den Z Hf v8 due) (h9 : σ[9]? = some (some v9)) (d9 : Den Z Hf v9 cells) : Rel Z H Hf (rho13 k m due cells) S σ H Hf where
  ext := Ext.refl s
  st := st
  len := hl
  sl := fun i sl h => by
    match i, h with
    | 0, h => cases h
    | 1, h => cases h; exact ⟨_, h1, d1⟩
    | 2, h => cases h
    | 3, h => cases h; exact ⟨_, h3, d3⟩
    | 4, h => cases h; exact ⟨_, h4, d4⟩
    | 5, h => cases h
    | 6, h => cases h
    | 7, h => cases h
    | 8, h => cases h; exact ⟨_, h8, d8⟩
    | 9, h => cases h; exact ⟨_, h9, d9⟩
    | n + 10, h =>
      have e : (rho13 k m due cells)[n + 10]? = (List.replicate 9 (none : Option Sl))[n]? := rfl
      rw [e, List.getElem?_replicate] at h
      split at h <;> cases h
  apart := fun i j p q a _ h _ _ => by
    match i, h with
    | 0, h => cases h
    | 1, h => cases h
    | 2, h => cases h
    | 3, h => cases h
    | 4, h => cases h
    | 5, h => cases h
    | 6, h => cases h
    | 7, h => cases h
    | 8, h => cases h
    | 9, h => cases h
    | n + 10, h =>
      have e : (rho13 k m due cells)[n + 10]? = (List.replicate 9 (none : Option Sl))[n]? := rfl
      rw [e, List.getElem?_replicate] at h
      split at h <;> cases h
end K60

set_option maxRecDepth 100000
set_option maxHeartbeats 4000000
namespace K60
open L2 PyProof.Rows PySem.Spec PySem Bb
mutual
theorem tr_mono {G G' : Hp} (s : Sub G G') : ∀ {v : V} {t : Bb.Tree}, Tr G v t → Tr G' v t
  | _, _, .leaf h => .leaf h
  | _, _, .lst h r => .lst (s _ _ h) (trAll_mono s r)
  | _, _, .tup h r => .tup (s _ _ h) (trAll_mono s r)
theorem trAll_mono {G G' : Hp} (s : Sub G G') : ∀ {v : List V} {t : List Bb.Tree}, TrAll G v t → TrAll G' v t
  | _, _, .nil => .nil
  | _, _, .cons h r => .cons (tr_mono s h) (trAll_mono s r)
end
/-- the heap behind new lists grown -/
structure Aft (G H10 H : Hp) (n : Nat) : Prop where
  g : Grown G H n
  k : ∀ a o, H10 a = some o → (∀ xs, G a ≠ some (.lst xs)) → H a = some o
  d : ∀ a o, H10 a = some o → ∃ u, H a = some u
theorem aft0 {G H : Hp} (s : Sub G H) : Aft G H H 0 := ⟨⟨fun a xs e => ⟨0, Nat.le_refl _, by simpa using s a _ e⟩, fun a xs e => s a _ e⟩, fun _ _ h _ => h, fun _ o h => ⟨o, h⟩⟩
theorem Aft.up {G H10 H : Hp} {n : Nat} (A : Aft G H10 H n) {r : Addr} {zs : List V} {k : Nat} (hr : G r = some (.lst zs)) (hk : k ≤ n) : Aft G H10 (upd H r (.lst (zs ++ List.replicate k late ++ [late]))) (n + 1) := by
  refine ⟨⟨fun a xs e => ?_, fun a xs e => ?_⟩, fun a o e q => ?_, fun a o e => old_upd (A.d a o e)⟩
  · by_cases ha : a = r
    · subst ha
      rw [hr] at e
      cases e
      refine ⟨k + 1, by omega, ?_⟩
      rw [upd_same, List.append_assoc]
      congr 3
      rw [List.replicate_succ']
    · rw [upd_ne ha]
      obtain ⟨j, h1, h2⟩ := A.g.lst a xs e
      exact ⟨j, by omega, h2⟩
  · have ha : a ≠ r := fun z => by rw [z, hr] at e; cases e
    rw [upd_ne ha]
    exact A.g.tup a xs e
  · have ha : a ≠ r := fun z => q zs (by rw [z]; exact hr)
    rw [upd_ne ha]
    exact A.k a o e q
def s11 : Sx := .for (.nm 12) (.val (.idx (.var 10) (.int 0))) (.cons (.app (.idx (.var 12) (.int 0)) (.str ⟨#[108, 97, 116, 101]⟩)) .nil)
def s12 : Sx := .drop (.call f_law_spoilt (.cons (.lst (.cons (.idx (.var 10) (.int 1)) (.cons (.idx (.var 11) (.int 0)) (.cons (.idx (.var 11) (.int 1)) .nil)))) .nil))
theorem tail_is : dropS 10 forB = .cons s11 (.cons s12 s13) := rfl
/-- a block: a tuple whose first is a new list -/
theorem block_at {Z : Zn} {Hf : Hp} : ∀ {ys : List V} {bs : List PV} {ts : List Bb.Tree}, DenAll Z Hf ys bs → newPs bs = some ts → (∀ p ∈ bs, blockOk p = true) → ∀ (i : Nat) (y : V), ys[i]? = some y → ∃ (r' r : Addr) (w zs : List V) (t : List Bb.Tree), y = .ref r' ∧ Hf r' = some (.tup (V.ref r :: w)) ∧ newG Z Hf r = some (.lst zs) ∧ Tr (newG Z Hf) (.ref r) (.node true t) ∧ dep (.node true t) ≤ depL ts
  | _, _, _, .nil, _, _, i, y, h => by simp at h
  | _, _, _, .cons (v := v) (p := p) d ds, e, hb, i, y, h => by
    simp only [newPs] at e
    obtain ⟨t0, e1, e2⟩ := Option.bind_eq_some_iff.mp e
    obtain ⟨ts, e3, e4⟩ := Option.map_eq_some_iff.mp e2
    subst e4
    cases i with
    | zero =>
      simp only [List.getElem?_cons_zero, Option.some.injEq] at h
      subst h
      have hp := hb p (by simp)
      unfold blockOk at hp
      split at hp
      · rename_i c zs rest
        obtain ⟨r', xs, rfl, h1, h2⟩ := d.tupI
        obtain _ | ⟨d1, d2⟩ := h2
        simp only [newP, newPs] at e1
        obtain ⟨tt, e5, e6⟩ := Option.map_eq_some_iff.mp e1
        obtain ⟨t1, e7, e8⟩ := Option.bind_eq_some_iff.mp e5
        obtain ⟨t2, e9, e10⟩ := Option.map_eq_some_iff.mp e8
        subst e10 e6
        have tr := d1.new e7
        cases d1 with
        | lst q1 q2 q3 =>
          cases tr with
          | leaf z => cases z
          | lst z1 z2 =>
            refine ⟨r', _, _, _, _, rfl, h1, z1, .lst z1 z2, ?_⟩
            simp only [depL, dep]
            omega
          | tup z1 z2 =>
            have := newG_sub _ _ z1
            rw [q1] at this
            cases this
      · cases hp
    | succ i =>
      simp only [List.getElem?_cons_succ] at h
      obtain ⟨r', r, w, zs, t, h1, h2, h3, h4, h5⟩ := block_at ds e3 (fun p hp => hb p (by simp [hp])) i y h
      exact ⟨r', r, w, zs, t, h1, h2, h3, h4, Nat.le_trans h5 (Nat.le_max_right _ _)⟩
theorem gd_ok {C : RC} {E : XK} {Z : Zn} {H Hf : Hp} {D : Ends} {r : Rs Fl} {ρ : Env'} {S : SS} (e : r = .ok (.nxt ρ) S) (k : ∀ σ H' Hf', Rel Z H Hf ρ S σ H' Hf' → D.nx σ H') : Gd C Z H Hf E r (KFl Z H Hf D) := by
  rw [e]
  exact k
theorem at0 {α : Type} (x : α) (xs : List α) : atI (x :: xs) 0 = some x := by
  unfold atI ixN
  rw [if_pos (by omega), if_pos (by rw [List.length_cons]; omega)]
  rfl
section
variable {C : RC} {E : XK}
theorem idx_rd {σ : L2.St} {H : Hp} {i : Nat} {a : Addr} {xs : List V} {j : Int} {v : V} (h : σ[i]? = some (some (.ref a))) (hx : H a = some (.lst xs)) (e : atI xs j = some v) : Val C E (.idx (.var i) (.int j)) σ H v := .ix (.var h) .int hx e
theorem spoil_rd {Z : Zn} {Hf H : Hp} {σ : L2.St} {D : Ends} {vt vf : V} {told far : PV} {tt tf : Bb.Tree} (hsp : C.sp f_law_spoilt = spS 12) (s : Sub Hf H) (hl : σ.length = 19) (h10 : σ[10]? = some (some vt)) (dt : Den Z Hf vt told) (h11 : σ[11]? = some (some vf)) (df : Den Z Hf vf far)
    (ht : toldOk told = true) (hf : farOk far = true) (nt : newP told = some tt) (nf : newP far = some tf) (sz1 : Bb.cnt tt ≤ 100000 ∧ dep tt ≤ 10) (sz2 : Bb.cnt tf ≤ 100000 ∧ dep tf ≤ 10)
    (k : ∀ σ' H', σ'.length = 19 → (∀ j, j ≠ 12 → σ'[j]? = σ[j]?) → Keep Z Hf H H' → (∀ a o, H a = some o → ∃ u, H' a = some u) → rdSs C E s13 D σ' H') : rdSs C E (.cons s11 (.cons s12 s13)) D σ H := by
  have hG : ∃ G, G = newG Z Hf := ⟨_, rfl⟩
  obtain ⟨G, hGe⟩ := hG
  have sG : Sub G H := fun a o h => s a o (newG_sub a o (by rw [← hGe]; exact h))
  have tr1 : Tr G vt tt := by rw [hGe]; exact dt.new nt
  have tr2 : Tr G vf tf := by rw [hGe]; exact df.new nf
  -- the shapes
  unfold toldOk at ht
  split at ht
  case h_2 => cases ht
  rename_i c c2 bs x1
  unfold farOk at hf
  split at hf
  case h_2 => cases hf
  rename_i c3 y1 y2
  obtain ⟨t, xs, rfl, ht1, hxs⟩ : ∃ t xs, vt = .ref t ∧ Hf t = some (.lst xs) ∧ DenAll Z Hf xs [.lst c2 bs, x1] := by
    cases dt with
    | lst q1 q2 q3 => exact ⟨_, _, rfl, q1, q3⟩
  obtain _ | ⟨d0, hxs⟩ := hxs
  obtain _ | ⟨d1, hxs⟩ := hxs
  cases hxs
  rename_i u0 u1
  obtain ⟨q, ys, rfl, hq1, hys⟩ : ∃ q ys, u0 = .ref q ∧ Hf q = some (.lst ys) ∧ DenAll Z Hf ys bs := by
    cases d0 with
    | lst q1 q2 q3 => exact ⟨_, _, rfl, q1, q3⟩
  obtain ⟨fa, xs, rfl, hf1, hxs⟩ : ∃ t xs, vf = .ref t ∧ Hf t = some (.lst xs) ∧ DenAll Z Hf xs [y1, y2] := by
    cases df with
    | lst q1 q2 q3 => exact ⟨_, _, rfl, q1, q3⟩
  obtain _ | ⟨g0, hxs⟩ := hxs
  obtain _ | ⟨g1, hxs⟩ := hxs
  cases hxs
  rename_i w0 w1
  -- the trees
  obtain ⟨tq, tx, rfl, hGt, trq, trx⟩ : ∃ tq tx, tt = .node true [tq, tx] ∧ G t = some (.lst [.ref q, u1]) ∧ Tr G (.ref q) tq ∧ Tr G u1 tx := by
    cases tr1 with
    | leaf z => cases z
    | lst z1 z2 =>
      have e := sG _ _ z1
      rw [s _ _ ht1] at e
      cases e
      obtain _ | ⟨r1, z2⟩ := z2
      obtain _ | ⟨r2, z2⟩ := z2
      cases z2
      exact ⟨_, _, rfl, z1, r1, r2⟩
    | tup z1 z2 =>
      have e := sG _ _ z1
      rw [s _ _ ht1] at e
      cases e
  obtain ⟨ta, tc, rfl, hGf, tra, trc⟩ : ∃ ta tc, tf = .node true [ta, tc] ∧ G fa = some (.lst [w0, w1]) ∧ Tr G w0 ta ∧ Tr G w1 tc := by
    cases tr2 with
    | leaf z => cases z
    | lst z1 z2 =>
      have e := sG _ _ z1
      rw [s _ _ hf1] at e
      cases e
      obtain _ | ⟨r1, z2⟩ := z2
      obtain _ | ⟨r2, z2⟩ := z2
      cases z2
      exact ⟨_, _, rfl, z1, r1, r2⟩
    | tup z1 z2 =>
      have e := sG _ _ z1
      rw [s _ _ hf1] at e
      cases e
  simp only [newP, newPs] at nt
  have nq : ∃ ts, newPs bs = some ts := by
    cases h : newPs bs with
    | some ts => exact ⟨ts, rfl⟩
    | none =>
      exfalso
      rw [h] at nt
      split at nt
      · obtain ⟨z, z1, z2⟩ := Option.map_eq_some_iff.mp nt
        obtain ⟨z3, z4, z5⟩ := Option.bind_eq_some_iff.mp z1
        split at z4
        · cases z4
        · cases z4
      · cases nt
  obtain ⟨ts, nq⟩ := nq
  obtain ⟨hGq, tqe⟩ : G q = some (.lst ys) ∧ tq = .node true ts := by
    have tall : TrAll (newG Z Hf) ys ts := hys.new nq
    cases trq with
    | leaf z => cases z
    | lst z1 z2 =>
      have e := sG _ _ z1
      rw [s _ _ hq1] at e
      cases e
      rw [hGe] at z2
      exact ⟨z1, by rw [TrAll.one z2 tall]⟩
    | tup z1 z2 =>
      have e := sG _ _ z1
      rw [s _ _ hq1] at e
      cases e
  subst tqe
  have hlen : ys.length ≤ 100000 := by
    rw [hGe] at hGq
    exact newG_len hGq
  have hL : ∀ a xs, G a = some (.lst xs) → xs.length ≤ 100000 := fun a xs h => by
    rw [hGe] at h
    exact newG_len h
  have hbs : ∀ p ∈ bs, blockOk p = true := fun p hp => List.all_eq_true.mp ht p hp
  -- the loop
  show rdS C E s11 _ σ H
  unfold s11
  simp only [rdS, rdI]
  refine .inl ((idx_rd (j := 0) h10 (s _ _ ht1) rfl) _ ⟨q, rfl, ⟨ys, sl_of (s _ _ hq1)⟩, ?_⟩)
  refine for_it (walk_list (xs := ys)) (fun i σ' H' => σ'.length = 19 ∧ (∀ j, j ≠ 12 → σ'[j]? = σ[j]?) ∧ Aft G H H' i ∧ H' q = some (.lst ys)) ⟨hl, fun _ _ => rfl, aft0 sG, s _ _ hq1⟩ ?_ ?_ ?_
  · rintro i σ' H' hi ⟨_, _, _, e⟩
    exact sl_of e
  · rintro i y σ' H' H'' hi ⟨l1, l2, A, e⟩ ⟨rfl, hy⟩
    obtain ⟨r', r, w, zs, t1, rfl, b1, b2, b3, b4⟩ := block_at hys nq hbs i y hy
    rw [← hGe] at b2 b3
    obtain ⟨kk, k1, k2⟩ := A.g.lst r zs b2
    have hr' : H'' r' = some (.tup (.ref r :: w)) := A.k r' _ (s _ _ b1) fun xs z => by
      have := sG _ _ z
      rw [s _ _ b1] at this
      cases this
    have hrq : r ≠ q := fun z => by
      subst z
      have e1 := Tr.one b3 trq
      injection e1 with _ e1
      subst e1
      simp only [dep] at b4
      omega
    have hzl := hL r zs b2
    show rdS C E _ _ _ _
    simp only [rdS, rdE, rdEs]
    have hs12 : (σ'.set 12 (some (V.ref r')))[12]? = some (some (.ref r')) := by rw [List.getElem?_set, if_pos rfl, if_pos (by omega)]
    refine .inl ⟨_, hs12, .inr (.inl ⟨r', _, 0, .ref r, rfl, rfl, sq_of hr', at0 _ _, .inl ⟨rfl, _, sl_of k2⟩, ?_⟩)⟩
    refine ⟨r, _, late, rfl, rfl, k2, big_lt ?_, ?_⟩
    · unfold big
      rw [List.length_append, List.length_replicate]
      omega
    · refine ⟨by rw [List.length_set]; exact l1, fun j hj => by rw [List.getElem?_set_ne (fun z => hj z.symm)]; exact l2 j hj, A.up b2 k1, ?_⟩
      rw [upd_ne (fun z => hrq z.symm)]
      exact e
  · rintro σ' H' ⟨l1, l2, A, e⟩
    show rdS C E s12 _ σ' H'
    unfold s12
    simp only [rdS, rdE, rdEs]
    obtain ⟨ka, ka1, ka2⟩ := A.g.lst t _ hGt
    obtain ⟨kb, kb1, kb2⟩ := A.g.lst fa _ hGf
    have m10 : σ'[10]? = some (some (.ref t)) := by rw [l2 10 (by omega)]; exact h10
    have m11 : σ'[11]? = some (some (.ref fa)) := by rw [l2 11 (by omega)]; exact h11
    have V1 : Val C E (.idx (.var 10) (.int 1)) σ' H' u1 := idx_rd (j := 1) m10 ka2 (by
      unfold atI ixN
      rw [if_pos (by omega), if_pos (by simp only [List.length_append, List.length_cons, List.length_nil]; omega)]
      rfl)
    have V2 : Val C E (.idx (.var 11) (.int 0)) σ' H' w0 := idx_rd (j := 0) m11 kb2 (by
      unfold atI ixN
      rw [if_pos (by omega), if_pos (by simp only [List.length_append, List.length_cons, List.length_nil]; omega)]
      rfl)
    have V3 : Val C E (.idx (.var 11) (.int 1)) σ' H' w1 := idx_rd (j := 1) m11 kb2 (by
      unfold atI ixN
      rw [if_pos (by omega), if_pos (by simp only [List.length_append, List.length_cons, List.length_nil]; omega)]
      rfl)
    unfold Val at V1 V2 V3
    simp only [rdE] at V1 V2 V3
    refine V1 _ (V2 _ (V3 _ ⟨by simp only [List.length_cons, List.length_nil]; decide, fun p' hp' => ?_⟩))
    show C.sp f_law_spoilt [.ref p'] _ _ E
    rw [hsp]
    have hGp : G p' = none := none_of fun o z => by
      obtain ⟨u, hu⟩ := A.d _ _ (sG _ _ z)
      rw [hp'] at hu
      cases hu
    have sGG : Sub G (upd G p' (.lst [u1, w0, w1])) := sub_upd hGp
    have hcnt : Bb.cnt (.node true [Bb.Tree.node true ts, tx]) = Bb.cnt tx + cntL ts + 2 := by simp only [Bb.cnt, cntL]; omega
    simp only [Bb.cnt, cntL, dep, depL] at sz1 sz2
    refine ⟨upd G p' (.lst [u1, w0, w1]), .ref p', .node true [tx, ta, tc], ys.length, 100000, rfl, .lst upd_same (.cons (tr_mono sGG trx) (.cons (tr_mono sGG tra) (.cons (tr_mono sGG trc) .nil))), ?_, ⟨fun a xs e1 => ?_, fun a xs e1 => ?_⟩, fun a xs e1 => ?_, ?_, fun a o e1 => ?_, fun H3 z1 z2 z3 => ?_⟩
    · simp only [dep, depL]
      omega
    · by_cases ha : a = p'
      · subst ha
        rw [upd_same] at e1 ⊢
        cases e1
        exact ⟨0, Nat.zero_le _, by simp⟩
      · rw [upd_ne ha] at e1 ⊢
        exact A.g.lst a xs e1
    · have ha : a ≠ p' := fun z => by rw [z, upd_same] at e1; cases e1
      rw [upd_ne ha] at e1 ⊢
      exact A.g.tup a xs e1
    · by_cases ha : a = p'
      · subst ha
        rw [upd_same] at e1
        cases e1
        simp
      · rw [upd_ne ha] at e1
        exact hL a xs e1
    · simp only [Bb.cnt, cntL]
      omega
    · by_cases ha : a = p'
      · subst ha
        exact ⟨_, upd_same⟩
      · rw [upd_ne ha] at e1
        exact old_upd (A.d _ _ (sG _ _ e1))
    · refine k σ' H3 l1 l2 (fun a o e1 nn => ?_) fun a o e1 => z3 _ _ (old_upd (A.d a o e1)).choose_spec
      have ha : a ≠ p' := fun z => by
        obtain ⟨u, hu⟩ := A.d a o e1
        rw [z, hp'] at hu
        cases hu
      have nl : ∀ xs, G a ≠ some (.lst xs) := fun xs z => nn ⟨xs, by rw [← hGe]; exact z⟩
      refine z2 a o (by rw [upd_ne ha]; exact A.k a o e1 nl) ?_
      rintro ⟨u, tr, _⟩
      cases tr with
      | lst q1 _ =>
        rw [upd_ne ha] at q1
        exact nl _ q1
/-- a turn -/
theorem turn_rd {p b : Addr} {σ : L2.St} {H : Hp} {S : SS} {D : Ends} {n : Int} (hF : ∀ Z, FSound C Z FF) (hsp : C.sp f_law_spoilt = spS 12) (TA : ∀ k m, Drawn k m → ∀ S, turnB k m S = (true, S)) (hl : σ.length = 19) (h1 : σ[1]? = some (some (.ref p))) (st : StAt ⟨some (p, b), fun _ => False⟩ H (fun _ => none) S) (ok : SOk S n) (hn : n < 900)
    (k : ∀ σ' H' S', σ'.length = 19 → σ'[1]? = some (some (.ref p)) → StAt ⟨some (p, b), fun _ => False⟩ H' (fun _ => none) S' → SOk S' (n + 2) → D.nx σ' H') : rdSs C E forB D σ H := by
  obtain ⟨kd, m, S1, dr, ok1, e0⟩ := kind_ok S n ok hn
  obtain ⟨ρ4, ρ6, ρ10, Sa, Sb, Sc, eA, eT, eC, g6, g10⟩ := turn_split (TA kd m dr S1)
  have R1 := rel1 hl h1 st
  rw [rd_split 1]
  show rdS C E s0 { D with nx := rdSs C E (dropS 1 forB) D } σ H
  refine soundS (hF ⟨some (p, b), fun _ => False⟩) 100 s0 R1 (gd_ok (e0) fun σ1 H1 Hf1 R2 => ?_)
  rw [rd_split 3]
  show rdSs C E sA { D with nx := rdSs C E (dropS 4 forB) D } σ1 H1
  refine soundSs (hF ⟨some (p, b), fun _ => False⟩) 100 sA R2 (gd_ok (eA) fun σ4 H4 Hf4 R4 => ?_)
  have R4' := R4.recolor
  rw [rd_split 2]
  show rdSs C E sTold { D with nx := rdSs C E (dropS 6 forB) D } σ4 H4
  refine soundSs (hF (oldZ ⟨some (p, b), fun _ => False⟩ Hf4)) 100 sTold R4' (gd_ok (eT) fun σ6 H6 Hf6 R6 => ?_)
  rw [rd_split 1]
  show rdS C E s7 { D with nx := rdSs C E (dropS 7 forB) D } σ6 H6
  refine soundS (hF (oldZ ⟨some (p, b), fun _ => False⟩ Hf4)) 100 s7 R6 (gd_ok (s7_step g6) fun σ7 H7 Hf7 R7 => ?_)
  rw [rd_split 3]
  show rdSs C E sC { D with nx := rdSs C E (dropS 10 forB) D } σ7 H7
  refine soundSs (hF (oldZ ⟨some (p, b), fun _ => False⟩ Hf4)) 100 sC R7 (gd_ok (eC) fun σ10 H10 Hf10 R10 => ?_)
  unfold good10 at g10
  split at g10
  case h_2 => cases g10
  rename_i told due far cells kk mm l10 l8 l11 l9 l3 l4
  split at g10
  case h_2 => cases g10
  rename_i pb Sd eb
  split at g10
  case h_2 => cases g10
  rename_i pc Se ec
  injection g10 with g10 gS
  simp only [Bool.and_eq_true] at g10
  obtain ⟨⟨⟨⟨⟨⟨⟨⟨⟨⟨⟨o1, o2⟩, o3⟩, o4⟩, o5⟩, o6⟩, o7⟩, o8⟩, o9⟩, o10⟩, o11⟩, o12⟩ := g10
  obtain ⟨v10, m10, d10⟩ := R10.lookS l10
  obtain ⟨v8, m8, d8⟩ := R10.lookS l8
  obtain ⟨v11, m11, d11⟩ := R10.lookS l11
  obtain ⟨v9, m9, d9⟩ := R10.lookS l9
  obtain ⟨v3, m3, d3⟩ := R10.lookS l3
  obtain ⟨v4, m4, d4⟩ := R10.lookS l4
  have l1 : lookS ρ10 1 = some .strm := by
    unfold isStrm at o1
    split at o1
    · assumption
    · cases o1
  obtain ⟨v1, m1, d1⟩ := R10.lookS l1
  have tr : ∀ {p : PV}, small (newP p) = true → ∃ t, newP p = some t ∧ Bb.cnt t ≤ 100000 ∧ dep t ≤ 10 := fun {p} h => by
    cases e : newP p with
    | none => rw [e] at h; cases h
    | some t =>
      rw [e] at h
      simp only [small, Bool.and_eq_true] at h
      exact ⟨t, rfl, Nat.le_of_ble_eq_true h.1, Nat.le_of_ble_eq_true h.2⟩
  obtain ⟨tt, nt, s1⟩ := tr o6
  obtain ⟨tf, nf, s2⟩ := tr o7
  have len10 : σ10.length = 19 := by
    rw [R10.len]
    exact Nat.eq_of_beq_eq_true o12
  rw [tail_is]
  refine spoil_rd hsp R10.sub len10 m10 d10 m11 d11 o4 o5 nt nf s1 s2 fun σ' H' q1 q2 kp kd' => ?_
  have st' := kp.st kd' R10.st
  have R13 := rel13 (k := kk) (m := mm) (due := due) (cells := cells) q1 (kp.sub R10.sub) st' (by rw [q2 1 (by omega)]; exact m1) (d1.old' rfl) (by rw [q2 3 (by omega)]; exact m3) (d3.old' o10) (by rw [q2 4 (by omega)]; exact m4) (d4.old' o11) (by rw [q2 8 (by omega)]; exact m8) (d8.old' o2) (by rw [q2 9 (by omega)]; exact m9) (d9.old' o3)
  refine soundSs (hF (oldZ ⟨some (p, b), fun _ => False⟩ Hf4)) 100 s13 R13 (gd_ok (s13_step eb ec o8 o9) fun σ2 H2 Hf2 R2' => ?_)
  obtain ⟨w1, u1, u2⟩ := R2'.sl 1 ⟨false, .strm⟩ rfl
  rw [if_neg (by simp)] at u2
  have hw : w1 = .ref p := by
    cases u2 with
    | strm hz =>
      cases hz
      rfl
  subst hw
  refine k σ2 H2 Se (by rw [R2'.len]; rfl) u1 ⟨fun a q => q.elim, fun z hz => ?_⟩ (by rw [gS]; exact ok1)
  obtain ⟨z1, z2, z3, z4, z5⟩ := R2'.st.str z hz
  exact ⟨z1, z2, rfl, rfl, z5⟩
end
end K60

set_option maxRecDepth 100000
set_option maxHeartbeats 0
/-! Each turn that may be drawn, by the kernel. -/
namespace K60
open L2 PyProof.Rows PySem.Spec PySem Bb
theorem turn_A1 (S : SS) : turnB kA 1 S = (true, S) := by kernel_rfl
theorem turn_A2 (S : SS) : turnB kA 2 S = (true, S) := by kernel_rfl
theorem turn_A3 (S : SS) : turnB kA 3 S = (true, S) := by kernel_rfl
theorem turn_A4 (S : SS) : turnB kA 4 S = (true, S) := by kernel_rfl
theorem turn_L1 (S : SS) : turnB kL 1 S = (true, S) := by kernel_rfl
theorem turn_L2 (S : SS) : turnB kL 2 S = (true, S) := by kernel_rfl
theorem turn_L3 (S : SS) : turnB kL 3 S = (true, S) := by kernel_rfl
theorem turn_L4 (S : SS) : turnB kL 4 S = (true, S) := by kernel_rfl
theorem turn_L5 (S : SS) : turnB kL 5 S = (true, S) := by kernel_rfl
theorem turn_L6 (S : SS) : turnB kL 6 S = (true, S) := by kernel_rfl
theorem turn_L7 (S : SS) : turnB kL 7 S = (true, S) := by kernel_rfl
theorem turn_L8 (S : SS) : turnB kL 8 S = (true, S) := by kernel_rfl
theorem turn_L9 (S : SS) : turnB kL 9 S = (true, S) := by kernel_rfl
theorem turn_L10 (S : SS) : turnB kL 10 S = (true, S) := by kernel_rfl
theorem turn_L11 (S : SS) : turnB kL 11 S = (true, S) := by kernel_rfl
theorem turn_L12 (S : SS) : turnB kL 12 S = (true, S) := by kernel_rfl
theorem turn_L13 (S : SS) : turnB kL 13 S = (true, S) := by kernel_rfl
theorem turn_L14 (S : SS) : turnB kL 14 S = (true, S) := by kernel_rfl
theorem turn_L15 (S : SS) : turnB kL 15 S = (true, S) := by kernel_rfl
theorem turn_L16 (S : SS) : turnB kL 16 S = (true, S) := by kernel_rfl
theorem turn_G1 (S : SS) : turnB kG 1 S = (true, S) := by kernel_rfl
theorem turn_G2 (S : SS) : turnB kG 2 S = (true, S) := by kernel_rfl
theorem turn_G3 (S : SS) : turnB kG 3 S = (true, S) := by kernel_rfl
theorem turn_G4 (S : SS) : turnB kG 4 S = (true, S) := by kernel_rfl
theorem turn_G5 (S : SS) : turnB kG 5 S = (true, S) := by kernel_rfl
theorem turn_G6 (S : SS) : turnB kG 6 S = (true, S) := by kernel_rfl
theorem turn_G7 (S : SS) : turnB kG 7 S = (true, S) := by kernel_rfl
theorem turn_G8 (S : SS) : turnB kG 8 S = (true, S) := by kernel_rfl
theorem turn_G9 (S : SS) : turnB kG 9 S = (true, S) := by kernel_rfl
theorem turn_G10 (S : SS) : turnB kG 10 S = (true, S) := by kernel_rfl
theorem turn_G11 (S : SS) : turnB kG 11 S = (true, S) := by kernel_rfl
theorem turn_G12 (S : SS) : turnB kG 12 S = (true, S) := by kernel_rfl
theorem turn_G13 (S : SS) : turnB kG 13 S = (true, S) := by kernel_rfl
theorem turn_G14 (S : SS) : turnB kG 14 S = (true, S) := by kernel_rfl
theorem turn_G15 (S : SS) : turnB kG 15 S = (true, S) := by kernel_rfl
theorem turn_G16 (S : SS) : turnB kG 16 S = (true, S) := by kernel_rfl
theorem turn_S1 (S : SS) : turnB kS 1 S = (true, S) := by kernel_rfl
theorem turn_S2 (S : SS) : turnB kS 2 S = (true, S) := by kernel_rfl
theorem turn_S3 (S : SS) : turnB kS 3 S = (true, S) := by kernel_rfl
theorem turn_S4 (S : SS) : turnB kS 4 S = (true, S) := by kernel_rfl
theorem turn_S5 (S : SS) : turnB kS 5 S = (true, S) := by kernel_rfl
theorem turn_S6 (S : SS) : turnB kS 6 S = (true, S) := by kernel_rfl
theorem turn_S7 (S : SS) : turnB kS 7 S = (true, S) := by kernel_rfl
theorem turn_S8 (S : SS) : turnB kS 8 S = (true, S) := by kernel_rfl
theorem turn_S9 (S : SS) : turnB kS 9 S = (true, S) := by kernel_rfl
theorem turn_S10 (S : SS) : turnB kS 10 S = (true, S) := by kernel_rfl
theorem turn_S11 (S : SS) : turnB kS 11 S = (true, S) := by kernel_rfl
theorem turn_S12 (S : SS) : turnB kS 12 S = (true, S) := by kernel_rfl
theorem turn_S13 (S : SS) : turnB kS 13 S = (true, S) := by kernel_rfl
theorem turn_S14 (S : SS) : turnB kS 14 S = (true, S) := by kernel_rfl
theorem turn_S15 (S : SS) : turnB kS 15 S = (true, S) := by kernel_rfl
theorem turn_S16 (S : SS) : turnB kS 16 S = (true, S) := by kernel_rfl
theorem turn_all (k : Str) (m : Int) (h : Drawn k m) (S : SS) : turnB k m S = (true, S) := by
  rcases h with ⟨hk, h1, h2⟩ | ⟨rfl, h1, h2⟩
  · rcases hk with rfl | rfl | rfl
    · have hm : m = 1 ∨ m = 2 ∨ m = 3 ∨ m = 4 ∨ m = 5 ∨ m = 6 ∨ m = 7 ∨ m = 8 ∨ m = 9 ∨ m = 10 ∨ m = 11 ∨ m = 12 ∨ m = 13 ∨ m = 14 ∨ m = 15 ∨ m = 16 := by omega
      rcases hm with rfl | rfl | rfl | rfl | rfl | rfl | rfl | rfl | rfl | rfl | rfl | rfl | rfl | rfl | rfl | rfl
      · exact turn_L1 S
      · exact turn_L2 S
      · exact turn_L3 S
      · exact turn_L4 S
      · exact turn_L5 S
      · exact turn_L6 S
      · exact turn_L7 S
      · exact turn_L8 S
      · exact turn_L9 S
      · exact turn_L10 S
      · exact turn_L11 S
      · exact turn_L12 S
      · exact turn_L13 S
      · exact turn_L14 S
      · exact turn_L15 S
      · exact turn_L16 S
    · have hm : m = 1 ∨ m = 2 ∨ m = 3 ∨ m = 4 ∨ m = 5 ∨ m = 6 ∨ m = 7 ∨ m = 8 ∨ m = 9 ∨ m = 10 ∨ m = 11 ∨ m = 12 ∨ m = 13 ∨ m = 14 ∨ m = 15 ∨ m = 16 := by omega
      rcases hm with rfl | rfl | rfl | rfl | rfl | rfl | rfl | rfl | rfl | rfl | rfl | rfl | rfl | rfl | rfl | rfl
      · exact turn_G1 S
      · exact turn_G2 S
      · exact turn_G3 S
      · exact turn_G4 S
      · exact turn_G5 S
      · exact turn_G6 S
      · exact turn_G7 S
      · exact turn_G8 S
      · exact turn_G9 S
      · exact turn_G10 S
      · exact turn_G11 S
      · exact turn_G12 S
      · exact turn_G13 S
      · exact turn_G14 S
      · exact turn_G15 S
      · exact turn_G16 S
    · have hm : m = 1 ∨ m = 2 ∨ m = 3 ∨ m = 4 ∨ m = 5 ∨ m = 6 ∨ m = 7 ∨ m = 8 ∨ m = 9 ∨ m = 10 ∨ m = 11 ∨ m = 12 ∨ m = 13 ∨ m = 14 ∨ m = 15 ∨ m = 16 := by omega
      rcases hm with rfl | rfl | rfl | rfl | rfl | rfl | rfl | rfl | rfl | rfl | rfl | rfl | rfl | rfl | rfl | rfl
      · exact turn_S1 S
      · exact turn_S2 S
      · exact turn_S3 S
      · exact turn_S4 S
      · exact turn_S5 S
      · exact turn_S6 S
      · exact turn_S7 S
      · exact turn_S8 S
      · exact turn_S9 S
      · exact turn_S10 S
      · exact turn_S11 S
      · exact turn_S12 S
      · exact turn_S13 S
      · exact turn_S14 S
      · exact turn_S15 S
      · exact turn_S16 S
  · have hm : m = 1 ∨ m = 2 ∨ m = 3 ∨ m = 4 := by omega
    rcases hm with rfl | rfl | rfl | rfl
    · exact turn_A1 S
    · exact turn_A2 S
    · exact turn_A3 S
    · exact turn_A4 S
end K60

set_option maxRecDepth 100000
set_option maxHeartbeats 0
namespace K60
open L2 PyProof.Rows PySem.Spec PySem Bb
/-! ### how arguments bind -/
def Bnd (d : Dfn) : Prop := ∀ (kV doc pm : Value) (an : Option Addr) (cdv ct : Value) (us : List Value), us.length = d.ps.length → bindArgs (PySem.W.fnOf d.x d.x (defArgs d.st) (defBody d.st) (defScope d.st) .none kV doc pm an cdv ct) ⟨us, []⟩ = pure (d.ps.zip us)
def Kwd (d : Dfn) : Prop := ∀ (kV doc pm : Value) (an : Option Addr) (cdv ct : Value) (ws : List Value), ws.length = d.ps.length → bindArgs (PySem.W.fnOf d.x d.x (defArgs d.st) (defBody d.st) (defScope d.st) .none kV doc pm an cdv ct) ⟨[], d.ps.reverse.zip ws⟩ = pure (d.ps.zip ws.reverse)
theorem bnd_is_whole : Bnd d_is_whole := fun kV doc pm an cdv ct us hl => match us, hl with
  | [a], _ => by kernel_rfl
theorem bnd_check_kind : Bnd d_check_kind := fun kV doc pm an cdv ct us hl => match us, hl with
  | [a, b], _ => by kernel_rfl
theorem bnd_power : Bnd d_power := fun kV doc pm an cdv ct us hl => match us, hl with
  | [a], _ => by kernel_rfl
theorem bnd_side_of : Bnd d_side_of := fun kV doc pm an cdv ct us hl => match us, hl with
  | [a, b], _ => by kernel_rfl
theorem bnd_do_meet : Bnd d_do_meet := fun kV doc pm an cdv ct us hl => match us, hl with
  | [a, b], _ => by kernel_rfl
theorem bnd_entry_of : Bnd d_entry_of := fun kV doc pm an cdv ct us hl => match us, hl with
  | [a, b, c, e], _ => by kernel_rfl
theorem bnd_table_of : Bnd d_table_of := fun kV doc pm an cdv ct us hl => match us, hl with
  | [a, b], _ => by kernel_rfl
theorem bnd_known_parts : Bnd d_known_parts := fun kV doc pm an cdv ct us hl => match us, hl with
  | [a, b], _ => by kernel_rfl
theorem bnd_known_blocks : Bnd d_known_blocks := fun kV doc pm an cdv ct us hl => match us, hl with
  | [a, b], _ => by kernel_rfl
theorem kwd_known_blocks : Kwd d_known_blocks := fun kV doc pm an cdv ct us hl => match us, hl with
  | [a, b], _ => by kernel_rfl
theorem bnd_known_cells : Bnd d_known_cells := fun kV doc pm an cdv ct us hl => match us, hl with
  | [a, b], _ => by kernel_rfl
theorem kwd_known_cells : Kwd d_known_cells := fun kV doc pm an cdv ct us hl => match us, hl with
  | [a, b], _ => by kernel_rfl
theorem bnd_law_pick : Bnd d_law_pick := fun kV doc pm an cdv ct us hl => match us, hl with
  | [a, b], _ => by kernel_rfl
theorem bnd_law_same : Bnd d_law_same := fun kV doc pm an cdv ct us hl => match us, hl with
  | [a, b], _ => by kernel_rfl
theorem bnd_law_high : Bnd d_law_high := fun kV doc pm an cdv ct us hl => match us, hl with
  | [a], _ => by kernel_rfl
theorem bnd_law_known : Bnd d_law_known := fun kV doc pm an cdv ct us hl => match us, hl with
  | [a, b], _ => by kernel_rfl
theorem bnd_law_are_apart : Bnd d_law_are_apart := fun kV doc pm an cdv ct us hl => match us, hl with
  | [a, b], _ => by kernel_rfl
theorem bnd_law_kind : Bnd d_law_kind := fun kV doc pm an cdv ct us hl => match us, hl with
  | [a, b, c], _ => by kernel_rfl
theorem bnd_law_blocks : Bnd d_law_blocks := fun kV doc pm an cdv ct us hl => match us, hl with
  | [a, b], _ => by kernel_rfl
theorem bnd_law_cells : Bnd d_law_cells := fun kV doc pm an cdv ct us hl => match us, hl with
  | [a, b, c], _ => by kernel_rfl
theorem bnd_law_draw : Bnd d_law_draw := fun kV doc pm an cdv ct us hl => match us, hl with
  | [a, b], _ => by kernel_rfl
theorem bnd_law_spoilt : Bnd d_law_spoilt := fun kV doc pm an cdv ct us hl => match us, hl with
  | [a], _ => by kernel_rfl
theorem bnd_law_stream : Bnd d_law_stream := fun kV doc pm an cdv ct us hl => match us, hl with
  | [a], _ => by kernel_rfl
theorem bnd_law : Bnd d_law := fun kV doc pm an cdv ct us hl => match us, hl with
  | [a], _ => by kernel_rfl
def AL : List Dfn := T ++ [d_law_draw, d_law_spoilt, d_law_stream, d_law]
theorem bnd_all : ∀ d ∈ AL, Bnd d := by
  intro d h
  simp only [AL, T, List.cons_append, List.nil_append, List.mem_cons, List.not_mem_nil, or_false] at h
  rcases h with rfl | rfl | rfl | rfl | rfl | rfl | rfl | rfl | rfl | rfl | rfl | rfl | rfl | rfl | rfl | rfl | rfl | rfl | rfl | rfl | rfl | rfl
  · exact bnd_is_whole
  · exact bnd_check_kind
  · exact bnd_power
  · exact bnd_side_of
  · exact bnd_do_meet
  · exact bnd_entry_of
  · exact bnd_table_of
  · exact bnd_known_parts
  · exact bnd_known_blocks
  · exact bnd_known_cells
  · exact bnd_law_pick
  · exact bnd_law_same
  · exact bnd_law_high
  · exact bnd_law_known
  · exact bnd_law_are_apart
  · exact bnd_law_kind
  · exact bnd_law_blocks
  · exact bnd_law_cells
  · exact bnd_law_draw
  · exact bnd_law_spoilt
  · exact bnd_law_stream
  · exact bnd_law
theorem kwd_all : ∀ d ∈ AL, d.kw = true → Kwd d := by
  intro d h hk
  simp only [AL, T, List.cons_append, List.nil_append, List.mem_cons, List.not_mem_nil, or_false] at h
  rcases h with rfl | rfl | rfl | rfl | rfl | rfl | rfl | rfl | rfl | rfl | rfl | rfl | rfl | rfl | rfl | rfl | rfl | rfl | rfl | rfl | rfl | rfl
  · cases hk
  · cases hk
  · cases hk
  · cases hk
  · cases hk
  · cases hk
  · cases hk
  · cases hk
  · exact kwd_known_blocks
  · exact kwd_known_cells
  · cases hk
  · cases hk
  · cases hk
  · cases hk
  · cases hk
  · cases hk
  · cases hk
  · cases hk
  · cases hk
  · cases hk
  · cases hk
  · cases hk
theorem ck_all : (AL.all fun d => ckD tb d && ckScope d (defScope d.st)) = true := by decide +kernel
theorem ck_draw : ckSs d_law_draw.N [] (defScope d_law_draw.st) drawB (defBody d_law_draw.st) = true := by decide +kernel
theorem ck_stream : ckSs d_law_stream.N [] (defScope d_law_stream.st) streamB (defBody d_law_stream.st) = true := by decide +kernel
/-! ### the module's facts -/
def toD (d : Dfn) : He.DefD := ⟨(d.x, none), d.x, d.x, defArgs d.st, defBody d.st, defScope d.st, [], []⟩
def fn : List He.DefD := AL.map toD
def fa : List He.Fa := AL.map (fun d => He.Fa.glo d.x) ++ bNames.map He.Fa.free
theorem fun_of {K : PySem.W.Frag} {x qual : Str} {st : Stmt} {a : Addr} {fd : FuncData} (F : FunD K x qual (defArgs st) (defBody st) (defScope st) [] [] a fd) : Fun K x qual st a fd := by
  obtain ⟨oc, od, dV, kV, doc, pm, an, cdv, ct, osl, e, lk, hcd, hd, _⟩ := F.ex
  rcases hd with ⟨_, rfl⟩ | ⟨h, _⟩
  · exact ⟨⟨oc, od, kV, doc, pm, an, cdv, ct, osl, e, lk, hcd⟩, F.kp⟩
  · exact absurd rfl h
theorem defF_of {K : PySem.W.Frag} {h : Heap} {mg : Str → Option Value} (X : K.In h) (G : h.Ns mainGlobals mg) (c : He.SaysD fa fn K) {d : Dfn} (hd : d ∈ AL) : DefF K mg d := by
  obtain ⟨i, hi⟩ := List.mem_iff_getElem?.mp hd
  have h1 : fn[i]? = some (toD d) := by
    unfold fn
    rw [List.getElem?_map, hi]
    rfl
  have h2 : fa[i]? = some (.glo d.x) := by
    unfold fa
    rw [List.getElem?_append_left (by rw [List.length_map]; exact (List.getElem?_eq_some_iff.mp hi).1), List.getElem?_map, hi]
    rfl
  obtain ⟨fd, F⟩ := He.SaysD.def_ c i h1
  have hm := He.glo_ok X G (He.SaysD.fact c i h2)
  have F' : Fun K d.x d.x d.st (He.ga K d.x) fd := fun_of F
  refine ⟨He.ga K d.x, fd, F', hm, Fun.binds F' (bnd_all d hd), fun hk => ?_⟩
  obtain ⟨oc, od, kV, doc, pm, an, cdv, ct, osl, rfl, lk, hcd⟩ := F'.ex
  exact fun s ws _ hl => BindsTo.of_eq (kwd_all d hd hk kV doc pm an cdv ct ws hl)
theorem free_of {K : PySem.W.Frag} {h : Heap} {mg : Str → Option Value} (X : K.In h) (G : h.Ns mainGlobals mg) (c : He.SaysD fa fn K) : ∀ x ∈ bNames, mg x = none := by
  intro x hx
  obtain ⟨i, hi⟩ := List.mem_iff_getElem?.mp hx
  have h2 : fa[AL.length + i]? = some (.free x) := by
    unfold fa
    rw [List.getElem?_append_right (by rw [List.length_map]; omega), List.length_map, Nat.add_sub_cancel_left, List.getElem?_map, hi]
    rfl
  exact He.free_ok X G (He.SaysD.fact c _ h2)
/-! ### the promises -/
theorem void_fn {P : Program} {w : World} {K : PySem.W.Frag} {mg : Str → Option Value} {base : Heap} {CX : CXT} {k : Nat} {a : Addr} {fd : FuncData} {ps : List Str} {sp : Sp} (h : ∀ vs H Q E, ¬ sp vs H Q E) : FnOk P w K mg base CX k a fd ps sp :=
  ⟨fun vs H Q E q => (h vs H Q E q).elim, fun A outer s H args us vs Q E _ _ _ _ q => (h vs H Q E q).elim⟩
def xx : TbX := ⟨fun _ => 0, fun _ => ""⟩
def spY (K : PySem.W.Frag) : Nat → Sp := fun f => if f = f_law_stream then spT K else spX f_law_spoilt K xx tb 12 f
def rcY (K : PySem.W.Frag) : RC := ⟨K, spY K, 13, xx.xa, xx.xf⟩
def spLaw (K : PySem.W.Frag) : Sp := fun vs H Q E => ∃ (a : Addr) (ns : List Int), vs = [.ref a] ∧ SqL K H a (ns.map V.int) ∧ ∀ H', Q (.bl true) H'
theorem noF {f : Nat} (h : f = f_law_spoilt ∨ f = f_law_stream) (n : Nat) (ps : List PV) (S : SS) : callN tb n f ps S = .no := by
  cases n with
  | zero => rfl
  | succ n => rcases h with rfl | rfl <;> rfl
theorem noSp {K : PySem.W.Frag} {f : Nat} (h : f = f_law_spoilt ∨ f = f_law_stream) (n : Nat) : ∀ vs H Q E, ¬ spN K xx tb n f vs H Q E := by
  rintro vs H Q E ⟨Z, Hf, ps, S, _, _, _, g⟩
  rw [noF h] at g
  exact g
theorem fsY (K : PySem.W.Frag) (Z : Zn) : FSound (rcY K) Z FF := by
  intro f vs ps S H Hf E Q s st d g
  show spY K f vs H Q E
  by_cases h : f = f_law_stream
  · subst h
    rw [show FF f_law_stream ps S = .no from noF (.inr rfl) 12 ps S] at g
    exact g.elim
  · by_cases h2 : f = f_law_spoilt
    · subst h2
      rw [show FF f_law_spoilt ps S = .no from noF (.inl rfl) 12 ps S] at g
      exact g.elim
    · unfold spY
      rw [if_neg h]
      unfold spX
      rw [if_neg h2]
      exact ⟨Z, Hf, ps, S, s, st, d, Gd.rc rfl rfl g⟩
section
variable {P' : Program} {w : World} {K : PySem.W.Frag} {mg : Str → Option Value} {base : Heap}
theorem ckOf {d : Dfn} (hd : d ∈ AL) : ckD tb d = true ∧ FnScope d.N d.ps (defScope d.st) := by
  have h := List.all_eq_true.mp ck_all d hd
  rw [Bool.and_eq_true] at h
  exact ⟨h.1, scope_of h.2⟩
theorem inT {d : Dfn} (h : d ∈ T) : d ∈ AL := List.mem_append_left _ h
theorem inP {d : Dfn} (h : d ∈ [d_law_draw, d_law_spoilt, d_law_stream, d_law]) : d ∈ AL := List.mem_append_right _ h
theorem gfn_all (hF : ∀ d ∈ AL, DefF K mg d) (hb : ∀ x ∈ bNames, mg x = none) (n : Nat) : GFn P' w K mg base tb.FN (n + 1) (spN K xx tb n) := by
  refine all_ok (t := tb) (j := 1) (fun d hd => ⟨hF d (inT hd), (ckOf (inT hd)).2, (ckOf (inT hd)).1⟩) hb (fun i d hd => ?_) n
  match i, hd with
  | 0, hd =>
    cases hd
    obtain ⟨a, fd, F, hm, hB, hk⟩ := (hF d_law_draw (inP (by simp))).ex
    exact ⟨a, fd, draw_fn (d := d_law_draw) rfl rfl rfl F (ckOf (inP (by simp))).2 ck_draw hb rfl (fun ps S => rfl), hm, F.kp, hB, hk⟩
  | 1, hd =>
    cases hd
    obtain ⟨a, fd, F, hm, hB, hk⟩ := (hF d_law_spoilt (inP (by simp))).ex
    exact ⟨a, fd, fun n => void_fn (noSp (.inl rfl) n), hm, F.kp, hB, hk⟩
  | 2, hd =>
    cases hd
    obtain ⟨a, fd, F, hm, hB, hk⟩ := (hF d_law_stream (inP (by simp))).ex
    exact ⟨a, fd, fun n => void_fn (noSp (.inr rfl) n), hm, F.kp, hB, hk⟩
  | i + 3, hd => cases hd
theorem stream_fn (hF : ∀ d ∈ AL, DefF K mg d) (hb : ∀ x ∈ bNames, mg x = none) {a : Addr} {fd : FuncData} (F : Fun K d_law_stream.x d_law_stream.x d_law_stream.st a fd) : FnOk P' w K mg base (L2.CX P' w) 13 a fd d_law_stream.ps (spT K) := by
  refine Fun.okX F (ckOf (inP (by simp))).2 (fun vs H Q E h => ?_) fun cdv A outer s H vs Q E hr h => ?_
  · obtain ⟨a, ns, rfl, _⟩ := h
    rfl
  · have ok : Bb.SOk ⟨K, fun _ _ _ _ _ => False, 12, xx.xa, xx.xf⟩ d_law_stream.N [] (defScope d_law_stream.st) E (cxOf (L2.CX P' w) P' w K mg base d_law_stream.N d_law_stream.x (defScope d_law_stream.st) a cdv A outer s H E) := sok_of (ckOf (inP (by simp))).2 rfl hr (fun f d h => by simp at h) hb
    refine ⟨_, ckSs_ok ok streamB _ ck_stream, ?_⟩
    obtain ⟨v, rfl, q⟩ := stream_rd (C := ⟨K, fun _ _ _ _ _ => False, 12, xx.xa, xx.xf⟩) (E := E) h
    exact q
theorem gfn_law (hF : ∀ d ∈ AL, DefF K mg d) (hb : ∀ x ∈ bNames, mg x = none) : GFn P' w K mg base tb.FN 13 (spY K) := by
  obtain ⟨a, fd, F, hm, hB, hk⟩ := (hF d_law_spoilt (inP (by simp))).ex
  have S1 := spo_fn (P := P') (w := w) (base := base) (K := K) (x := xx) (t := tb) (j := 1) (fs := f_law_spoilt) (d := d_law_spoilt) rfl rfl rfl F (ckOf (inP (by simp))).2 (ckOf (inP (by simp))).1 hb hm hB hk rfl (fun n => gfn_all hF hb n) 12
  have G1 : GFn P' w K mg base tb.FN 13 (spX f_law_spoilt K xx tb 12) := gfx_of (j := 1) S1 hm F.kp hB hk rfl (gfn_all hF hb 12)
  intro f e he
  by_cases h : f = f_law_stream
  · subst h
    have he' : some d_law_stream.fe = some e := he
    cases he'
    obtain ⟨a, fd, F, hm, hB, hk⟩ := (hF d_law_stream (inP (by simp))).ex
    refine ⟨a, fd, ?_, hm, F.kp, hB, hk⟩
    unfold spY
    rw [if_pos rfl]
    exact stream_fn hF hb F
  · unfold spY
    rw [if_neg h]
    exact G1 f e he
theorem law_fn (TA : ∀ k m, Drawn k m → ∀ S, turnB k m S = (true, S)) (hF : ∀ d ∈ AL, DefF K mg d) (hb : ∀ x ∈ bNames, mg x = none) {a : Addr} {fd : FuncData} (F : Fun K d_law.x d_law.x d_law.st a fd) : FnOk P' w K mg base (L2.CX P' w) 14 a fd ["script"] (spLaw K) := by
  have ck := ckOf (d := d_law) (inP (by simp))
  have hc := ck.1
  unfold ckD at hc
  rw [Bool.and_eq_true] at hc
  refine Fun.okX (N := d_law.N) F ck.2 (fun vs H Q E h => ?_) fun cdv A outer s H vs Q E hr h => ?_
  · obtain ⟨a, ns, rfl, _⟩ := h
    rfl
  · have ok : Bb.SOk (rcY K) d_law.N tb.FN (defScope d_law.st) E (cxOf (L2.CX P' w) P' w K mg base d_law.N d_law.x (defScope d_law.st) a cdv A outer s H E) := sok_of ck.2 rfl hr (gfn_law hF hb) hb
    refine ⟨_, ckSs_ok ok d_law.body _ hc.1, ?_⟩
    obtain ⟨a0, ns, rfl, hs, k⟩ := h
    show rdS (rcY K) E (.set 1 (.call f_law_stream (.cons (.var 0) .nil))) _ _ H
    simp only [rdS, rdE, rdEs]
    refine ⟨.ref a0, rfl, ?_⟩
    have esp : (rcY K).sp f_law_stream = spT K := by
      show spY K f_law_stream = _
      unfold spY
      rw [if_pos rfl]
    show (rcY K).sp f_law_stream [V.ref a0] H _ E
    rw [esp]
    refine ⟨a0, ns, rfl, hs, fun b hbn p hp => ?_⟩
    have st0 := stream_at hbn hp
    show rdS (rcY K) E (.for (.nm 2) (.rng (.cons (.int 6) .nil)) forB) _ _ _
    simp only [rdS, rdI]
    rw [if_pos (show exsLen (.cons (.int 6) .nil) = 1 from rfl)]
    simp only [rdEs, rdE]
    refine ⟨6, rfl, by omega, by omega, ?_⟩
    refine for_it (walk_range (lo := 0) (n := 6)) (fun i σ H => σ.length = 19 ∧ σ[1]? = some (some (.ref p)) ∧ ∃ S, StAt ⟨some (p, b), fun _ => False⟩ H (fun _ => none) S ∧ SOk S ((2 * i : Nat) : Int)) ⟨rfl, rfl, _, st0, ⟨by show (0 : Int) ≤ 0; omega, by show (0 : Int) ≤ _; omega, by show (0 : Int) ≤ 19; omega, by show (19 : Int) < _; omega⟩⟩ (fun _ _ _ _ _ => trivial) ?_ ?_
    · rintro i x σ H1 H2 hi ⟨l1, l2, S, st, ok'⟩ ⟨rfl, rfl⟩
      show rdSs (rcY K) E forB _ (σ.set 2 _) H2
      refine turn_rd (fsY K) (by show spY K f_law_spoilt = Bb.spS 12; rfl) TA (by rw [List.length_set]; exact l1) (by rw [List.getElem?_set_ne (by omega)]; exact l2) st ok' (by omega) fun σ' H' S' q1 q2 q3 q4 => ⟨q1, q2, S', q3, ?_⟩
      have e : ((2 * (i + 1) : Nat) : Int) = ((2 * i : Nat) : Int) + 2 := by omega
      rw [e]
      exact q4
    · rintro σ H1 _
      show rdSs (rcY K) E (.cons (.ret (.bl true)) .nil) { nx := fun _ H' => Q .non H', rt := Q } σ H1
      simp only [rdSs, tSeq, rdS, rdE]
      exact k H1
end
/-! ### the head -/
abbrev RR : PySem.W.OpenRow := PySem.W.OpenLaw.row PySem.Challenge.rw_bitsbetween_k60_whole_known_blocks_and_c
abbrev hk : PySem.W.Hook := He.hookD 4 fa fn
def ob (s : PySem.W.SharedT) : He.AlD := He.obsDG 4 fa fn (HandSHeadRun.getT s)
theorem ob_eq (s : PySem.W.SharedT) : ob s = hk.obs s.abs := He.obsDG_eq (HandSHeadRun.getT_eq s)
def loose : List Str := ["is_whole", "TalkError", "BadNumber", "BadKind", "check_kind", "power", "side_of", "do_meet", "entry_of", "table_of", "known_parts", "known_blocks", "known_cells", "_law_pick", "_law_same", "_law_high", "_law_known", "_law_are_apart", "_law_kind", "_law_blocks", "_law_cells", "_law_draw", "_law_spoilt", "_law_stream"]
theorem run (w : World) : HandSHeadRun.RunEq RR (PySem.W.view RR.prog [29]) hk ob 3000 loose w := by
  intro os
  kernel_rfl
end K60

set_option maxRecDepth 100000
set_option maxHeartbeats 0
namespace K60
open L2 PyProof.Rows PySem.Spec PySem Bb
theorem fn_quiet {P : Program} {w : World} {K : PySem.W.Frag} {mg : Str → Option Value} {base : Heap} {k : Nat} {f : Addr} {fd : FuncData} {ps : List Str} {sp : Sp} (F : FnOk P w K mg base (L2.CX P w) k f fd ps sp) (hE : ∀ vs H Q E, sp vs H Q E → sp vs H Q E0) : FnOk P w K mg base CX0 k f fd ps sp :=
  ⟨F.len, fun A outer s H args us vs Q E hr e0 hb hv h => codeAny_mono (F.run A outer s H args us vs Q E0 hr e0 hb hv (hE _ _ _ _ h)) fun r s' q => by
    cases r with
    | error e =>
      obtain ⟨_, _, _, _, _, _, _, _, _, _, _, _, z⟩ := q
      exact z.elim
    | ok fl => cases fl <;> exact q⟩
theorem facts {P' : Program} {w : World} {K : PySem.W.Frag} {h : Heap} {mg : Str → Option Value} {f : Addr} (X : K.In h) (G : h.Ns mainGlobals mg) (hfa : mg ("law" : Str) = some (.ref f)) (c : He.SaysD fa fn K) :
    ∃ fd : FuncData, (∀ (s : Shared) (v : Value), BindsTo s fd ⟨[v], []⟩ [("script", v)]) ∧ ∀ base : Heap, K.In base → base.Ns mainGlobals mg → FnOk P' w K mg base CX0 14 f fd ["script"] (spLaw K) := by
  obtain ⟨a, fd, F, hm, hB, hk⟩ := (defF_of X G c (d := d_law) (inP (by simp))).ex
  have e : (some (Value.ref f)) = some (.ref a) := hfa.symm.trans hm
  cases e
  refine ⟨fd, fun s v => ?_, fun base _ _ => fn_quiet (law_fn turn_all (fun d hd => defF_of X G c hd) (free_of X G c) F) fun vs H Q E h => h⟩
  obtain ⟨oc, od, kV, doc, pm, an, cdv, ct, osl, rfl, lk, hcd⟩ := F.ex
  exact BindsTo.of_eq (bnd_law kV doc pm an cdv ct [v] rfl)
end K60
open PyProof.Rows PySem.Calls PySem.W PySem
theorem PySem.Challenge.cw_bitsbetween_k60_whole_known_blocks_and_c_holds : PySem.Challenge.rw_bitsbetween_k60_whole_known_blocks_and_c.Holds := by
  w_on; o_law
  refine HandSHeadRun.head_any (r := OpenLaw.row PySem.Challenge.rw_bitsbetween_k60_whole_known_blocks_and_c) (q := view (OpenLaw.row PySem.Challenge.rw_bitsbetween_k60_whole_known_blocks_and_c).prog [29]) (H := K60.hk) (ob := K60.ob) (M := 3000) (loose := K60.loose) (d := HandSHeadRun.topDef (OpenLaw.row PySem.Challenge.rw_bitsbetween_k60_whole_known_blocks_and_c).prog 29) (kwd := []) K60.ob_eq
    (by kernel_rfl) (fun s => by kernel_rfl) K60.run (by kernel_rfl) (by kernel_rfl) (by kernel_rfl) (by rfl) (by first | assumption | decide +kernel) (by decide +kernel) ⟨rfl, rfl, rfl, rfl, rfl, by decide +kernel⟩ ?hw ?hc
  case hw => w_witness2
  case hc =>
    refine L2.walk_ofE (l := PySem.Challenge.rw_bitsbetween_k60_whole_known_blocks_and_c) (n := 63) (k := 14) (x := "script") (CX := L2.CX0) rfl (by decide) (by kernel_rfl) ⟨rfl, by decide, by decide⟩ ?F (fun _ _ _ _ z => z)
    intro w mg fa h Y G hmg0
    obtain ⟨K, KX, c⟩ := Y
    have hmg : mg ("law" : PySem.Str) = some (.ref fa) := by
      have e : (HandSHeadRun.topDef (OpenLaw.row PySem.Challenge.rw_bitsbetween_k60_whole_known_blocks_and_c).prog 29).name = ("law" : PySem.Str) := by kernel_rfl
      rw [← e]
      exact hmg0
    obtain ⟨fd, hb, hF⟩ := K60.facts (P' := (PySem.Challenge.rw_bitsbetween_k60_whole_known_blocks_and_c).prog) (w := w) KX G hmg c
    exact ⟨K, fd, K60.spLaw K, KX, hb, fun H a ns hl _ hS => ⟨a, ns, rfl, hS, fun _ => rfl⟩, hF⟩

