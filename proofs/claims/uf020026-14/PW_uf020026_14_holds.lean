import PyProof.Rows.All
import Wide.All
import OpenK.AllK
import Wide.FinOn
import PySem.Challenge.RW_uf020026_14
set_option Elab.async false
set_option autoImplicit false
set_option maxRecDepth 100000
set_option linter.all false
set_option genSizeOf false
set_option genInjectivity false
noncomputable section

namespace Mine
open PySem

inductive AV where
  | none
  | bool (b : Bool)
  | int (i : Int)
  | str (s : Str)
  | tup (xs : List AV)
  | lst (xs : List AV)
  | dic (ks vs : List AV)
  | rng (lo hi : Int)
  | exc (c : Str)
  | setn (n : Nat)
  | opq

inductive Md where
  | sh | fr | ow | bo
  deriving DecidableEq
inductive Sm where
  | sh | fr | mu

noncomputable def frzM : Sm → Sm
  | .mu => .fr
  | m => m
noncomputable abbrev Slot := Option (AV × Sm)
noncomputable abbrev Rho := List Slot

mutual
noncomputable def AV.lf : AV → Bool
  | .tup xs => AV.lfs xs
  | .lst _ => false
  | .dic _ _ => false
  | .opq => false
  | _ => true
noncomputable def AV.lfs : List AV → Bool
  | [] => true
  | x :: xs => x.lf && AV.lfs xs
end

inductive ME where
  | cst (v : AV)
  | var (i : Nat)
  | gv (n : Str)
  | bin (op : Operator) (a b : ME)
  | neg (a : ME)
  | cmp (op : CmpOp) (a b : ME)
  | not (a : ME)
  | bop (isAnd : Bool) (es : List ME)
  | tup (es : List ME)
  | lst (es : List ME)
  | sub (a i : ME)
  | slc (a lo hi : ME)
  | call (f : Str) (es : List ME)
  | bi (f : Str) (es : List ME)
  | lbi (f : Str) (es : List ME)
  | isi (a : ME) (t : Str)
  | comp (elt it : ME) (cond : Option ME)
  | mxd (a : ME)
  | mt (o : ME) (m : Nat) (a : ME)

inductive MS where
  | asg (i : Nat) (e : ME)
  | asm (i : Nat) (e : ME)
  | unp (is : List Nat) (e : ME)
  | frz (i : Nat)
  | app (i : Nat) (e : ME)
  | sto (i : Nat) (k e : ME)
  | ex (e : ME)
  | sat (e : ME)
  | ite (c : ME) (a b : List MS)
  | for (i : Nat) (it : ME) (b : List MS)
  | whl (c : ME) (b : List MS)
  | ret (e : ME)
  | retm (i : Nat)
  | rai (c : Str)
  | tri (b : List MS) (hs : List (Str × Option Nat × List MS))
  | brk
  | pas
  | stk

end Mine

namespace Mine
open PySem

structure CC where
  Γ : List (Option Str)
  names : List (Str × NameKind)
  mv : List Str
  fns : List Str
  dat : List Str
  cls : List Str
  bis : List Str

noncomputable def idx (Γ : List (Option Str)) (x : Str) : Option Nat := go Γ 0
where go : List (Option Str) → Nat → Option Nat
  | [], _ => none
  | some y :: r, i => if y == x then some i else go r (i + 1)
  | none :: r, i => go r (i + 1)

noncomputable def CC.isVar (cc : CC) (x : Str) : Bool := match cc.names.lookup x with
  | some .local => true
  | some .cell => true
  | some .free => true
  | _ => false
noncomputable def CC.isGlob (cc : CC) (x : Str) : Bool := match cc.names.lookup x with
  | some .globalImplicit => true
  | _ => false

noncomputable def hide (x : Str) (Γ : List (Option Str)) : List (Option Str) := Γ.map fun y => if y == some x then none else y

noncomputable def compScopeOk (cc : CC) (x : Str) (sc : Scope) : Bool :=
  sc.kind == .function && !sc.isGenerator && !sc.isCoroutine && sc.names.lookup x == some .local && (idx cc.Γ (Str.ofString ".0")).isNone &&
  (sc.names.all fun (y, k) => k != .local || sc.names.lookup y == some .local) &&
  sc.names.all fun (y, k) => match k with
    | .local => y == x || y == Str.ofString ".0"
    | .free => cc.names.lookup y == some .cell
    | .globalImplicit => true
    | _ => false

noncomputable def compConst : Const → Option AV
  | .none => some .none
  | .bool b => some (.bool b)
  | .int i => some (.int i)
  | .str s => if s.length ≤ 1000000 && s.cps.toList.all (· < 0x110000) then some (.str s) else none
  | _ => none

noncomputable def okOp : Operator → Bool
  | .Add | .Sub | .Mult | .Mod | .FloorDiv | .Pow => true
  | _ => false


noncomputable def mapMO {α β : Type} (f : α → Option β) : List α → Option (List β)
  | [] => some []
  | x :: xs => (f x).bind fun y => (mapMO f xs).map (y :: ·)

noncomputable def iterOk : Expr → Bool
  | .Name .. | .Subscript .. | .Call .. => true
  | _ => false

noncomputable def compO (f : Expr → Option ME) : Option Expr → Option ME
  | none => some (.cst .none)
  | some e => f e

noncomputable def onlyIf {α : Type} (c : Bool) (r : Option α) : Option α := cond c r none
theorem onlyIf_some {α : Type} {c : Bool} {r : Option α} {x : α} (h : onlyIf c r = some x) : c = true ∧ r = some x := by
  cases c
  · cases h
  · exact ⟨rfl, h⟩
noncomputable def ok2 {α β γ : Type} (a : Option α) (b : Option β) (f : α → β → γ) : Option γ := a.bind fun x => b.map fun y => f x y
inductive Ok2 {α β γ : Type} (a : Option α) (b : Option β) (f : α → β → γ) (r : γ) : Prop
  | mk (x : α) (y : β) (h1 : a = some x) (h2 : b = some y) (h3 : f x y = r) : Ok2 a b f r
theorem ok2_some {α β γ : Type} {a : Option α} {b : Option β} {f : α → β → γ} {r : γ} (h : ok2 a b f = some r) : Ok2 a b f r := by
  cases a with
  | none => cases h
  | some x => cases b with
    | none => cases h
    | some y => cases h; exact ⟨x, y, rfl, rfl, rfl⟩
inductive BindI {α β : Type} (o : Option α) (f : α → Option β) (r : β) : Prop
  | mk (x : α) (h1 : o = some x) (h2 : f x = some r) : BindI o f r
theorem bindI {α β : Type} {o : Option α} {f : α → Option β} {r : β} (h : o.bind f = some r) : BindI o f r := by
  cases o with
  | none => cases h
  | some x => exact ⟨x, rfl, h⟩
noncomputable def ok3 {α β γ δ : Type} (a : Option α) (b : Option β) (c : Option γ) (f : α → β → γ → δ) : Option δ := a.bind fun x => ok2 b c (f x)
inductive Ok3 {α β γ δ : Type} (a : Option α) (b : Option β) (c : Option γ) (f : α → β → γ → δ) (r : δ) : Prop
  | mk (x : α) (y : β) (z : γ) (h1 : a = some x) (h2 : b = some y) (h3 : c = some z) (h4 : f x y z = r) : Ok3 a b c f r
theorem ok3_some {α β γ δ : Type} {a : Option α} {b : Option β} {c : Option γ} {f : α → β → γ → δ} {r : δ} (h : ok3 a b c f = some r) : Ok3 a b c f r := by
  cases a with
  | none => cases h
  | some x => obtain ⟨y, z, h1, h2, h3⟩ := ok2_some h; exact ⟨x, y, z, rfl, h1, h2, h3⟩
noncomputable def ok4 {α β γ δ ε : Type} (a : Option α) (b : Option β) (c : Option γ) (d : Option δ) (f : α → β → γ → δ → ε) : Option ε := a.bind fun x => ok3 b c d (f x)
inductive Ok4 {α β γ δ ε : Type} (a : Option α) (b : Option β) (c : Option γ) (d : Option δ) (f : α → β → γ → δ → ε) (r : ε) : Prop
  | mk (x : α) (y : β) (z : γ) (w : δ) (h1 : a = some x) (h2 : b = some y) (h3 : c = some z) (h4 : d = some w) (h5 : f x y z w = r) : Ok4 a b c d f r
theorem ok4_some {α β γ δ ε : Type} {a : Option α} {b : Option β} {c : Option γ} {d : Option δ} {f : α → β → γ → δ → ε} {r : ε} (h : ok4 a b c d f = some r) : Ok4 a b c d f r := by
  cases a with
  | none => cases h
  | some x => obtain ⟨y, z, w, h1, h2, h3, h4⟩ := ok3_some h; exact ⟨x, y, z, w, rfl, h1, h2, h3, h4⟩

noncomputable def isSet : Expr → Bool
  | .Set .. => true
  | _ => false
noncomputable def isStar : Expr → Bool
  | .Starred .. => true
  | _ => false
noncomputable def isSlice : Expr → Bool
  | .Slice .. => true
  | _ => false
noncomputable def asSlice : Expr → Option (Option Expr × Option Expr × Option Expr)
  | .Slice a b c _ => some (a, b, c)
  | _ => none
inductive EV (e : Expr) : Type
  | name (x : Str) (p : Pos) (h : e = .Name x p)
  | call (g : Expr) (a : List Expr) (k : List Keyword) (p : Pos) (h : e = .Call g a k p)
  | attr (o : Expr) (m : Str) (p : Pos) (h : e = .Attribute o m p)
  | tup (es : List Expr) (k : Nat) (p : Pos) (h : e = .Tuple es k p)
  | subs (a b : Expr) (p : Pos) (h : e = .Subscript a b p)
  | cst (c : Const) (k : Nat) (p : Pos) (h : e = .Constant c k p)
  | other
noncomputable def eview (e : Expr) : EV e := match e with
  | .Name x p => .name x p rfl
  | .Call g a k p => .call g a k p rfl
  | .Attribute o m p => .attr o m p rfl
  | .Tuple es k p => .tup es k p rfl
  | .Subscript a b p => .subs a b p rfl
  | .Constant c k p => .cst c k p rfl
  | _ => .other
noncomputable def nameOf (e : Expr) : Option Str := match eview e with
  | .name x _ _ => some x
  | _ => none
noncomputable def asCall (e : Expr) : Option (Expr × List Expr × List Keyword) := match eview e with
  | .call g a k _ _ => some (g, a, k)
  | _ => none
noncomputable def asCallP (e : Expr) : Option (Expr × List Expr × List Keyword × Pos) := match eview e with
  | .call g a k p _ => some (g, a, k, p)
  | _ => none
noncomputable def asAttr (e : Expr) : Option (Expr × Str × Pos) := match eview e with
  | .attr o m p _ => some (o, m, p)
  | _ => none
noncomputable def asTup (e : Expr) : Option (List Expr) := match eview e with
  | .tup es _ _ _ => some es
  | _ => none
noncomputable def asSubs (e : Expr) : Option (Expr × Expr) := match eview e with
  | .subs a b _ _ => some (a, b)
  | _ => none
noncomputable def asCst (e : Expr) : Option Const := match eview e with
  | .cst c _ _ _ => some c
  | _ => none
noncomputable def strC : Const → Bool
  | .str _ => true
  | _ => false
noncomputable def cName (cc : CC) (x : Str) : Option ME :=
  onlyIf (x != Str.ofString "__debug__") (cond (cc.isVar x) (onlyIf (x != Str.ofString "__classdict__") ((idx cc.Γ x).map .var)) (onlyIf (cc.isGlob x && cc.dat.contains x) (some (.gv x))))
noncomputable def cUn (op : UnaryOp) (o : Option ME) : Option ME := match op with
  | .USub => o.map .neg
  | .Not => o.map .not
  | _ => none
noncomputable def cBop (op : BoolOp) (o : Option (List ME)) : Option ME := o.bind fun es => onlyIf (!es.isEmpty) (some (.bop (op == .And) es))
noncomputable def cCmp (f : Expr → Option ME) (l : Expr) : List CmpOp → List Expr → Option ME
  | op :: ops, r :: rs => onlyIf (ops.isEmpty && rs.isEmpty && !isSet r) (ok2 (f l) (f r) (.cmp op))
  | _, _ => none
noncomputable def cSub0 (f : Expr → Option ME) (v s : Expr) : Option ME :=
  cond (isSlice s) ((asSlice s).bind fun q => onlyIf q.2.2.isNone (ok3 (f v) (compO f q.1) (compO f q.2.1) .slc)) (ok2 (f v) (f s) .sub)
noncomputable def cSub (_ : CC) (f : Expr → Option ME) (v s : Expr) : Option ME := cSub0 f v s
noncomputable def cIsi (cc : CC) (f : Expr → Option ME) (a b : Expr) : Option ME := (nameOf b).bind fun t =>
  onlyIf (cc.isGlob t && t != Str.ofString "__debug__" && cc.bis.contains (Str.ofString "isinstance") && (cc.bis.contains t || cc.cls.contains t)) ((f a).map (.isi · t))
noncomputable def cIsis (cc : CC) (f : Expr → Option ME) : List Expr → Option ME
  | a :: r => (match r with
    | b :: r => onlyIf r.isEmpty (cIsi cc f a b)
    | [] => none)
  | [] => none
noncomputable def loopy (g : Str) : Bool := [Str.ofString "all", Str.ofString "any", Str.ofString "max", Str.ofString "min", Str.ofString "sorted"].contains g
noncomputable def cCall00 (cc : CC) (f : Expr → Option ME) (g : Str) (args : List Expr) : Option ME :=
  cond (g == Str.ofString "isinstance") (cIsis cc f args)
    (cond (cc.fns.contains g) ((mapMO f args).map (.call g)) (onlyIf (cc.bis.contains g) ((mapMO f args).map fun es => cond (loopy g) (.lbi g es) (.bi g es))))
noncomputable def cCall0 (cc : CC) (f : Expr → Option ME) (g : Str) (args : List Expr) : Option ME := cCall00 cc f g args
noncomputable def cCall (cc : CC) (f : Expr → Option ME) (g : Expr) (args : List Expr) (ks : List Keyword) : Option ME := (nameOf g).bind fun g =>
  cond ks.isEmpty (onlyIf (cc.isGlob g && g != Str.ofString "__debug__") (cCall0 cc f g args))
    none
noncomputable def cCallM (cc : CC) (f : Expr → Option ME) (g : Expr) (args : List Expr) (ks : List Keyword) (_ : Pos) : Option ME := cCall cc f g args ks
noncomputable def mtN (m : Str) : Option Nat := cond (m == Str.ofString "split") (some 0) (cond (m == Str.ofString "join") (some 1) none)
noncomputable def plainO : Expr → Bool
  | .Name .. | .Constant .. | .Subscript .. => true
  | _ => false
noncomputable def cCallX (cc : CC) (f : Expr → Option ME) (g : Expr) (args : List Expr) (ks : List Keyword) (p : Pos) : Option ME := match asAttr g with
  | some r => (mtN r.2.1).bind fun m => args.head?.bind fun e => onlyIf (ks.isEmpty && args.tail.isEmpty && r.2.2.endLine == p.line && plainO r.1) (ok2 (f r.1) (f e) fun a b => .mt a m b)
  | none => cCallM cc f g args ks p
inductive FV (e : Expr) : Type
  | fv (x : Expr) (c : Int) (o : Option Expr) (p : Pos) (h : e = .FormattedValue x c o p)
  | other
noncomputable def fview (e : Expr) : FV e := match e with
  | .FormattedValue x c o p => .fv x c o p rfl
  | _ => .other
noncomputable def fvOf (e : Expr) : Option Expr := match fview e with
  | .fv x c o _ _ => onlyIf (c == -1 && o.isNone) (some x)
  | .other => none
noncomputable def cJs (f : Expr → Option ME) : List Expr → Option ME
  | a :: r => (match r with
    | b :: r => onlyIf r.isEmpty (ok2 (f a) ((fvOf b).bind f) fun x e => .mt x 2 e)
    | [] => none)
  | [] => none
noncomputable def cIfs (f : Expr → Option ME) : List Expr → Option (Option ME)
  | [] => some none
  | c :: r => onlyIf r.isEmpty ((f c).map some)
noncomputable def cLC1 (f : CC → Expr → Option ME) (cc : CC) (elt : Expr) (sc : Scope) (g : Expr) (it : Expr) (ifs : List Expr) : Option ME := (nameOf g).bind fun x =>
  onlyIf (compScopeOk cc x sc && x != Str.ofString "__debug__" && x != Str.ofString "__classdict__" && !isSet it)
      (ok3 (f cc it) (f { cc with Γ := hide x cc.Γ ++ [some x], names := sc.names } elt) (cIfs (f { cc with Γ := hide x cc.Γ ++ [some x], names := sc.names }) ifs) (fun i el co => .comp el i co))
noncomputable def cLC (f : CC → Expr → Option ME) (cc : CC) (elt : Expr) (sc : Scope) : List Comprehension → Option ME
  | g :: r => onlyIf (r.isEmpty && g.is_async == 0) (cLC1 f cc elt sc g.target g.iter g.ifs)
  | [] => none

noncomputable def compE : Nat → CC → Expr → Option ME
  | 0, _, _ => none
  | n + 1, cc, e => match e with
    | .Constant c _ _ => (compConst c).map .cst
    | .Name x _ => cName cc x
    | .BinOp l op r _ => onlyIf (okOp op) (ok2 (compE n cc l) (compE n cc r) (.bin op))
    | .UnaryOp op x _ => cUn op (compE n cc x)
    | .BoolOp op es _ => cBop op (mapMO (compE n cc) es)
    | .Compare l ops rs _ => cCmp (compE n cc) l ops rs
    | .Tuple es _ _ => (mapMO (compE n cc) es).map .tup
    | .List es _ => (mapMO (compE n cc) es).map .lst
    | .Subscript v s _ => cSub cc (compE n cc) v s
    | .Call g args ks p => cCallX cc (compE n cc) g args ks p
    | .JoinedStr vs _ => cJs (compE n cc) vs
    | .ListComp elt gens sc _ => cLC (compE n) cc elt sc gens
    | _ => none

noncomputable def escs (mv : List Str) : Nat → Expr → List Str
  | 0, _ => []
  | n + 1, e => match e with
    | .Name x _ => if mv.contains x then [x] else []
    | .Tuple es _ _ => es.flatMap (escs mv n)
    | .List es _ => es.flatMap (escs mv n)
    | _ => []

noncomputable def frzs (cc : CC) (xs : List Str) : Option (List MS) := mapMO (fun x => (idx cc.Γ x).map .frz) xs

noncomputable def CC.bindable (cc : CC) (x : Str) : Bool := (match cc.names.lookup x with
  | some .local => true
  | some .cell => true
  | _ => false) && x != Str.ofString "__debug__"

noncomputable def CC.slotOf (cc : CC) (x : Str) : Option Nat := if cc.bindable x then idx cc.Γ x else none

noncomputable def isDisplay : Expr → Bool
  | .Tuple .. | .List .. => true
  | _ => false

noncomputable def compSs (f : Stmt → Option (List MS)) : List Stmt → Option (List MS)
  | [] => some []
  | s :: r => (match f s with
    | some a => (compSs f r).map (a ++ ·)
    | none => some [.stk])
theorem compSs_some {f : Stmt → Option (List MS)} {s : Stmt} {a : List MS} (h : f s = some a) (r : List Stmt) : compSs f (s :: r) = (compSs f r).map (a ++ ·) := by
  show (match f s with | some a => (compSs f r).map (a ++ ·) | none => some [.stk]) = _
  rw [h]
theorem compSs_none {f : Stmt → Option (List MS)} {s : Stmt} (h : f s = none) (r : List Stmt) : compSs f (s :: r) = some [.stk] := by
  show (match f s with | some a => (compSs f r).map (a ++ ·) | none => some [.stk]) = _
  rw [h]
noncomputable def cHd (cc : CC) (f : List Stmt → Option (List MS)) (c : Str) (nm : Option Str) (body : List Stmt) : Option (Str × Option Nat × List MS) :=
  onlyIf (cc.isGlob c && c != Str.ofString "__debug__" && !body.isEmpty && (cc.bis.contains c || cc.cls.contains c))
    (ok2 (match nm with
      | none => some none
      | some x => onlyIf (!cc.mv.contains x && cc.names.lookup x == some .local) ((cc.slotOf x).map some)
      ) (f body) fun sl b => (c, sl, b))
noncomputable def cHt (cc : CC) (f : List Stmt → Option (List MS)) (e : Option Expr) (nm : Option Str) (body : List Stmt) : Option (Str × Option Nat × List MS) := e.bind fun e => (nameOf e).bind fun c => cHd cc f c nm body
noncomputable def compHs (cc : CC) (f : List Stmt → Option (List MS)) : List ExceptHandler → Option (List (Str × Option Nat × List MS))
  | [] => some []
  | .ExceptHandler e nm body _ :: r => ok2 (cHt cc f e nm body) (compHs cc f r) (· :: ·)

noncomputable def cRetN (cc : CC) (f : Expr → Option ME) (e : Expr) (x : Str) : Option (List MS) := cond (cc.mv.contains x) ((cc.slotOf x).map fun i => [.retm i]) ((f e).map fun a => [.ret a])
noncomputable def cRet (cc : CC) (f : Expr → Option ME) (e : Expr) : Option (List MS) := match nameOf e with
  | some x => cRetN cc f e x
  | none => ok2 (f e) (frzs cc (escs cc.mv 8 e)) fun a fs => fs ++ [.ret a]
noncomputable def cRai (cc : CC) (e : Expr) : Option (List MS) := (asCall e).bind fun q => (nameOf q.1).bind fun c => q.2.1.head?.bind fun a => (asCst a).bind fun k =>
  onlyIf (q.2.1.tail.isEmpty && q.2.2.isEmpty && strC k && cc.isGlob c && cc.cls.contains c && c != Str.ofString "__debug__") (some [.rai c])
noncomputable def cAsgN0 (cc : CC) (f : Expr → Option ME) (x : Str) (e : Expr) : Option (List MS) :=
  ok3 (cc.slotOf x) (f e) (frzs cc (escs cc.mv 8 e)) fun i a fs => fs ++ [cond (cc.mv.contains x) (.asm i a) (.asg i a)]
noncomputable def mCall (e : Expr) : Option (Str × Str × List Expr) := (asCallP e).bind fun q => (asAttr q.1).bind fun r => (nameOf r.1).bind fun y => onlyIf (q.2.2.1.isEmpty && r.2.2.endLine == q.2.2.2.line) (some (y, r.2.1, q.2.1))
noncomputable def cAsgP (cc : CC) (f : Expr → Option ME) (x : Str) (e : Expr) : Option (List MS) := cAsgN0 cc f x e
noncomputable def cAsgN (cc : CC) (f : Expr → Option ME) (x : Str) (e : Expr) : Option (List MS) := cAsgP cc f x e
noncomputable def cAsgT (cc : CC) (f : Expr → Option ME) (ts : List Expr) (e : Expr) : Option (List MS) :=
  onlyIf (!isDisplay e) (ok2 (mapMO (fun t => (nameOf t).bind fun x => onlyIf (!cc.mv.contains x) (cc.slotOf x)) ts) (f e) fun is a => [.unp is a])
noncomputable def cAsgS (cc : CC) (f : Expr → Option ME) (o k e : Expr) : Option (List MS) := (nameOf o).bind fun x =>
  onlyIf (!isSlice k && cc.mv.contains x) (ok4 (cc.slotOf x) (f k) (f e) (frzs cc (escs cc.mv 8 e)) fun i b a fs => fs ++ [.sto i b a])
noncomputable def cAsg (cc : CC) (f : Expr → Option ME) (e t : Expr) : Option (List MS) := match nameOf t with
  | some x => cAsgN cc f x e
  | none => (match asTup t with
    | some ts => cAsgT cc f ts e
    | none => (match asAttr t with
      | some _ => (f e).map fun a => [.sat a]
      | none => (asSubs t).bind fun q => cAsgS cc f q.1 q.2 e))
noncomputable def cApp (cc : CC) (f : Expr → Option ME) (x m : Str) (args : List Expr) : Option (List MS) := args.head?.bind fun e =>
  onlyIf (args.tail.isEmpty && m == Str.ofString "append" && cc.mv.contains x) (ok3 (cc.slotOf x) (f e) (frzs cc (escs cc.mv 8 e)) fun i a fs => fs ++ [.app i a])
noncomputable def cExp0 (f : Expr → Option ME) (e : Expr) : Option (List MS) := onlyIf (asCall e).isSome ((f e).map fun a => [.ex a])

noncomputable def cMeth0 (cc : CC) (f : Expr → Option ME) (x m : Str) (args : List Expr) : Option (List MS) := cApp cc f x m args
noncomputable def cMeth (cc : CC) (f : Expr → Option ME) (x m : Str) (args : List Expr) : Option (List MS) := cMeth0 cc f x m args
noncomputable def cExp (cc : CC) (f : Expr → Option ME) (e : Expr) : Option (List MS) := match mCall e with
  | some q => cMeth cc f q.1 q.2.1 q.2.2
  | none => cExp0 f e

noncomputable def compS : Nat → CC → Stmt → Option (List MS)
  | 0, _, _ => none
  | n + 1, cc, s => match s with
    | .Pass _ => some [.pas]
    | .Break _ => some [.brk]
    | .Return o _ => o.bind (cRet cc (compE n cc))
    | .Raise o c _ => onlyIf c.isNone (o.bind (cRai cc))
    | .Assign ts e _ => ts.head?.bind fun t => onlyIf ts.tail.isEmpty (cAsg cc (compE n cc) e t)
    | .Expr e _ => cExp cc (compE n cc) e
    | .If c a b _ => ok3 (compE n cc c) (compSs (compS n cc) a) (compSs (compS n cc) b) fun c' a' b' => [.ite c' a' b']
    | .For x it b o _ => (nameOf x).bind fun x => onlyIf (o.isEmpty && iterOk it && !cc.mv.contains x) (ok4 (cc.slotOf x) (compE n cc it) (compSs (compS n cc) b) (frzs cc (escs cc.mv 8 it)) fun i a b' fs => fs ++ [.for i a b'])
    | .Try b hs o fi _ => onlyIf (o.isEmpty && fi.isEmpty && !hs.isEmpty) (ok2 (compSs (compS n cc) b) (compHs cc (compSs (compS n cc)) hs) fun b' hs' => [.tri b' hs'])
    | _ => none
noncomputable def mutM (m : Str) : Bool := m == Str.ofString "append"
noncomputable def muts : Nat → List Stmt → List Str
  | 0, _ => []
  | n + 1, ss => ss.flatMap fun s => match s with
    | .Assign ts _ _ => ts.filterMap fun t => (asSubs t).bind fun q => nameOf q.1
    | .Expr e _ => ((mCall e).bind fun q => onlyIf (mutM q.2.1) (some q.1)).toList
    | .If _ a b _ => muts n a ++ muts n b
    | .While _ b _ _ => muts n b
    | .For _ _ b _ _ => muts n b
    | .Try b hs _ _ _ => muts n b ++ hs.flatMap fun h => match h with | .ExceptHandler _ _ body _ => muts n body
    | _ => []


structure GT where
  fns : List Str
  dat : List Str
  cls : List Str
  bis : List Str

noncomputable def ccOf (g : GT) (params : List Str) (scope : Scope) (body : List Stmt) : CC :=
  { Γ := params.map some ++ (scope.names.filterMap fun (x, k) => if (k == .local || k == .cell) && !params.contains x then some (some x) else none),
    names := scope.names, mv := (muts 20 body).eraseDups,
    fns := g.fns, dat := g.dat, cls := g.cls, bis := g.bis }

noncomputable def compF (g : GT) (params : List Str) (scope : Scope) (body : List Stmt) : Option (List MS) := compSs (compS 40 (ccOf g params scope body)) body

end Mine

namespace Mine
open PySem

noncomputable abbrev top : Nat := 16777216

noncomputable def truth : AV → Option Bool
  | .bool b => some b
  | _ => none

theorem truth_bool (b : Bool) : truth (.bool b) = some b := rfl
mutual
noncomputable def dat (n : Nat) : AV → Bool
  | .none => true
  | .bool _ => true
  | .int _ => true
  | .str _ => true
  | .tup xs => (match n with | 0 => false | n + 1 => dats n xs)
  | .lst xs => (match n with | 0 => false | n + 1 => dats n xs)
  | _ => false
noncomputable def dats (n : Nat) : List AV → Bool
  | [] => true
  | x :: xs => dat n x && dats n xs
end

mutual
noncomputable def eqq : AV → AV → Bool
  | .none, .none => true
  | .bool a, .bool b => a == b
  | .bool a, .int j => (if a then 1 else 0) == j
  | .int i, .bool b => i == (if b then 1 else 0)
  | .int i, .int j => i == j
  | .str x, .str y => x == y
  | .lst xs, .lst ys => eqqs xs ys
  | .tup xs, .tup ys => eqqs xs ys
  | _, _ => false
noncomputable def eqqs : List AV → List AV → Bool
  | [], [] => true
  | x :: xs, y :: ys => eqq x y && eqqs xs ys
  | [], _ :: _ => false
  | _ :: _, [] => false
end

noncomputable def peq (a b : AV) : Option Bool := if dat 8 a && dat 8 b then some (eqq a b) else none

noncomputable def asInt : AV → Option Int
  | .int i => some i
  | _ => none
noncomputable def asStr : AV → Option Str
  | .str i => some i
  | _ => none
noncomputable def asLst : AV → Option (List AV)
  | .lst i => some i
  | _ => none
theorem asInt_some {a : AV} {i : Int} (h : asInt a = some i) : a = .int i := by cases a <;> first | (cases h; rfl) | cases h
theorem asStr_some {a : AV} {i : Str} (h : asStr a = some i) : a = .str i := by cases a <;> first | (cases h; rfl) | cases h
theorem asLst_some {a : AV} {i : List AV} (h : asLst a = some i) : a = .lst i := by cases a <;> first | (cases h; rfl) | cases h

noncomputable def seqIdx (i : Int) (n : Nat) : Option Nat :=
  if 0 ≤ i ∧ i < n then some i.toNat else if i < 0 ∧ -(n : Int) ≤ i then some (i + n).toNat else none

noncomputable def keq : AV → AV → Bool
  | .int i, .int j => i == j
  | .str x, .str y => x == y
  | _, _ => false
noncomputable def findKey (k : AV) : List AV → List AV → Option AV
  | x :: ks, v :: vs => if keq x k then some v else findKey k ks vs
  | _, _ => none
noncomputable def hasKey (k : AV) (ks : List AV) : Bool := ks.any fun x => keq x k

noncomputable def isKey : AV → List AV → Bool
  | .str _, ks => ks.all fun k => match k with | .str _ => true | _ => false
  | _, _ => false

noncomputable def subsAt (xs : List AV) (b : AV) : Option AV := (asInt b).bind fun i => (seqIdx i xs.length).bind fun j => xs[j]?
noncomputable def subs (a b : AV) : Option AV := match a with
  | .lst xs => subsAt xs b
  | .tup xs => subsAt xs b
  | .str s => (asInt b).bind fun i => (seqIdx i s.length).bind fun j => s.cps[j]?.map fun c => .str ⟨#[c]⟩
  | .dic ks vs => if isKey b ks then findKey b ks vs else none
  | _ => none

noncomputable def clampLo (v : AV) (n : Nat) : Option Nat := match v with
  | .none => some 0
  | .int i => some (if i < 0 then (i + n).toNat else min i.toNat n)
  | _ => none
noncomputable def clampHi (v : AV) (n : Nat) : Option Nat := match v with
  | .none => some n
  | .int i => some (if i < 0 then (i + n).toNat else min i.toNat n)
  | _ => none
noncomputable def cut {α : Type} (xs : List α) (lo hi : Nat) : List α := (xs.drop lo).take (hi - lo)

noncomputable def slices : AV → AV → AV → Option AV
  | .lst xs, lo, hi => (clampLo lo xs.length).bind fun a => (clampHi hi xs.length).map fun b => .lst (cut xs a b)
  | .str s, lo, hi => (clampLo lo s.length).bind fun a => (clampHi hi s.length).map fun b => .str ⟨(cut s.cps.toList a b).toArray⟩
  | _, _, _ => none

noncomputable def rep {α : Type} (xs : List α) (n : Int) : List α := (List.replicate n.toNat xs).flatten

noncomputable def i2 {α : Type} (a b : AV) (f : Int → Int → Option α) : Option α := (asInt a).bind fun i => (asInt b).bind fun j => f i j
theorem i2_some {α : Type} {a b : AV} {f : Int → Int → Option α} {r : α} (h : i2 a b f = some r) : ∃ i j, a = .int i ∧ b = .int j ∧ f i j = some r := by
  obtain ⟨i, hi, h⟩ := bindI h
  obtain ⟨j, hj, h⟩ := bindI h
  exact ⟨i, j, asInt_some hi, asInt_some hj, h⟩

noncomputable def addV (a b : AV) : Option AV := match a with
  | .int i => (asInt b).map fun j => .int (i + j)
  | .str x => (asStr b).bind fun y => if x.length + y.length ≤ top then some (.str (x ++ y)) else none
  | .lst x => (asLst b).bind fun y => if x.length + y.length ≤ top then some (.lst (x ++ y)) else none
  | _ => none
noncomputable def mulV (a b : AV) : Option AV := match a with
  | .int i => (asInt b).bind fun j => if i.natAbs < 2 ^ 64 ∨ j.natAbs < 2 ^ 64 then some (.int (i * j)) else none
  | .lst x => (asInt b).bind fun n => if x.length * n.toNat ≤ top ∧ n.natAbs < 2 ^ 62 then some (.lst (rep x n)) else none
  | _ => none
noncomputable def binop (op : Operator) (a b : AV) : Option AV := match op with
  | .Add => addV a b
  | .Sub => i2 a b fun i j => some (.int (i - j))
  | .Mult => mulV a b
  | .Mod => i2 a b fun i j => if j ≠ 0 then some (.int (i.fmod j)) else none
  | .FloorDiv => i2 a b fun i j => if j ≠ 0 ∧ j.natAbs < 1073741824 then some (.int (i.fdiv j)) else none
  | _ => none

noncomputable def cutC (c : Nat) : List Nat → List (List Nat)
  | [] => [[]]
  | x :: r => if x = c then [] :: cutC c r else match cutC c r with
    | p :: ps => (x :: p) :: ps
    | [] => [[x]]
noncomputable def glue (y : List Nat) : List (List Nat) → List Nat
  | [] => []
  | p :: r => match r with
    | [] => p
    | _ :: _ => p ++ y ++ glue y r
noncomputable def txt (l : List Nat) : Str := ⟨l.toArray⟩
noncomputable def sgs (x : Str) : List Nat := x.cps.toList
noncomputable def numT (i : Int) : Str := Str.ofString (toString i)
noncomputable def strsO : List AV → Option (List Str)
  | [] => some []
  | .str i :: r => (strsO r).map (i :: ·)
  | _ => none
noncomputable def one1 : List Nat → Option Nat
  | c :: r => if r.isEmpty then some c else none
  | [] => none
noncomputable def mtV (m : Nat) (o a : AV) : Option (AV × Md) := (asStr o).bind fun x => match m with
  | 0 => (asStr a).bind fun y => (one1 (sgs y)).bind fun c => if x.length + 2 ≤ top then some (.lst ((cutC c (sgs x)).map fun l => .str (txt l)), .ow) else none
  | 1 => (asLst a).bind fun xs => (strsO xs).bind fun l => if (l.map (·.length)).sum + l.length * x.length ≤ top then some (.str (txt (glue (sgs x) (l.map sgs))), .fr) else none
  | _ => (asInt a).bind fun i => if 0 ≤ i ∧ i < 100000 ∧ x.length ≤ 1000 then some (.str (x ++ numT i), .fr) else none
noncomputable def inS (x : AV) (y : Str) : Option Bool := (asStr x).bind fun x => (one1 (sgs x)).map fun c => (sgs y).contains c
noncomputable def inSeq (x : AV) (ys : List AV) : Option Bool := if dat 8 x && dats 8 ys then some (ys.any fun y => eqq y x) else none

noncomputable def isNone : AV → Bool
  | .none => true
  | _ => false
noncomputable def inV (x b : AV) : Option Bool := match b with
  | .lst ys => inSeq x ys
  | .tup ys => inSeq x ys
  | .dic ks _ => if isKey x ks then some (hasKey x ks) else none
  | .str y => inS x y
  | _ => none
noncomputable def cmpop (op : CmpOp) (a b : AV) : Option Bool := match op with
  | .Eq => peq a b
  | .NotEq => (peq a b).map (!·)
  | .Lt => i2 a b fun i j => some (decide (i < j))
  | .LtE => i2 a b fun i j => some (decide (i ≤ j))
  | .Gt => i2 a b fun i j => some (decide (j < i))
  | .GtE => i2 a b fun i j => some (decide (j ≤ i))
  | .Is => if isNone b then some (isNone a) else none
  | .IsNot => if isNone b then some (!isNone a) else none
  | .In => inV a b
  | .NotIn => (inV a b).map (!·)

noncomputable def rangeL (lo hi : Int) : List AV := (List.range (hi - lo).toNat).map fun (k : Nat) => .int (lo + k)

noncomputable def items : AV → Option (List AV)
  | .lst xs => some xs
  | .tup xs => some xs
  | .rng lo hi => some (rangeL lo hi)
  | .str x => some ((sgs x).map fun c => .str (txt [c]))
  | _ => none

noncomputable def frE (m : Md) (v : AV) : Bool := m != .sh || (match v with
  | .lst xs => AV.lfs xs
  | .tup xs => AV.lfs xs
  | .dic _ vs => AV.lfs vs
  | _ => true)
noncomputable def okF (m : Md) (v : AV) : Bool := m == .fr || m == .ow || v.lf
noncomputable def elMd (m : Md) : Md := if m == .sh then .sh else .fr

noncomputable def boolsO : List AV → Option (List Bool)
  | [] => some []
  | .bool i :: r => (boolsO r).map (i :: ·)
  | _ => none


noncomputable def B (s : String) : Str := Str.ofString s

noncomputable def tyN : AV → Option String
  | .none => some "NoneType"
  | .bool _ => some "bool"
  | .int _ => some "int"
  | .str _ => some "str"
  | .tup _ => some "tuple"
  | .lst _ => some "list"
  | .dic _ _ => some "dict"
  | _ => none
noncomputable def tys : List String := ["bool", "int", "list", "tuple", "str"]
noncomputable def ty (f : Str) (a : AV) : Option Bool := (tyN a).bind fun T => (tys.find? fun n => f == B n).map fun n => T == n || (T == "bool" && n == "int")

structure Th where
  data : Str → Option AV
  call : Str → List AV → (AV → Md → Prop) → (Str → Prop) → Prop
  callH : Str → List AV → (AV → Md → Prop) → (Str → Prop) → Prop
  sub : Str → Str → Option Bool
  loops : Bool
  bis : Str → List (AV × Md) → Option (AV × Md)
  mth : AV × Md → Str → List (AV × Md) → Option (AV × Md)
  lbis : Str → List (AV × Md) → Option (AV × Md) := fun _ _ => none

noncomputable def Th.inH (t : Th) : Th := { t with call := t.callH, loops := false }

noncomputable def isinst (t : Th) (a : AV) (f : Str) : Option Bool := match a with
  | .exc c => t.sub c f
  | a => ty f a

theorem ifF {a b : Prop} (h : if (false : Bool) = true then a else b) : b := h
theorem ifT {a b : Prop} (h : if (true : Bool) = true then a else b) : a := h
theorem fIf {a b : Prop} (h : b) : if (false : Bool) = true then a else b := h
theorem tIf {a b : Prop} (h : a) : if (true : Bool) = true then a else b := h
inductive need {α : Type} (o : Option α) (k : α → Prop) : Prop
  | mk (r : α) (e : o = some r) (h : k r) : need o k
@[simp] theorem need_some {α : Type} (r : α) (k : α → Prop) : need (some r) k ↔ k r := ⟨fun ⟨_, e, h⟩ => by cases e; exact h, fun h => ⟨r, rfl, h⟩⟩

noncomputable def binMd (op : Operator) (a : AV) (ma : Md) (b : AV) (mb : Md) (r : AV) : Md := match op, r with
  | .Add, .lst _ => if frE ma a && frE mb b then .ow else .sh
  | .Add, .tup _ => if frE ma a && frE mb b then .fr else .sh
  | .Mult, .lst _ => if frE ma a then .ow else .sh
  | .Mult, .tup _ => if frE ma a then .fr else .sh
  | _, _ => .fr
noncomputable def slcMd (a : AV) (ma : Md) (r : AV) : Md := match r with
  | .lst _ => if frE ma a then .ow else .sh
  | .tup _ => if frE ma a then .fr else .sh
  | _ => .fr

noncomputable def getMu (ρ : Rho) (i : Nat) : Option AV := match ρ[i]?.join with
  | some (v, .mu) => some v
  | _ => none
noncomputable def slotMd : Sm → Md
  | .sh => .sh
  | .fr => .fr
  | .mu => .bo
noncomputable def asSm : Md → Sm
  | .sh => .sh
  | _ => .fr

noncomputable def compL (el : AV → (AV → Md → Prop) → Prop) (co : AV → (Bool → Prop) → Prop) : List AV → List AV → Bool → (List AV → Bool → Prop) → Prop
  | [], acc, f, k => k acc f
  | x :: xs, acc, f, k => co x fun b => if b then el x fun v m => m ≠ .bo ∧ compL el co xs (acc ++ [v]) (f && okF m v) k else compL el co xs acc f k

theorem compL_nil (el : AV → (AV → Md → Prop) → Prop) (co : AV → (Bool → Prop) → Prop) (acc : List AV) (f : Bool) (k : List AV → Bool → Prop) : compL el co [] acc f k = k acc f := rfl
theorem compL_cons (el : AV → (AV → Md → Prop) → Prop) (co : AV → (Bool → Prop) → Prop) (x : AV) (xs acc : List AV) (f : Bool) (k : List AV → Bool → Prop) : compL el co (x :: xs) acc f k = co x fun b => if b then el x fun v m => m ≠ .bo ∧ compL el co xs (acc ++ [v]) (f && okF m v) k else compL el co xs acc f k := rfl
mutual
noncomputable def wpE (t : Th) : ME → Rho → (AV → Md → Prop) → (Str → Prop) → Prop
  | .cst v, _, Q, _ => Q v .fr
  | .var i, ρ, Q, _ => need (ρ[i]?.join) fun (v, m) => Q v (slotMd m)
  | .gv n, _, Q, _ => need (t.data n) fun v => Q v .sh
  | .bin op a b, ρ, Q, X => wpE t a ρ (fun va ma => wpE t b ρ (fun vb mb => need (binop op va vb) fun r => Q r (binMd op va ma vb mb r)) X) X
  | .neg a, ρ, Q, X => wpE t a ρ (fun va _ => match va with | .int i => Q (.int (-i)) .fr | _ => False) X
  | .cmp op a b, ρ, Q, X => wpE t a ρ (fun va _ => wpE t b ρ (fun vb _ => need (cmpop op va vb) fun r => Q (.bool r) .fr) X) X
  | .not a, ρ, Q, X => wpE t a ρ (fun va _ => need (truth va) fun b => Q (.bool !b) .fr) X
  | .bop c es, ρ, Q, X => wpB t c es ρ Q X
  | .tup es, ρ, Q, X => wpEs t es ρ (fun vs => (∀ p ∈ vs, p.2 ≠ .bo) ∧ vs.length ≤ top ∧ Q (.tup (vs.map (·.1))) (if vs.all fun p => okF p.2 p.1 then .fr else .sh)) X
  | .lst es, ρ, Q, X => wpEs t es ρ (fun vs => (∀ p ∈ vs, p.2 ≠ .bo) ∧ vs.length ≤ top ∧ Q (.lst (vs.map (·.1))) (if vs.all fun p => okF p.2 p.1 then .ow else .sh)) X
  | .sub a i, ρ, Q, X => wpE t a ρ (fun va ma => wpE t i ρ (fun vi _ => need (subs va vi) fun r => Q r (elMd ma)) X) X
  | .slc a lo hi, ρ, Q, X => wpE t a ρ (fun va ma => wpE t lo ρ (fun vl _ => wpE t hi ρ (fun vh _ => need (slices va vl vh) fun r => Q r (slcMd va ma r)) X) X) X
  | .call f es, ρ, Q, X => wpEs t es ρ (fun vs => t.call f (vs.map (·.1)) Q X) X
  | .bi f es, ρ, Q, X => wpEs t es ρ (fun vs => need (t.bis f vs) fun r => Q r.1 r.2) X
  | .lbi f es, ρ, Q, X => t.loops = true ∧ wpEs t es ρ (fun vs => need (t.lbis f vs) fun r => Q r.1 r.2) X
  | .isi a f, ρ, Q, X => wpE t a ρ (fun va _ => need (isinst t va f) fun b => Q (.bool b) .fr) X
  | .mt o m a, ρ, Q, X => wpE t o ρ (fun vo _ => match vo with | .str x => wpE t a ρ (fun va _ => need (mtV m (.str x) va) fun r => Q r.1 r.2) X | _ => False) X
  | .comp el it co, ρ, Q, X => t.loops = true ∧ wpE t it ρ (fun vi mi => need (items vi) fun xs => xs.length ≤ top ∧
      compL (fun x k => wpE t el (ρ ++ [some (x, asSm (elMd mi))]) k X) (fun x k => wpO t co (ρ ++ [some (x, asSm (elMd mi))]) k fun _ => False) xs [] true fun ys f => Q (.lst ys) (if f then .ow else .sh)) X
  | .mxd a, ρ, _, X => t.loops = true ∧ wpE t a ρ (fun _ _ => False) X
noncomputable def wpEs (t : Th) : List ME → Rho → (List (AV × Md) → Prop) → (Str → Prop) → Prop
  | [], _, Q, _ => Q []
  | e :: es, ρ, Q, X => wpE t e ρ (fun v m => wpEs t es ρ (fun vs => Q ((v, m) :: vs)) X) X
noncomputable def wpB (t : Th) (c : Bool) : List ME → Rho → (AV → Md → Prop) → (Str → Prop) → Prop
  | [], _, _, _ => False
  | [e], ρ, Q, X => wpE t e ρ Q X
  | e :: es, ρ, Q, X => wpE t e ρ (fun v m => need (truth v) fun b => if b = c then wpB t c es ρ Q X else Q v m) X
noncomputable def wpO (t : Th) : Option ME → Rho → (Bool → Prop) → (Str → Prop) → Prop
  | none, _, Q, _ => Q true
  | some c, ρ, Q, X => wpT t c ρ Q X
noncomputable def wpT (t : Th) : ME → Rho → (Bool → Prop) → (Str → Prop) → Prop
  | .not a, ρ, Q, X => wpT t a ρ (fun b => Q !b) X
  | .bop c es, ρ, Q, X => wpTs t c es ρ Q X
  | .cmp op a b, ρ, Q, X => wpE t a ρ (fun va _ => wpE t b ρ (fun vb _ => need (cmpop op va vb) Q) X) X
  | .cst v, _, Q, _ => need (truth v) Q
  | .var i, ρ, Q, _ => need (ρ[i]?.join) fun (v, _) => need (truth v) Q
  | .sub a i, ρ, Q, X => wpE t a ρ (fun va _ => wpE t i ρ (fun vi _ => need (subs va vi) fun r => need (truth r) Q) X) X
  | .call f es, ρ, Q, X => wpEs t es ρ (fun vs => t.call f (vs.map (·.1)) (fun v _ => need (truth v) Q) X) X
  | .bi f es, ρ, Q, X => wpEs t es ρ (fun vs => need (t.bis f vs) fun r => need (truth r.1) Q) X
  | .lbi f es, ρ, Q, X => t.loops = true ∧ wpEs t es ρ (fun vs => need (t.lbis f vs) fun r => need (truth r.1) Q) X
  | .isi a f, ρ, Q, X => wpE t a ρ (fun va _ => need (isinst t va f) Q) X
  | _, _, _, _ => False
noncomputable def wpTs (t : Th) (c : Bool) : List ME → Rho → (Bool → Prop) → (Str → Prop) → Prop
  | [], _, Q, _ => Q c
  | e :: es, ρ, Q, X => wpT t e ρ (fun b => if b = c then wpTs t c es ρ Q X else Q !c) X
end

noncomputable def loopF (i : Nat) (m : Sm) (b : Rho → (Rho → Prop) → Prop) : List AV → Rho → (Rho → Prop) → Prop
  | [], ρ, N => N ρ
  | x :: xs, ρ, N => b (ρ.set i (some (x, m))) fun ρ' => loopF i m b xs ρ' N
theorem loopF_cons (i : Nat) (m : Sm) (b : Rho → (Rho → Prop) → Prop) (x : AV) (xs : List AV) (ρ : Rho) (N : Rho → Prop) : loopF i m b (x :: xs) ρ N ↔ b (ρ.set i (some (x, m))) fun ρ' => loopF i m b xs ρ' N := .rfl
noncomputable def loopW (c : Rho → (Bool → Prop) → Prop) (b : Rho → (Rho → Prop) → Prop) : Nat → Rho → (Rho → Prop) → Prop
  | 0, _, _ => False
  | n + 1, ρ, N => c ρ fun v => if v then b ρ fun ρ' => loopW c b n ρ' N else N ρ

noncomputable def setAll : List Nat → List AV → Sm → Rho → Rho
  | i :: is, x :: xs, m, ρ => setAll is xs m (ρ.set i (some (x, m)))
  | _, _, _, ρ => ρ

noncomputable def store : AV → AV → AV → Option AV
  | .lst xs, .int i, v => if 0 ≤ i ∧ i < xs.length then some (.lst (xs.set i.toNat v)) else none
  | _, _, _ => none

mutual
noncomputable def wpS (t : Th) : MS → Rho → (Rho → Prop) → (Rho → Prop) → (AV → Md → Prop) → (Rho → Str → Prop) → Prop
  | .asg i e, ρ, N, _, _, X => wpE t e ρ (fun v m => m ≠ .bo ∧ N (ρ.set i (some (v, asSm m)))) (X ρ)
  | .asm i e, ρ, N, _, _, X => wpE t e ρ (fun v m => m = .ow ∧ N (ρ.set i (some (v, .mu)))) (X ρ)
  | .unp is e, ρ, N, _, _, X => t.loops = true ∧ wpE t e ρ (fun v m => m ≠ .bo ∧ match v with
      | .tup xs => xs.length = is.length ∧ N (setAll is xs (asSm m) ρ)
      | _ => False) (X ρ)
  | .frz i, ρ, N, _, _, _ => need (ρ[i]?.join) fun (v, m) => N (ρ.set i (some (v, frzM m)))
  | .app i e, ρ, N, _, _, X => need (getMu ρ i) fun w => need (asLst w) fun xs => wpE t e ρ (fun v m => m ≠ .bo ∧ okF m v = true ∧ xs.length < top ∧ N (ρ.set i (some (.lst (xs ++ [v]), .mu)))) (X ρ)
  | .sto i k e, ρ, N, _, _, X => need (getMu ρ i) fun w => wpE t e ρ (fun v m => m ≠ .bo ∧ okF m v = true ∧ wpE t k ρ (fun vk _ =>
      need (store w vk v) fun w' => N (ρ.set i (some (w', .mu)))) (X ρ)) (X ρ)
  | .ex e, ρ, N, _, _, X => wpE t e ρ (fun _ _ => N ρ) (X ρ)
  | .sat e, ρ, _, _, _, X => wpE t e ρ (fun _ _ => False) (X ρ)
  | .ite c a b, ρ, N, K, R, X => wpT t c ρ (fun v => if v then wpSs t a ρ N K R X else wpSs t b ρ N K R X) (X ρ)
  | .for i it b, ρ, N, _, R, X => t.loops = true ∧ wpE t it ρ (fun vi mi => mi ≠ .bo ∧ need (items vi) fun xs => xs.length ≤ top ∧
      loopF i (asSm (elMd mi)) (fun ρ' k => wpSs t b ρ' k N R X) xs ρ N) (X ρ)
  | .whl c b, ρ, N, _, R, X => ∃ n, loopW (fun ρ' k => wpT t c ρ' k (X ρ')) (fun ρ' k => wpSs t b ρ' k N R X) n ρ N
  | .ret e, ρ, _, _, R, X => wpE t e ρ (fun v m => m ≠ .bo ∧ okF m v = true ∧ R v (if m = .ow then .ow else .fr)) (X ρ)
  | .retm i, ρ, _, _, R, _ => need (getMu ρ i) fun v => R v .ow
  | .rai c, ρ, _, _, _, X => t.loops = true ∧ X ρ c
  | .tri b hs, ρ, N, K, R, X => wpSs t b ρ N K R (fun ρ' c => wpH t hs c ρ' N K R (X ρ' c))
  | .brk, ρ, _, K, _, _ => K ρ
  | .pas, ρ, N, _, _, _ => N ρ
  | .stk, _, _, _, _, _ => False
noncomputable def wpSs (t : Th) : List MS → Rho → (Rho → Prop) → (Rho → Prop) → (AV → Md → Prop) → (Rho → Str → Prop) → Prop
  | [], ρ, N, _, _, _ => N ρ
  | s :: ss, ρ, N, K, R, X => wpS t s ρ (fun ρ' => wpSs t ss ρ' N K R X) K R X
noncomputable def wpH (t : Th) : List (Str × Option Nat × List MS) → Str → Rho → (Rho → Prop) → (Rho → Prop) → (AV → Md → Prop) → Prop → Prop
  | [], _, _, _, _, _, x => x
  | (C, sl, b) :: hs, c, ρ, N, K, R, x => need (t.sub c C) fun y => if y then (match sl with
      | none => wpSs t.inH b ρ N K R (fun _ _ => False)
      | some i => wpSs t.inH b (ρ.set i (some (.exc c, .sh))) (fun ρ' => N (ρ'.set i none)) (fun ρ' => K (ρ'.set i none)) R (fun _ _ => False))
      else wpH t hs c ρ N K R x
end

section
variable {t : Th} {ρ : Rho} {Q : AV → Md → Prop} {X : Str → Prop} {N K : Rho → Prop} {R : AV → Md → Prop} {Y : Rho → Str → Prop}
theorem wpE_neg (a : ME) : wpE t (.neg a) ρ Q X = wpE t a ρ (fun va _ => match va with | .int i => Q (.int (-i)) .fr | _ => False) X := rfl
theorem wpE_tup (es : List ME) : wpE t (.tup es) ρ Q X = wpEs t es ρ (fun vs => (∀ p ∈ vs, p.2 ≠ .bo) ∧ vs.length ≤ top ∧ Q (.tup (vs.map (·.1))) (if vs.all fun p => okF p.2 p.1 then .fr else .sh)) X := rfl
theorem wpE_lst (es : List ME) : wpE t (.lst es) ρ Q X = wpEs t es ρ (fun vs => (∀ p ∈ vs, p.2 ≠ .bo) ∧ vs.length ≤ top ∧ Q (.lst (vs.map (·.1))) (if vs.all fun p => okF p.2 p.1 then .ow else .sh)) X := rfl
theorem wpE_sub (a i : ME) : wpE t (.sub a i) ρ Q X = wpE t a ρ (fun va ma => wpE t i ρ (fun vi _ => need (subs va vi) fun r => Q r (elMd ma)) X) X := rfl
theorem wpE_slc (a lo hi : ME) : wpE t (.slc a lo hi) ρ Q X = wpE t a ρ (fun va ma => wpE t lo ρ (fun vl _ => wpE t hi ρ (fun vh _ => need (slices va vl vh) fun r => Q r (slcMd va ma r)) X) X) X := rfl
theorem wpE_call (f : Str) (es : List ME) : wpE t (.call f es) ρ Q X = wpEs t es ρ (fun vs => t.call f (vs.map (·.1)) Q X) X := rfl
theorem wpE_bi (f : Str) (es : List ME) : wpE t (.bi f es) ρ Q X = wpEs t es ρ (fun vs => need (t.bis f vs) fun r => Q r.1 r.2) X := rfl
theorem wpE_lbi (f : Str) (es : List ME) : wpE t (.lbi f es) ρ Q X = (t.loops = true ∧ wpEs t es ρ (fun vs => need (t.lbis f vs) fun r => Q r.1 r.2) X) := rfl
theorem wpE_isi (a : ME) (f : Str) : wpE t (.isi a f) ρ Q X = wpE t a ρ (fun va _ => need (isinst t va f) fun b => Q (.bool b) .fr) X := rfl
theorem wpE_comp (el it : ME) (co : Option ME) : wpE t (.comp el it co) ρ Q X = (t.loops = true ∧ wpE t it ρ (fun vi mi => need (items vi) fun xs => xs.length ≤ top ∧
      compL (fun x k => wpE t el (ρ ++ [some (x, asSm (elMd mi))]) k X) (fun x k => wpO t co (ρ ++ [some (x, asSm (elMd mi))]) k fun _ => False) xs [] true fun ys f => Q (.lst ys) (if f then .ow else .sh)) X) := rfl
theorem wpSs_nil : wpSs t [] ρ N K R Y = N ρ := rfl
theorem wpSs_cons (s : MS) (ss : List MS) : wpSs t (s :: ss) ρ N K R Y = wpS t s ρ (fun ρ' => wpSs t ss ρ' N K R Y) K R Y := rfl
theorem wpS_frz (i : Nat) : wpS t (.frz i) ρ N K R Y = need (ρ[i]?.join) fun (v, m) => N (ρ.set i (some (v, frzM m))) := rfl
theorem wpS_asg (i : Nat) (e : ME) : wpS t (.asg i e) ρ N K R Y = wpE t e ρ (fun v m => m ≠ .bo ∧ N (ρ.set i (some (v, asSm m)))) (Y ρ) := rfl
theorem wpS_asm (i : Nat) (e : ME) : wpS t (.asm i e) ρ N K R Y = wpE t e ρ (fun v m => m = .ow ∧ N (ρ.set i (some (v, .mu)))) (Y ρ) := rfl
theorem wpS_unp (is : List Nat) (e : ME) : wpS t (.unp is e) ρ N K R Y = (t.loops = true ∧ wpE t e ρ (fun v m => m ≠ .bo ∧ match v with
      | .tup xs => xs.length = is.length ∧ N (setAll is xs (asSm m) ρ)
      | _ => False) (Y ρ)) := rfl
theorem wpS_sto (i : Nat) (k e : ME) : wpS t (.sto i k e) ρ N K R Y = need (getMu ρ i) fun w => wpE t e ρ (fun v m => m ≠ .bo ∧ okF m v = true ∧ wpE t k ρ (fun vk _ => need (store w vk v) fun w' => N (ρ.set i (some (w', .mu)))) (Y ρ)) (Y ρ) := rfl
theorem wpS_app (i : Nat) (e : ME) : wpS t (.app i e) ρ N K R Y = need (getMu ρ i) fun w => need (asLst w) fun xs => wpE t e ρ (fun v m => m ≠ .bo ∧ okF m v = true ∧ xs.length < top ∧ N (ρ.set i (some (.lst (xs ++ [v]), .mu)))) (Y ρ) := rfl
theorem wpS_ex (e : ME) : wpS t (.ex e) ρ N K R Y = wpE t e ρ (fun _ _ => N ρ) (Y ρ) := rfl
theorem wpS_ite (c : ME) (a b : List MS) : wpS t (.ite c a b) ρ N K R Y = wpT t c ρ (fun v => if v then wpSs t a ρ N K R Y else wpSs t b ρ N K R Y) (Y ρ) := rfl
theorem wpS_for (i : Nat) (it : ME) (b : List MS) : wpS t (.for i it b) ρ N K R Y = (t.loops = true ∧ wpE t it ρ (fun vi mi => mi ≠ .bo ∧ need (items vi) fun xs => xs.length ≤ top ∧ loopF i (asSm (elMd mi)) (fun ρ' k => wpSs t b ρ' k N R Y) xs ρ N) (Y ρ)) := rfl
theorem wpS_ret (e : ME) : wpS t (.ret e) ρ N K R Y = wpE t e ρ (fun v m => m ≠ .bo ∧ okF m v = true ∧ R v (if m = .ow then .ow else .fr)) (Y ρ) := rfl
theorem wpS_retm (i : Nat) : wpS t (.retm i) ρ N K R Y = need (getMu ρ i) fun v => R v .ow := rfl
theorem wpS_rai (c : Str) : wpS t (.rai c) ρ N K R Y = (t.loops = true ∧ Y ρ c) := rfl
theorem wpS_tri (b : List MS) (hs : List (Str × Option Nat × List MS)) : wpS t (.tri b hs) ρ N K R Y = wpSs t b ρ N K R (fun ρ' c => wpH t hs c ρ' N K R (Y ρ' c)) := rfl
theorem wpS_brk : wpS t .brk ρ N K R Y = K ρ := rfl
theorem wpS_pas : wpS t .pas ρ N K R Y = N ρ := rfl
theorem wpS_sat (e : ME) : wpS t (.sat e) ρ N K R Y = wpE t e ρ (fun _ _ => False) (Y ρ) := rfl
theorem wpH_nil (c : Str) (x : Prop) : wpH t [] c ρ N K R x = x := rfl
end

noncomputable def setFrom : Nat → List AV → Rho → Rho
  | _, [], ρ => ρ
  | i, a :: as, ρ => setFrom (i + 1) as (ρ.set i (some (a, .sh)))
noncomputable def rho0 (n : Nat) (args : List AV) : Rho := setFrom 0 args (List.replicate n none)

noncomputable def cpMd (v : AV) (m : Md) : Md := if frE m v then .ow else .sh

noncomputable def one {α : Type} (vs : List (AV × Md)) (k : AV → Md → Option α) : Option α := match vs with
  | [p] => k p.1 p.2
  | _ => none
theorem one_some {α : Type} {vs : List (AV × Md)} {k : AV → Md → Option α} {r : α} (h : one vs k = some r) : ∃ v m, vs = [(v, m)] ∧ k v m = some r := by
  cases vs with
  | nil => cases h
  | cons p l => cases l with
    | nil => exact ⟨p.1, p.2, rfl, h⟩
    | cons _ _ => cases h
noncomputable def lenV : AV → Option Nat
  | .lst xs => some xs.length
  | .tup xs => some xs.length
  | .str x => some x.length
  | _ => none
noncomputable def seqV : AV → Option (List AV)
  | .lst xs => some xs
  | .tup xs => some xs
  | _ => none
noncomputable def rangeF (vs : List (AV × Md)) : Option (AV × Md) := match vs with
  | p :: l => (match l with
    | [] => (asInt p.1).bind fun n => if n.natAbs < 2 ^ 62 then some (.rng 0 n, .fr) else none
    | q :: l => onlyIf l.isEmpty (i2 p.1 q.1 fun a b => if a.natAbs < 2 ^ 62 ∧ b.natAbs < 2 ^ 62 then some (.rng a b, .fr) else none))
  | [] => none
noncomputable def tabF : List (Str × (List (AV × Md) → Option (AV × Md))) → Str → List (AV × Md) → Option (AV × Md)
  | [], _, _ => none
  | p :: r, f, vs => if f = p.1 then p.2 vs else tabF r f vs
noncomputable def lenB (vs : List (AV × Md)) : Option (AV × Md) := one vs fun v _ => (lenV v).map fun n => (.int n, .fr)
noncomputable def listB (vs : List (AV × Md)) : Option (AV × Md) := one vs fun v m => (seqV v).map fun xs => (.lst xs, cpMd v m)
noncomputable def tupB (vs : List (AV × Md)) : Option (AV × Md) := one vs fun v m => (seqV v).map fun xs => (.tup xs, if frE m v then .fr else .sh)
noncomputable def bis4 : List (Str × (List (AV × Md) → Option (AV × Md))) := [(B "len", lenB), (B "range", rangeF), (B "list", listB), (B "tuple", tupB)]
noncomputable def allB (vs : List (AV × Md)) : Option (AV × Md) := one vs fun v _ => (asLst v).bind fun xs => (boolsO xs).map fun bs => (.bool (bs.all id), .fr)

section
variable {c : Nat}
theorem cut_cons (x : Nat) (r : List Nat) : cutC c (x :: r) = if x = c then [] :: cutC c r else match cutC c r with
    | p :: ps => (x :: p) :: ps
    | [] => [[x]] := rfl
theorem cut_at : ∀ (p r : List Nat), c ∉ p → cutC c (p ++ c :: r) = p :: cutC c r
  | [], r, _ => by rw [List.nil_append, cut_cons, if_pos rfl]
  | x :: p, r, h => by
    rw [List.cons_append, cut_cons, if_neg (fun (z : x = c) => h (z ▸ .head _)), cut_at p r fun z => h (.tail _ z)]
theorem cut_free : ∀ (p : List Nat), c ∉ p → cutC c p = [p]
  | [], _ => rfl
  | x :: p, h => by rw [cut_cons, if_neg (fun (z : x = c) => h (z ▸ .head _)), cut_free p fun z => h (.tail _ z)]
theorem glue_cons (y p q : List Nat) (r : List (List Nat)) : glue y (p :: q :: r) = p ++ y ++ glue y (q :: r) := rfl
theorem cut_glue : ∀ (ps : List (List Nat)), ps ≠ [] → (∀ p ∈ ps, c ∉ p) → cutC c (glue [c] ps) = ps
  | [], h, _ => absurd rfl h
  | [p], _, h => cut_free p (h p (.head _))
  | p :: q :: r, _, h => by
    rw [glue_cons, List.append_assoc, List.singleton_append, cut_at p _ (h p (.head _)), cut_glue (q :: r) nofun fun z hz => h z (.tail _ hz)]
end
noncomputable def valC (l : List Nat) : Nat := l.foldl (fun a c => a * 10 + (c - 48)) 0
noncomputable def intB (vs : List (AV × Md)) : Option (AV × Md) := one vs fun v _ => match v with
  | .bool b => some (.int (if b then 1 else 0), .fr)
  | .str x => if 0 < x.length ∧ x.length ≤ 9 ∧ (sgs x).all (fun c => decide (48 ≤ c ∧ c ≤ 57)) = true then some (.int (valC (sgs x)), .fr) else none
  | _ => none
noncomputable def strB (vs : List (AV × Md)) : Option (AV × Md) := one vs fun v _ => match v with
  | .int i => if 0 ≤ i ∧ i < 100000 then some (.str (numT i), .fr) else none
  | _ => none

end Mine

namespace Mine
open PySem PyProof.Rows

noncomputable def itCls : Value → Bool
  | .type n => n == "list_iterator" || n == "tuple_iterator" || n == "range_iterator" || n == "str_iterator" || n == "str_ascii_iterator"
  | _ => false
structure Gd where
  prog : Program
  w : World
  base : Heap
  gens : Array GenState
  os : OsState
  mg : Str → Option Value
  mb : Str → Option Value
  cls : Str → Option Value
  clsNe : ∀ c v, cls c = some v → v ≠ .type "frame"
  clsIt : ∀ c v, cls c = some v → itCls v = false
  g : base.Ns mainGlobals mg
  b : base.Ns builtinsNs mb
  nolimit : base.NoLimit
  blt : ∀ x : Str, x ≠ "__name__" → mb x = bootBuiltins x
  sys : ∃ a o, base.get? a = some o ∧ sysModules ≤ a
  nodigits : ∃ mc, base.Ns cStatics mc ∧ mc "sys.int_max_str_digits" = none

structure Kp (bs : Heap) (h h' : Heap) : Prop where
  kp : ∀ b o, h.get? b = some o → (o.cls ≠ .type "frame" ∨ (bs.get? b).isSome = true → h'.get? b = some o) ∧ ((∀ vs, o.data ≠ .fields vs) → ∃ sl, h'.get? b = some { o with slots := sl }) ∧ ∃ o', h'.get? b = some o'

theorem Kp.refl (bs : Heap) (h : Heap) : Kp bs h h := ⟨fun _ o e => ⟨fun _ => e, fun _ => ⟨o.slots, e⟩, o, e⟩⟩
theorem Kp.trans {bs : Heap} {h₁ h₂ h₃ : Heap} (x : Kp bs h₁ h₂) (y : Kp bs h₂ h₃) : Kp bs h₁ h₃ :=
  ⟨fun b o e => ⟨fun n => (y.kp b o ((x.kp b o e).1 n)).1 n, fun d => by
    obtain ⟨sl, e₁⟩ := (x.kp b o e).2.1 d
    obtain ⟨sl', e₂⟩ := (y.kp b _ e₁).2.1 d
    exact ⟨sl', e₂⟩, by
    obtain ⟨o', e₁⟩ := (x.kp b o e).2.2
    exact (y.kp b _ e₁).2.2⟩⟩
theorem Kp.of_keeps {bs : Heap} {h h' : Heap} (k : ∀ b o, h.get? b = some o → h'.get? b = some o) : Kp bs h h' :=
  ⟨fun b o e => ⟨fun _ => k b o e, fun _ => ⟨o.slots, k b o e⟩, o, k b o e⟩⟩
theorem Kp.push {bs : Heap} (h : Heap) (o : Obj) : Kp bs h (h.push o) := Kp.of_keeps fun _ _ e => Heap.get?_push_of_some o e
theorem Kp.exact {bs h h' : Heap} (x : Kp bs h h') {b : Addr} {o : Obj} (e : h.get? b = some o) (n : o.cls ≠ .type "frame") : h'.get? b = some o := (x.kp b o e).1 (.inl n)

theorem Kp.isList {bs : Heap} {h h' : Heap} {a : Addr} {items} (x : Kp bs h h') (l : h.IsList a items) : h'.IsList a items := by
  obtain ⟨o, ho, hc, r⟩ := l
  exact ⟨o, x.exact ho (by rw [hc]; decide), hc, r⟩
theorem Kp.plain {bs : Heap} {h h' : Heap} {a : Addr} {items} (x : Kp bs h h') (l : h.PlainList a items) : h'.PlainList a items := l.at fun o e => by
  obtain ⟨n, e'⟩ := l
  rw [e] at e'; cases e'
  exact x.exact e (show Value.type "list" ≠ .type "frame" by decide)
theorem Kp.isTup {bs : Heap} {h h' : Heap} {a : Addr} {items} (x : Kp bs h h') (l : IsTup h a items) : IsTup h' a items := by
  obtain ⟨o, ho, hc, r⟩ := l
  exact ⟨o, x.exact ho (by rw [hc]; decide), hc, r⟩
theorem Kp.ns {bs : Heap} {h h' : Heap} {a : Addr} {m} (x : Kp bs h h') (l : h.Ns a m) : h'.Ns a m := by
  obtain ⟨o, es, ep, ho, hd, r⟩ := l
  obtain ⟨sl, e⟩ := (x.kp a o ho).2.1 (fun vs q => by rw [hd] at q; cases q)
  exact ⟨_, es, ep, e, hd, r⟩
theorem Kp.isCell {bs : Heap} {h h' : Heap} {a : Addr} {v} (x : Kp bs h h') (l : h.IsCell a v) : h'.IsCell a v := by
  obtain ⟨o, ho, hd⟩ := l
  obtain ⟨sl, e⟩ := (x.kp a o ho).2.1 (fun vs q => by rw [hd] at q; cases q)
  exact ⟨_, e, hd⟩

noncomputable def IsDic (G : Gd) (h : Heap) (a : Addr) (ks : List AV) (vs : List Value) : Prop := (a == sysModules) = false ∧ (
  (∃ kvs : List (Int × Value), ks = kvs.map (fun p => .int p.1) ∧ vs = kvs.map (·.2) ∧ h.DictOf (intKind G.prog G.w) a kvs) ∨
  (∃ kvs : List (Str × Value), ks = kvs.map (fun p => .str p.1) ∧ vs = kvs.map (·.2) ∧ h.DictOf (PySem.strKind G.prog G.w) a kvs))

noncomputable def IsRng (h : Heap) (a : Addr) (lo hi : Int) : Prop :=
  lo.natAbs < 2 ^ 62 ∧ hi.natAbs < 2 ^ 62 ∧ ∃ t u v, IsRange h a lo hi 1 t u v

noncomputable def LsAt (G : Gd) (h : Heap) (a : Addr) (items : Array Value) : Prop := h.IsList a items ∧ (G.base.get? a = none → h.PlainList a items)
theorem LsAt.of {G : Gd} {h : Heap} {a : Addr} {items : Array Value} (l : h.PlainList a items) : LsAt G h a items := ⟨l.isList, fun _ => l⟩
theorem Kp.lsAt {G : Gd} {bs : Heap} {h h' : Heap} {a : Addr} {items} (x : Kp bs h h') (l : LsAt G h a items) : LsAt G h' a items := ⟨x.isList l.1, fun n => x.plain (l.2 n)⟩
inductive TupAt (h : Heap) (n : Nat) (P : List Value → Prop) (v : Value) : Prop
  | mk (z : n ≤ top) (a : Addr) (vs : List Value) (e : v = .ref a) (t : IsTup h a vs.toArray) (r : P vs) : TupAt h n P v
inductive LstAt (G : Gd) (S : Addr → Prop) (h : Heap) (n : Nat) (P : List Value → Prop) (v : Value) : Prop
  | mk (z : n ≤ top) (a : Addr) (vs : List Value) (e : v = .ref a) (s : ¬ S a) (t : LsAt G h a vs.toArray) (r : P vs) : LstAt G S h n P v
inductive DicAt (G : Gd) (S : Addr → Prop) (h : Heap) (ks : List AV) (P : List Value → Prop) (v : Value) : Prop
  | mk (z : ks.length ≤ top) (a : Addr) (vs : List Value) (e : v = .ref a) (s : ¬ S a) (t : IsDic G h a ks vs) (r : P vs) : DicAt G S h ks P v
inductive ExcAt (G : Gd) (h : Heap) (c : Str) (v : Value) : Prop
  | mk (a : Addr) (o : Obj) (e : v = .ref a) (ho : h.get? a = some o) (hc : G.cls c = some o.cls) (hn : o.dict = none) (vs : Array Value) (hd : o.data = .fields vs) : ExcAt G h c v
mutual
noncomputable def VR (G : Gd) (S : Addr → Prop) (h : Heap) : AV → Value → Prop
  | .none, v => v = .none
  | .bool b, v => v = .bool b
  | .int i, v => ∃ t, v = .int i t
  | .str x, v => x.length ≤ top ∧ PyData.strOk x = true ∧ ∃ t, v = .str x t
  | .tup xs, v => TupAt h xs.length (fun vs => VRs G S h xs vs) v
  | .lst xs, v => LstAt G S h xs.length (fun vs => VRs G S h xs vs) v
  | .dic ks ws, v => DicAt G S h ks (fun vs => VRs G S h ws vs) v
  | .rng lo hi, v => ∃ a, v = .ref a ∧ IsRng h a lo hi
  | .exc c, v => ExcAt G h c v
  | .setn _, v => ∃ a, v = .ref a
  | .opq, v => ∃ a o, v = .ref a ∧ ¬ S a ∧ h.get? a = some o ∧ o.cls ≠ .type "frame" ∧ itCls o.cls = false
noncomputable def VRs (G : Gd) (S : Addr → Prop) (h : Heap) : List AV → List Value → Prop
  | [], [] => True
  | x :: xs, v :: vs => VR G S h x v ∧ VRs G S h xs vs
  | _, _ => False
end

end Mine

namespace Mine
open PySem PyProof.Rows

theorem DictOf.kp {prog : Program} {w : World} {K : Type} [DecidableEq K] {knd : PySem.KeyKind prog w K} {bs h h' : Heap} {a : Addr} {kvs : List (K × Value)} (x : Kp bs h h') (d : h.DictOf knd a kvs) : h'.DictOf knd a kvs := by
  obtain ⟨o, es, ep, ho, hc, r⟩ := d
  exact ⟨o, es, ep, x.exact ho (by rw [hc.1]; decide), hc, r⟩
theorem Kp.isDic {G : Gd} {bs h h' : Heap} {a : Addr} {ks vs} (x : Kp bs h h') (l : IsDic G h a ks vs) : IsDic G h' a ks vs := by
  obtain ⟨q, ⟨kvs, a, b, c⟩ | ⟨kvs, a, b, c⟩⟩ := l
  · exact ⟨q, .inl ⟨kvs, a, b, DictOf.kp x c⟩⟩
  · exact ⟨q, .inr ⟨kvs, a, b, DictOf.kp x c⟩⟩
theorem IsDic.there {G : Gd} {h : Heap} {a : Addr} {ks vs} (l : IsDic G h a ks vs) : ∃ o, h.get? a = some o := by
  obtain ⟨q, ⟨kvs, a, b, o, es, ep, ho, _⟩ | ⟨kvs, a, b, o, es, ep, ho, _⟩⟩ := l
  · exact ⟨o, ho⟩
  · exact ⟨o, ho⟩
theorem Kp.isRng {bs : Heap} {h h' : Heap} {a : Addr} {lo hi} (x : Kp bs h h') (l : IsRng h a lo hi) : IsRng h' a lo hi := by
  obtain ⟨z1, z2, t, u, v, ho⟩ := l
  exact ⟨z1, z2, t, u, v, x.exact ho (show Value.type "range" ≠ Value.type "frame" by decide)⟩

mutual
theorem VR.kp {G : Gd} {bs : Heap} {S : Addr → Prop} {h h' : Heap} (k : Kp bs h h') : ∀ (v : AV) (x : Value), VR G S h v x → VR G S h' v x
  | .none, _, e => e
  | .bool _, _, e => e
  | .int _, _, e => e
  | .str _, _, e => e
  | .tup xs, _, ⟨z, a, vs, e, t, r⟩ => ⟨z, a, vs, e, k.isTup t, VRs.kp k xs vs r⟩
  | .lst xs, _, ⟨z, a, vs, e, s, t, r⟩ => ⟨z, a, vs, e, s, k.lsAt t, VRs.kp k xs vs r⟩
  | .dic _ ws, _, ⟨z, a, es, e, s, t, r⟩ => ⟨z, a, es, e, s, k.isDic t, VRs.kp k ws _ r⟩
  | .rng _ _, _, ⟨a, e, t⟩ => ⟨a, e, k.isRng t⟩
  | .exc _, _, ⟨a, o, e, ho, hc, hn, vs, hd⟩ => ⟨a, o, e, k.exact ho (G.clsNe _ _ hc), hc, hn, vs, hd⟩
  | .setn _, _, e => e
  | .opq, _, ⟨a, o, e, s, ho, n⟩ => ⟨a, o, e, s, k.exact ho n.1, n⟩
theorem VRs.kp {G : Gd} {bs : Heap} {S : Addr → Prop} {h h' : Heap} (k : Kp bs h h') : ∀ (vs : List AV) (xs : List Value), VRs G S h vs xs → VRs G S h' vs xs
  | [], [], e => e
  | v :: vs, x :: xs, ⟨a, b⟩ => ⟨VR.kp k v x a, VRs.kp k vs xs b⟩
end

mutual
theorem VR.off {G : Gd} {S S' : Addr → Prop} {h : Heap} (k : ∀ a, S' a → S a ∨ h.get? a = none) : ∀ (v : AV) (x : Value), VR G S h v x → VR G S' h v x
  | .none, _, e => e
  | .bool _, _, e => e
  | .int _, _, e => e
  | .str _, _, e => e
  | .tup xs, _, ⟨z, a, vs, e, t, r⟩ => ⟨z, a, vs, e, t, VRs.off k xs vs r⟩
  | .lst xs, _, ⟨z, a, vs, e, s, t, r⟩ => ⟨z, a, vs, e, fun q => (k a q).elim s (fun n => by obtain ⟨⟨o, ho, _⟩, _⟩ := t; rw [n] at ho; cases ho), t, VRs.off k xs vs r⟩
  | .dic _ ws, _, ⟨z, a, es, e, s, t, r⟩ => ⟨z, a, es, e, fun q => (k a q).elim s (fun n => by obtain ⟨o, ho⟩ := t.there; rw [n] at ho; cases ho), t, VRs.off k ws _ r⟩
  | .rng _ _, _, e => e
  | .exc _, _, e => e
  | .setn _, _, e => e
  | .opq, _, ⟨a, o, e, s, ho, n⟩ => ⟨a, o, e, fun q => (k a q).elim s (fun n => by rw [n] at ho; cases ho), ho, n⟩
theorem VRs.off {G : Gd} {S S' : Addr → Prop} {h : Heap} (k : ∀ a, S' a → S a ∨ h.get? a = none) : ∀ (vs : List AV) (xs : List Value), VRs G S h vs xs → VRs G S' h vs xs
  | [], [], e => e
  | v :: vs, x :: xs, ⟨a, b⟩ => ⟨VR.off k v x a, VRs.off k vs xs b⟩
end

mutual
theorem VR.lf {G : Gd} {S S' : Addr → Prop} {h : Heap} : ∀ (v : AV) (x : Value), v.lf = true → VR G S h v x → VR G S' h v x
  | .none, _, _, e => e
  | .bool _, _, _, e => e
  | .int _, _, _, e => e
  | .str _, _, _, e => e
  | .tup xs, _, l, ⟨z, a, vs, e, t, r⟩ => ⟨z, a, vs, e, t, VRs.lf xs vs l r⟩
  | .lst xs, _, l, _ => (Bool.false_ne_true l).elim
  | .dic _ ws, _, l, _ => (Bool.false_ne_true l).elim
  | .rng _ _, _, _, e => e
  | .exc _, _, _, e => e
  | .setn _, _, _, e => e
  | .opq, _, l, _ => (Bool.false_ne_true l).elim
theorem VRs.lf {G : Gd} {S S' : Addr → Prop} {h : Heap} : ∀ (vs : List AV) (xs : List Value), AV.lfs vs = true → VRs G S h vs xs → VRs G S' h vs xs
  | [], [], _, e => e
  | v :: vs, x :: xs, l, ⟨a, b⟩ => by
    have l := Bool.and_eq_true_iff.mp (show (v.lf && AV.lfs vs) = true from l)
    exact ⟨VR.lf v x l.1 a, VRs.lf vs xs l.2 b⟩
end


theorem VRs.length {G : Gd} {S : Addr → Prop} {h : Heap} : ∀ {vs : List AV} {xs : List Value}, VRs G S h vs xs → vs.length = xs.length
  | [], [], _ => rfl
  | _ :: _, _ :: _, ⟨_, b⟩ => by simp [VRs.length b]
theorem VRs.get {G : Gd} {S : Addr → Prop} {h : Heap} : ∀ {vs : List AV} {xs : List Value} {i : Nat} {v : AV}, VRs G S h vs xs → vs[i]? = some v → ∃ x, xs[i]? = some x ∧ VR G S h v x
  | [], _, _, _, _, e => by simp at e
  | _ :: _, [], _, _, e, _ => e.elim
  | v :: _, x :: _, 0, _, ⟨a, _⟩, e => by cases e; exact ⟨x, rfl, a⟩
  | _ :: vs, _ :: xs, i + 1, _, ⟨_, b⟩, e => by simpa using VRs.get (i := i) b (by simpa using e)
theorem VRs.getV {G : Gd} {S : Addr → Prop} {h : Heap} : ∀ {vs : List AV} {xs : List Value} {i : Nat} {x : Value}, VRs G S h vs xs → xs[i]? = some x → ∃ v, vs[i]? = some v ∧ VR G S h v x
  | [], [], _, _, _, e => by simp at e
  | [], _ :: _, _, _, e, _ => e.elim
  | _ :: _, [], _, _, e, _ => e.elim
  | v :: _, x :: _, 0, _, ⟨a, _⟩, e => by cases e; exact ⟨v, rfl, a⟩
  | _ :: vs, _ :: xs, i + 1, _, ⟨_, b⟩, e => by simpa using VRs.getV (i := i) b (by simpa using e)
theorem VRs.append {G : Gd} {S : Addr → Prop} {h : Heap} : ∀ {vs ws : List AV} {xs ys : List Value}, VRs G S h vs xs → VRs G S h ws ys → VRs G S h (vs ++ ws) (xs ++ ys)
  | [], _, [], _, _, b => b
  | _ :: _, _, _ :: _, _, ⟨a, r⟩, b => ⟨a, VRs.append r b⟩
theorem VRs.take {G : Gd} {S : Addr → Prop} {h : Heap} : ∀ {vs : List AV} {xs : List Value} (n : Nat), VRs G S h vs xs → VRs G S h (vs.take n) (xs.take n)
  | _, _, 0, _ => True.intro
  | [], [], _ + 1, _ => True.intro
  | _ :: _, _ :: _, n + 1, ⟨a, r⟩ => ⟨a, VRs.take n r⟩
theorem VRs.drop {G : Gd} {S : Addr → Prop} {h : Heap} : ∀ {vs : List AV} {xs : List Value} (n : Nat), VRs G S h vs xs → VRs G S h (vs.drop n) (xs.drop n)
  | _, _, 0, r => r
  | [], [], _ + 1, _ => True.intro
  | _ :: _, _ :: _, n + 1, ⟨_, r⟩ => VRs.drop n r
theorem VRs.set {G : Gd} {S : Addr → Prop} {h : Heap} {v : AV} {x : Value} (q : VR G S h v x) : ∀ {vs : List AV} {xs : List Value} (n : Nat), VRs G S h vs xs → VRs G S h (vs.set n v) (xs.set n x) := by
  intro vs
  induction vs with
  | nil =>
    intro xs n r
    cases xs with
    | nil => exact r
    | cons _ _ => exact r.elim
  | cons a vs ih =>
    intro xs n r
    cases xs with
    | nil => exact r.elim
    | cons y xs => cases n with
      | zero => exact ⟨q, r.2⟩
      | succ n => exact ⟨r.1, ih n r.2⟩

end Mine

namespace Mine
open PySem PyProof.Rows

structure Cx where
  A : Around
  env : Env
  fr : List Env
  h0 : Heap
  Γ : List (Option Str)
  bad : Addr → Prop
  d : Nat


structure Cx.Ok (G : Gd) (cx : Cx) : Prop where
  bsz : Kp G.base G.base cx.h0
  badGe : ∀ a, cx.bad a → cx.h0.get? a = none
  frames : cx.A.frames = some cx.fr
  kind : cx.env.scope.kind = .function
  glob : cx.env.globals = mainGlobals
  blt : cx.env.builtins = builtinsNs
  room : cx.A.depth + cx.d < recursionLimit
  units : cx.A.units + 10 * cx.d + 20 < cLine
  names : ∀ (i j : Nat) (x : Str), cx.Γ[i]? = some (some x) → cx.Γ[j]? = some (some x) → i = j
  badL : cx.bad cx.env.locals
  top : ∃ env0 outer L, cx.fr = env0 :: outer ∧ env0.frame = some L ∧ cx.env.frame = some L

noncomputable def VarAt (env : Env) (h : Heap) (x : Str) (ov : Option Value) : Prop := match env.kindOf x with
  | some .local => ∃ m, h.Ns env.locals m ∧ m x = ov
  | some .cell => ∃ c, env.cells.lookup x = some c ∧ h.IsCell c ov
  | some .free => ∃ c, env.cells.lookup x = some c ∧ h.IsCell c ov
  | _ => True

noncomputable abbrev Vals := List (Option Value)
noncomputable def Own (m : Sm) (x : Option (Option Value)) (r : Addr) : Prop := match m with
  | .mu => x = some (some (Value.ref r))
  | _ => False
theorem own_no {m : Sm} {x : Option (Option Value)} {r : Addr} (h : slotMd m ≠ .bo) (o : Own m x r) : False := by
  cases m <;> first | exact o | exact h rfl
theorem own_any {m : Sm} {x : Option (Option Value)} {r : Addr} (o : Own m none r) : Own m x r := by
  cases m <;> first | exact o | exact nomatch (show (none : Option (Option Value)) = some (some (Value.ref r)) from o)
noncomputable def Mu (ρ : Rho) (vals : Vals) (r : Addr) : Prop := ∃ (i : Nat) (v : AV) (m : Sm), ρ[i]? = some (some (v, m)) ∧ Own m vals[i]? r
noncomputable def sS (cx : Cx) (ρ : Rho) (vals : Vals) : Addr → Prop := fun a => Mu ρ vals a ∨ cx.bad a
noncomputable def fS (cx : Cx) (ρ : Rho) (vals : Vals) : Addr → Prop := fun a => Mu ρ vals a ∨ cx.bad a ∨ (cx.h0.get? a).isSome = true

noncomputable def Root (G : Gd) (S : Addr → Prop) (h : Heap) (v : AV) (r : Addr) : Prop := match v with
  | .lst xs => xs.length ≤ top ∧ ∃ vs, h.PlainList r vs.toArray ∧ VRs G S h xs vs
  | .dic ks ws => ks.length ≤ top ∧ ∃ vs, IsDic G h r ks vs ∧ VRs G S h ws vs
  | _ => False

noncomputable def RootK (G : Gd) (h : Heap) (r : Addr) : Prop := (∃ arr, h.PlainList r arr) ∨ ∃ ks vs, IsDic G h r ks vs
inductive RtM (G : Gd) (h0 : Heap) (bad S : Addr → Prop) (h : Heap) (v : AV) (x : Value) : Prop
  | mk (r : Addr) (e : x = .ref r) (n : h0.get? r = Option.none) (b : ¬ bad r) (R : Root G S h v r) : RtM G h0 bad S h v x
inductive RtO (G : Gd) (S : Addr → Prop) (pre h : Heap) (v : AV) (x : Value) : Prop
  | mk (r : Addr) (e : x = .ref r) (n : pre.get? r = Option.none) (R : Root G (fun a => S a ∨ a = r) h v r) : RtO G S pre h v x
inductive RtB (G : Gd) (h0 : Heap) (S : Addr → Prop) (h : Heap) (v : AV) (x : Value) : Prop
  | mk (r : Addr) (e : x = .ref r) (n : h0.get? r = Option.none) (R : Root G S h v r) : RtB G h0 S h v x
noncomputable def SV (G : Gd) (cx : Cx) (ρ : Rho) (vals : Vals) (h : Heap) (m : Sm) (v : AV) (x : Value) : Prop := match m with
  | .sh => VR G (sS cx ρ vals) h v x
  | .fr => VR G (fS cx ρ vals) h v x
  | .mu => RtM G cx.h0 cx.bad (fS cx ρ vals) h v x

noncomputable def FsOk (h : Heap) (l : List Env) : Prop := ∀ b ∈ l.filterMap (·.frame), ∃ o, h.get? b = Option.some o ∧ o.cls = .type "frame" ∧ ∀ vs, o.data ≠ .fields vs

inductive Bnd (vals : Vals) (i : Nat) (P : Value → Prop) : Prop
  | mk (x : Value) (e : vals[i]? = some (some x)) (q : P x) : Bnd vals i P
structure St (G : Gd) (cx : Cx) (ρ : Rho) (vals : Vals) (s : Shared) : Prop where
  stays : G.base.StaysIn s.heap
  frames : s.heap.FunFrames G.base cx.fr
  fsok : FsOk s.heap cx.fr
  ent : Kp G.base cx.h0 s.heap
  gens : s.gens = G.gens
  os : s.os = G.os
  len : ρ.length = cx.Γ.length
  lenv : vals.length = cx.Γ.length
  vars : ∀ (i : Nat) (x : Str), cx.Γ[i]? = some (some x) → VarAt cx.env s.heap x (vals[i]?.join)
  unb : ∀ (i : Nat), ρ[i]? = some none → True
  bnd : ∀ (i : Nat) (v : AV) (m : Sm), ρ[i]? = some (some (v, m)) → Bnd vals i (SV G cx ρ vals s.heap m v)
  inj : ∀ (i j : Nat) (v w : AV) (m n : Sm) (r : Addr), ρ[i]? = some (some (v, m)) → Own m vals[i]? r → ρ[j]? = some (some (w, n)) → Own n vals[j]? r → i = j

noncomputable def Ext (G : Gd) (s s' : Shared) : Prop := Kp G.base s.heap s'.heap ∧ s'.gens = s.gens ∧ s'.os = s.os
theorem Ext.refl (G : Gd) (s : Shared) : Ext G s s := ⟨.refl .., rfl, rfl⟩
theorem Ext.trans {G : Gd} {s₁ s₂ s₃ : Shared} (x : Ext G s₁ s₂) (y : Ext G s₂ s₃) : Ext G s₁ s₃ := ⟨x.1.trans y.1, y.2.1.trans x.2.1, y.2.2.trans x.2.2⟩
theorem Ext.toks (G : Gd) (s : Shared) (t : Nat) : Ext G s { s with toks := t } := ⟨.refl .., rfl, rfl⟩
theorem Ext.heap {G : Gd} {s : Shared} {h' : Heap} {t : Nat} (k : Kp G.base s.heap h') : Ext G s { s with heap := h', toks := t } := ⟨k, rfl, rfl⟩

theorem Root.kp {G : Gd} {bs : Heap} {S : Addr → Prop} {h h' : Heap} {v : AV} {r : Addr} (k : Kp bs h h') (x : Root G S h v r) : Root G S h' v r := by
  cases v <;> try exact x.elim
  · obtain ⟨z, vs, l, q⟩ := x; exact ⟨z, vs, k.plain l, VRs.kp k _ _ q⟩
  · obtain ⟨z, es, l, q⟩ := x; exact ⟨z, es, k.isDic l, VRs.kp k _ _ q⟩
theorem Root.off {G : Gd} {S S' : Addr → Prop} {h : Heap} {v : AV} {r : Addr} (k : ∀ a, S' a → S a ∨ h.get? a = Option.none) (x : Root G S h v r) : Root G S' h v r := by
  cases v <;> try exact x.elim
  · obtain ⟨z, vs, l, q⟩ := x; exact ⟨z, vs, l, VRs.off k _ _ q⟩
  · obtain ⟨z, es, l, q⟩ := x; exact ⟨z, es, l, VRs.off k _ _ q⟩
theorem Root.there {G : Gd} {S : Addr → Prop} {h : Heap} {v : AV} {r : Addr} (x : Root G S h v r) : ∃ o, h.get? r = Option.some o := by
  cases v <;> try exact x.elim
  · obtain ⟨z, vs, ⟨n, ho⟩, q⟩ := x; exact ⟨_, ho⟩
  · obtain ⟨z, es, l, q⟩ := x; exact l.there
theorem Root.vr {G : Gd} {S : Addr → Prop} {h : Heap} {v : AV} {r : Addr} (x : Root G S h v r) (n : ¬ S r) : VR G S h v (.ref r) := by
  cases v <;> try exact x.elim
  · obtain ⟨z, vs, l, q⟩ := x; exact ⟨z, r, vs, rfl, n, .of l, q⟩
  · obtain ⟨z, es, l, q⟩ := x; exact ⟨z, r, es, rfl, n, l, q⟩

theorem Root.k {G : Gd} {S : Addr → Prop} {h : Heap} {v : AV} {r : Addr} (x : Root G S h v r) : RootK G h r := by
  cases v <;> try exact x.elim
  · obtain ⟨z, vs, l, q⟩ := x; exact .inl ⟨_, l⟩
  · obtain ⟨z, vs, l, q⟩ := x; exact .inr ⟨_, _, l⟩
theorem RootK.there {G : Gd} {h : Heap} {r : Addr} (x : RootK G h r) : ∃ o, h.get? r = some o := by
  rcases x with ⟨arr, n, e⟩ | ⟨ks, vs, l⟩
  · exact ⟨_, e⟩
  · exact l.there
theorem SV.kp {G : Gd} {cx : Cx} {ρ : Rho} {vals : Vals} {bs : Heap} {h h' : Heap} {m : Sm} {v : AV} {x : Value} (k : Kp bs h h') (q : SV G cx ρ vals h m v x) : SV G cx ρ vals h' m v x := by
  cases m
  · exact VR.kp k _ _ q
  · exact VR.kp k _ _ q
  · obtain ⟨r, a, b, c, d⟩ := q; exact ⟨r, a, b, c, d.kp k⟩
theorem SV.own {G : Gd} {cx : Cx} {ρ : Rho} {vals : Vals} {h : Heap} {m : Sm} {v : AV} {x : Value} {r : Addr} (q : SV G cx ρ vals h m v x) (o : Own m (some (some x)) r) : cx.h0.get? r = none ∧ ¬ cx.bad r ∧ RootK G h r := by
  cases m
  · exact o.elim
  · exact o.elim
  · obtain ⟨r', a, b, c, d⟩ := q
    have o : some (some x) = some (some (Value.ref r)) := o
    cases o; cases a
    exact ⟨b, c, d.k⟩

theorem Kp.varAt {bs : Heap} {h h' : Heap} {env : Env} {x : Str} {ov : Option Value} (k : Kp bs h h') (q : VarAt env h x ov) : VarAt env h' x ov := by
  unfold VarAt at *
  split at q
  · obtain ⟨m, a, b⟩ := q; exact ⟨m, k.ns a, b⟩
  · obtain ⟨m, a, b⟩ := q; exact ⟨m, a, k.isCell b⟩
  · obtain ⟨m, a, b⟩ := q; exact ⟨m, a, k.isCell b⟩
  · trivial

theorem Kp.funFrames {bs : Heap} {h h' base : Heap} {l : List Env} (k : Kp bs h h') (f : h.FunFrames base l) : h'.FunFrames base l :=
  f.of_keeps fun b o e n => by obtain ⟨sl, e'⟩ := (k.kp b o e).2.1 n; exact ⟨_, e', rfl⟩
theorem Kp.stays {G : Gd} {h h' : Heap} (k : Kp G.base h h') (b : G.base.StaysIn h) : G.base.StaysIn h' := fun a o e =>
  (k.kp a o (b a o e)).1 (.inr (by rw [e]; rfl))
theorem Kp.fsOk {bs h h' : Heap} {l : List Env} (k : Kp bs h h') (f : FsOk h l) : FsOk h' l := fun b m => by
  obtain ⟨o, e, c, d⟩ := f b m
  obtain ⟨sl, e'⟩ := (k.kp b o e).2.1 d
  exact ⟨_, e', c, d⟩

theorem St.ext {G : Gd} {cx : Cx} {ρ : Rho} {vals : Vals} {s s' : Shared} (x : St G cx ρ vals s) (k : Ext G s s') : St G cx ρ vals s' where
  stays := k.1.stays x.stays
  frames := k.1.funFrames x.frames
  fsok := k.1.fsOk x.fsok
  ent := x.ent.trans k.1
  gens := k.2.1.trans x.gens
  os := k.2.2.trans x.os
  len := x.len
  lenv := x.lenv
  vars := fun i y e => k.1.varAt (x.vars i y e)
  unb := x.unb
  bnd := fun i v m e => by obtain ⟨y, a, b⟩ := x.bnd i v m e; exact ⟨y, a, b.kp k.1⟩
  inj := x.inj

noncomputable def VM (G : Gd) (cx : Cx) (ρ : Rho) (vals : Vals) (pre h : Heap) (m : Md) (v : AV) (x : Value) : Prop := match m with
  | .sh => VR G (sS cx ρ vals) h v x
  | .fr => VR G (fS cx ρ vals) h v x
  | .ow => RtO G (fS cx ρ vals) pre h v x
  | .bo => RtB G cx.h0 (fS cx ρ vals) h v x

theorem VM.kp {G : Gd} {cx : Cx} {ρ : Rho} {vals : Vals} {bs : Heap} {pre h h' : Heap} {m : Md} {v : AV} {x : Value} (k : Kp bs h h') (q : VM G cx ρ vals pre h m v x) : VM G cx ρ vals pre h' m v x := by
  cases m
  · exact VR.kp k _ _ q
  · exact VR.kp k _ _ q
  · obtain ⟨r, a, b, c⟩ := q; exact ⟨r, a, b, c.kp k⟩
  · obtain ⟨r, a, b, c⟩ := q; exact ⟨r, a, b, c.kp k⟩
theorem VM.pre {G : Gd} {cx : Cx} {ρ : Rho} {vals : Vals} {pre pre' h : Heap} {m : Md} {v : AV} {x : Value} (k : ∀ b o, pre'.get? b = some o → ∃ o', pre.get? b = some o') (q : VM G cx ρ vals pre h m v x) : VM G cx ρ vals pre' h m v x := by
  cases m
  · exact q
  · exact q
  · obtain ⟨r, a, b, c⟩ := q; exact ⟨r, a, (by cases e : pre'.get? r with | none => rfl | some o => obtain ⟨o', e'⟩ := k r o e; rw [b] at e'; cases e'), c⟩
  · exact q

theorem get?_none_of_ge {h : Heap} {a : Addr} (e : h.objs.size ≤ a) : h.get? a = Option.none := by
  cases q : h.get? a with
  | none => rfl
  | some o => exact absurd (Heap.lt_size q) (Nat.not_lt.mpr e)

section
variable {G : Gd} {cx : Cx} {ρ : Rho} {vals : Vals} {s : Shared}
theorem St.mu_there (x : St G cx ρ vals s) {r : Addr} (q : Mu ρ vals r) : ∃ o, s.heap.get? r = Option.some o := by
  obtain ⟨i, v, m, a, b⟩ := q
  obtain ⟨y, c, d⟩ := x.bnd i v m a
  rw [c] at b
  exact (d.own b).2.2.there
end

theorem ex_none {h : Heap} {a : Addr} (e : ∃ o, h.get? a = some o) (n : h.get? a = Option.none) : False := by obtain ⟨o, e⟩ := e; rw [n] at e; cases e
theorem St.ent_there {G : Gd} {cx : Cx} {ρ : Rho} {vals : Vals} {s : Shared} (x : St G cx ρ vals s) {r : Addr} (q : (cx.h0.get? r).isSome = true) : ∃ o, s.heap.get? r = some o := by
  obtain ⟨o, e⟩ := Option.isSome_iff_exists.mp q
  exact (x.ent.kp r o e).2.2
noncomputable def BadLt (cx : Cx) (s : Shared) : Prop := ∀ a, cx.bad a → ∃ o, s.heap.get? a = some o
theorem BadLt.ext {G : Gd} {cx : Cx} {s s' : Shared} (b : BadLt cx s) (k : Ext G s s') : BadLt cx s' := fun a q => let ⟨o, e⟩ := b a q; (k.1.kp a o e).2.2

section
variable {G : Gd} {cx : Cx} {ρ : Rho} {vals : Vals} {s : Shared} {h : Heap} {m : Md} {v : AV} {x : Value}
theorem VM.sh (S : St G cx ρ vals s) (B : BadLt cx s) (hm : m ≠ .bo) (q : VM G cx ρ vals s.heap h m v x) : VR G (sS cx ρ vals) h v x := by
  cases m
  · exact q
  · exact VR.off (fun a e => .inl (e.elim .inl fun y => .inr (.inl y))) _ _ q
  · obtain ⟨r, rfl, b, c⟩ := q
    have c' : Root G (sS cx ρ vals) h v r := c.off fun a e => .inl (.inl (e.elim .inl fun y => .inr (.inl y)))
    exact c'.vr fun e => e.elim (fun y => ex_none (S.mu_there y) b) fun y => ex_none (B r y) b
  · exact absurd rfl hm
theorem VM.fr (S : St G cx ρ vals s) (B : BadLt cx s) (h1 : m ≠ .sh) (h2 : m ≠ .bo) (q : VM G cx ρ vals s.heap h m v x) : VR G (fS cx ρ vals) h v x := by
  cases m
  · exact absurd rfl h1
  · exact q
  · obtain ⟨r, rfl, b, c⟩ := q
    have c' : Root G (fS cx ρ vals) h v r := c.off fun a e => .inl (.inl e)
    exact c'.vr fun e => e.elim (fun y => ex_none (S.mu_there y) b) fun y => y.elim (fun y => ex_none (B r y) b) fun y => ex_none (S.ent_there y) b
  · exact absurd rfl h2
theorem VM.read (q : VM G cx ρ vals s.heap h m v x) : VR G (fun _ => False) h v x := by
  cases m
  · exact VR.off (fun _ e => e.elim) _ _ q
  · exact VR.off (fun _ e => e.elim) _ _ q
  · obtain ⟨r, rfl, b, c⟩ := q
    have c' : Root G (fun _ => False) h v r := c.off fun a e => e.elim
    exact c'.vr fun e => e
  · obtain ⟨r, rfl, b, c⟩ := q
    have c' : Root G (fun _ => False) h v r := c.off fun a e => e.elim
    exact c'.vr fun e => e
theorem VM.okF (S : St G cx ρ vals s) (B : BadLt cx s) (k : Mine.okF m v = true) (q : VM G cx ρ vals s.heap h m v x) : VR G (fS cx ρ vals) h v x := by
  by_cases e : m = .fr ∨ m = .ow
  · exact q.fr S B (by rcases e with rfl | rfl <;> nofun) (by rcases e with rfl | rfl <;> nofun)
  · have l : v.lf = true := by
      cases m <;> simp_all [Mine.okF]
    exact VR.lf _ _ l q.read
end

end Mine

namespace Mine
open PySem PyProof.Rows

section
variable {G : Gd} {cx : Cx} {ρ : Rho} {vals : Vals} {s0 s : Shared}

noncomputable def elS (cx : Cx) (ρ : Rho) (vals : Vals) (m : Md) : Addr → Prop := if m = .sh then sS cx ρ vals else fS cx ρ vals
theorem fS_sS {a : Addr} (e : sS cx ρ vals a) : fS cx ρ vals a := e.elim .inl fun y => .inr (.inl y)

theorem VM.lst {pre h : Heap} {m : Md} {xs : List AV} {x : Value} (q : VM G cx ρ vals pre h m (.lst xs) x) :
    ∃ a vs, x = .ref a ∧ xs.length ≤ top ∧ h.IsList a vs.toArray ∧ VRs G (elS cx ρ vals m) h xs vs := by
  cases m
  · obtain ⟨z, a, vs, e, _, l, r⟩ := q; exact ⟨a, vs, e, z, l.1, r⟩
  · obtain ⟨z, a, vs, e, _, l, r⟩ := q; exact ⟨a, vs, e, z, l.1, r⟩
  · obtain ⟨a, e, _, z, vs, l, r⟩ := q; exact ⟨a, vs, e, z, l.isList, VRs.off (fun _ y => .inl (.inl y)) _ _ r⟩
  · obtain ⟨a, e, _, z, vs, l, r⟩ := q; exact ⟨a, vs, e, z, l.isList, r⟩
theorem VM.tup {pre h : Heap} {m : Md} {xs : List AV} {x : Value} (q : VM G cx ρ vals pre h m (.tup xs) x) :
    ∃ a vs, x = .ref a ∧ xs.length ≤ top ∧ IsTup h a vs.toArray ∧ VRs G (elS cx ρ vals m) h xs vs := by
  cases m
  · obtain ⟨z, a, vs, e, l, r⟩ := q; exact ⟨a, vs, e, z, l, r⟩
  · obtain ⟨z, a, vs, e, l, r⟩ := q; exact ⟨a, vs, e, z, l, r⟩
  · obtain ⟨a, e, _, z⟩ := q; exact z.elim
  · obtain ⟨a, e, _, z⟩ := q; exact z.elim

theorem elS_fr {h : Heap} {m : Md} {xs : List AV} {vs : List Value} {v : AV} (hv : v = .lst xs ∨ v = .tup xs) (k : frE m v = true) (r : VRs G (elS cx ρ vals m) h xs vs) : VRs G (fS cx ρ vals) h xs vs := by
  by_cases e : m = .sh
  · subst e
    have l : AV.lfs xs = true := by rcases hv with rfl | rfl <;> simpa [frE] using k
    exact VRs.lf _ _ l r
  · unfold elS at r; rw [if_neg e] at r; exact r
theorem elS_sh {h : Heap} {m : Md} {xs : List AV} {vs : List Value} (r : VRs G (elS cx ρ vals m) h xs vs) : VRs G (sS cx ρ vals) h xs vs := by
  by_cases e : m = .sh
  · unfold elS at r; rw [if_pos e] at r; exact r
  · unfold elS at r; rw [if_neg e] at r; exact VRs.off (fun _ y => .inl (fS_sS y)) _ _ r

theorem fresh_of {G : Gd} {s0 s : Shared} (E : Ext G s0 s) {r : Addr} (n : s.heap.get? r = none) : s0.heap.get? r = none := by
  cases e : s0.heap.get? r with
  | none => rfl
  | some o => exact (ex_none (E.1.kp r o e).2.2 n).elim
theorem fresh_size {G : Gd} {s0 s : Shared} (E : Ext G s0 s) : s0.heap.get? s.heap.objs.size = none := fresh_of E (get?_none_of_ge (Nat.le_refl _))
theorem not_sS_size (S : St G cx ρ vals s0) (B : BadLt cx s0) {r : Addr} (b : s0.heap.get? r = none) : ¬ sS cx ρ vals r :=
  fun e => e.elim (fun y => ex_none (S.mu_there y) b) fun y => ex_none (B r y) b

theorem VM.newL (S : St G cx ρ vals s0) (B : BadLt cx s0) (E : Ext G s0 s) {xs : List AV} {vs : List Value} {f : Bool} {h' : Heap} (z : xs.length ≤ top)
    (hk : Kp G.base s.heap h') (hl : h'.PlainList s.heap.objs.size vs.toArray)
    (r : if f then VRs G (fS cx ρ vals) s.heap xs vs else VRs G (sS cx ρ vals) s.heap xs vs) :
    VM G cx ρ vals s0.heap h' (if f then .ow else .sh) (.lst xs) (.ref s.heap.objs.size) := by
  cases f
  · simp only [Bool.false_eq_true, if_false] at r ⊢
    exact ⟨z, _, vs, rfl, not_sS_size S B (fresh_size E), .of hl, VRs.kp hk _ _ r⟩
  · simp only [if_true] at r ⊢
    refine ⟨_, rfl, fresh_size E, z, vs, hl, VRs.kp hk _ _ (VRs.off (fun a e => e.elim .inl fun q => .inr ?_) _ _ r)⟩
    rw [q]; exact get?_none_of_ge (Nat.le_refl _)
theorem VM.newT {xs : List AV} {vs : List Value} {f : Bool} {h' : Heap} {a : Addr} (z : xs.length ≤ top)
    (hk : Kp G.base s.heap h') (hl : IsTup h' a vs.toArray)
    (r : if f then VRs G (fS cx ρ vals) s.heap xs vs else VRs G (sS cx ρ vals) s.heap xs vs) :
    VM G cx ρ vals s0.heap h' (if f then .fr else .sh) (.tup xs) (.ref a) := by
  cases f
  · simp only [Bool.false_eq_true, if_false] at r ⊢
    exact ⟨z, a, vs, rfl, hl, VRs.kp hk _ _ r⟩
  · simp only [if_true] at r ⊢
    exact ⟨z, a, vs, rfl, hl, VRs.kp hk _ _ r⟩

theorem top_line : top = sizeLine := by rfl

theorem IntMul_of {a b : Int} (h : a.natAbs < 2 ^ 64 ∨ b.natAbs < 2 ^ 64) : IntMulOk a b := by
  rcases h with h | h
  · exact IntMulOk.of_left (intBits_le h)
  · exact IntMulOk.of_right (intBits_le h)

theorem foldl_append_rep (vs : List Value) : ∀ (n : Nat) (acc : Array Value), List.foldl (fun x1 x2 => x1 ++ x2) acc (List.replicate n vs.toArray) = acc ++ (List.replicate n vs).flatten.toArray
  | 0, acc => by simp
  | n + 1, acc => by rw [List.replicate_succ, List.foldl_cons, foldl_append_rep vs n]; simp [List.replicate_succ]
theorem rep_array (vs : List Value) (x : Int) : List.foldl (fun x1 x2 => x1 ++ x2) #[] (List.replicate (if vs.toArray.isEmpty = true then 0 else x.toNat) vs.toArray) = (rep vs x).toArray := by
  rw [foldl_append_rep]
  cases vs with
  | nil => simp [rep]
  | cons v vs => simp [rep]
theorem rep_length {α : Type} (vs : List α) (x : Int) : (rep vs x).length = vs.length * x.toNat := by
  unfold rep
  generalize x.toNat = n
  induction n with
  | zero => simp
  | succ n ih => rw [List.replicate_succ, List.flatten_cons, List.length_append, ih, Nat.mul_succ]; (first | lia | omega)
theorem VRs.rep {S : Addr → Prop} {h : Heap} {xs : List AV} {vs : List Value} (r : VRs G S h xs vs) (x : Int) : VRs G S h (Mine.rep xs x) (Mine.rep vs x) := by
  unfold Mine.rep
  generalize x.toNat = n
  induction n with
  | zero => exact True.intro
  | succ n ih => rw [List.replicate_succ, List.flatten_cons, List.replicate_succ, List.flatten_cons]; exact r.append ih

section
variable {E : Value → Shared → Prop} {A : Around} {x y : Value}
theorem add_list_raw {l b : Addr} {vs ws : List Value} {Q : Value → Shared → Prop} (hl : s.heap.IsList l vs.toArray) (hb : s.heap.IsList b ws.toArray)
    (h : ∀ h', Kp G.base s.heap h' → h'.PlainList s.heap.objs.size (vs ++ ws).toArray → Q (.ref s.heap.objs.size) { s with heap := h' }) (hsz : vs.length + ws.length ≤ sizeLine) :
    wpAny (model G.prog G.w) A (binaryOp .Add (.ref l) (.ref b)) Q E s := by
  obtain ⟨⟨cls, dd, data, sl⟩, ho, hc, n, hd⟩ := id hl
  obtain ⟨⟨cls2, dd2, data2, sl2⟩, ho2, hc2, n2, hd2⟩ := id hb
  simp only at hc hd hc2 hd2
  subst hc hd hc2 hd2
  have e : vs.toArray ++ ws.toArray = (vs ++ ws).toArray := by simp
  refine concat_meets ⟨_, ho, rfl⟩ ⟨_, ho2, rfl⟩ noFill_list_add seq_list_add PySem.F.slot_list_add PySem.F.entry_list_add (PySem.F.args_list_add_2 _ _) (list_addW l b vs.toArray ws.toArray n n2 dd dd2 sl sl2 (by simpa using hsz)) ⟨ho, ho2, ?_⟩
  rw [e]
  exact h _ (Kp.push ..) ⟨_, Heap.get?_push_size _ rfl⟩
theorem mul_list_raw {l : Addr} {vs : List Value} {k : Int} {u : Tok} {Q : Value → Shared → Prop} (hl : s.heap.IsList l vs.toArray) (hk : k.natAbs < 2 ^ 62)
    (h : ∀ h', Kp G.base s.heap h' → h'.PlainList s.heap.objs.size (rep vs k).toArray → Q (.ref s.heap.objs.size) { s with heap := h' }) (hsz : vs.length * k.toNat ≤ top) :
    wpAny (model G.prog G.w) A (binaryOp .Mult (.ref l) (.int k u)) Q E s := by
  obtain ⟨⟨cls, dd, data, sl⟩, ho, hc, n, hd⟩ := id hl
  simp only at hc hd
  subst hc hd
  have z : vs.toArray.size * k.toNat ≤ 16777216 := by simpa using hsz
  refine wpAny_binaryOp_repeat_ref (T := "list") (U := "int") (by decide) ⟨_, ho, rfl⟩ (fun s' => typeIs_int s' k u) noFill_list_mul F.fills_int_mul F.slot_int_rmul repeat_list F.slot_int_index.lookup
    (call_meets F.slot_int_rmul (typeIs_int s k u) F.entry_int_rmul (F.args_int_rmul_2 _ _) (lm_int_rmul_list_any k u l vs.toArray n dd sl)
      ⟨ho, rfl, ⟨_, ho, rfl⟩, call_meets F.slot_list_mul ⟨_, ho, rfl⟩ F.entry_list_mul (F.args_list_mul_2 _ _)
        (lm_list_mul_any l vs.toArray n dd sl k u (by simp [Builtin.List.listFitsIndex]; (first | lia | omega)) (by (first | lia | omega)) (by simp only [Builtin.List.listTooLong, sizeLine]; simp; (first | lia | omega)))
        ⟨ho, ?_⟩⟩)
  rw [rep_array]
  exact h _ (Kp.push ..) ⟨_, Heap.get?_push_size _ rfl⟩
end
end
end Mine

namespace Mine
open PySem PyProof.Rows
end Mine

namespace Mine
open PySem PyProof.Rows

section
variable {G : Gd} {cx : Cx} {ρ : Rho} {vals : Vals} {s0 s : Shared} {E : Value → Shared → Prop} {A : Around} {x y : Value}

theorem strOk_append {a b : Str} (ha : PyData.strOk a = true) (hb : PyData.strOk b = true) : PyData.strOk (a ++ b) = true := by
  unfold PyData.strOk at *
  show (a.cps ++ b.cps).all _ = true
  rw [Array.all_append, ha, hb]; rfl

theorem binop_ok (S : St G cx ρ vals s0) (B : BadLt cx s0) (X : Ext G s0 s) {op : Operator} {a b r : AV} {ma mb : Md} (qa : VM G cx ρ vals s0.heap s.heap ma a x) (qb : VM G cx ρ vals s0.heap s.heap mb b y)
    (e : binop op a b = some r) :
    wpAny (model G.prog G.w) A (binaryOp op x y) (fun v s' => Ext G s s' ∧ VM G cx ρ vals s0.heap s'.heap (binMd op a ma b mb r) r v) E s := by
  have ti : ∀ {v : AV} {m : Md} {h : Heap} {z : Value} {i : Int}, VM G cx ρ vals s0.heap h m v z → v = .int i → ∃ t, z = .int i t := by
    intro v m h z i q hv; subst hv; exact q.read
  have ts : ∀ {v : AV} {m : Md} {h : Heap} {z : Value} {i : Str}, VM G cx ρ vals s0.heap h m v z → v = .str i → i.length ≤ top ∧ PyData.strOk i = true ∧ ∃ t, z = .str i t := by
    intro v m h z i q hv; subst hv; exact q.read
  have tk : ∀ (i : Int) (t : Nat), Ext G s { s with toks := t } ∧ VM G cx ρ vals s0.heap s.heap .fr (.int i) (.int i s.toks) := fun i t => ⟨Ext.toks .., _, rfl⟩
  cases op with
  | Add => cases a with
    | int i =>
      obtain ⟨j, hj, rfl⟩ := Option.map_eq_some_iff.mp e
      cases asInt_some hj
      obtain ⟨t, rfl⟩ := ti qa rfl
      obtain ⟨u, rfl⟩ := ti qb rfl
      exact add_int (tk _ _)
    | str i =>
      obtain ⟨j, hj, e'⟩ := bindI e
      cases asStr_some hj
      obtain ⟨za, ka, t, rfl⟩ := ts qa rfl
      obtain ⟨zb, kb, u, rfl⟩ := ts qb rfl
      split at e' <;> cases e'
      rename_i hsz
      exact add_str (fun t' tk => ⟨Ext.toks .., by rw [Str.length_append]; exact hsz, strOk_append ka kb, _, rfl⟩) hsz
    | lst xs =>
      obtain ⟨ys, hj, e'⟩ := bindI e
      cases asLst_some hj
      obtain ⟨p, vs, rfl, zp, lp, rp⟩ := qa.lst
      obtain ⟨q, ws, rfl, zq, lq, rq⟩ := qb.lst
      split at e' <;> cases e'
      rename_i hsz
      have l1 := rp.length
      have l2 := rq.length
      refine add_list_raw (G := G) lp lq (fun h' hk hl => ⟨Ext.heap (t := s.toks) hk, ?_⟩) (by rw [← l1, ← l2]; exact hsz)
      refine VM.newL S B X (by rw [List.length_append]; exact hsz) hk hl ?_
      split
      · rename_i hf
        rw [Bool.and_eq_true] at hf
        exact (elS_fr (.inl rfl) hf.1 rp).append (elS_fr (.inl rfl) hf.2 rq)
      · exact (elS_sh rp).append (elS_sh rq)
    | _ => cases e
  | Sub =>
    obtain ⟨i, j, rfl, rfl, e'⟩ := i2_some e
    obtain ⟨t, rfl⟩ := ti qa rfl
    obtain ⟨u, rfl⟩ := ti qb rfl
    cases e'
    exact sub_int' (tk _ _)
  | Mult => cases a with
    | int i =>
      obtain ⟨j, hj, e'⟩ := bindI e
      cases asInt_some hj
      obtain ⟨t, rfl⟩ := ti qa rfl
      obtain ⟨u, rfl⟩ := ti qb rfl
      split at e' <;> cases e'
      rename_i h
      exact mul_int (tk _ _) (IntMul_of h)
    | lst xs =>
      obtain ⟨n, hj, e'⟩ := bindI e
      cases asInt_some hj
      obtain ⟨p, vs, rfl, zp, lp, rp⟩ := qa.lst
      obtain ⟨u, rfl⟩ := ti qb rfl
      split at e' <;> cases e'
      rename_i hsz
      have l1 := rp.length
      refine mul_list_raw (G := G) lp hsz.2 (fun h' hk hl => ⟨Ext.heap (t := s.toks) hk, ?_⟩) (by rw [← l1]; exact hsz.1)
      refine VM.newL S B X (by rw [rep_length]; exact hsz.1) hk hl ?_
      split
      · rename_i hf
        exact (elS_fr (.inl rfl) hf rp).rep _
      · exact (elS_sh rp).rep _
    | _ => cases e
  | Mod =>
    obtain ⟨i, j, rfl, rfl, e'⟩ := i2_some e
    obtain ⟨t, rfl⟩ := ti qa rfl
    obtain ⟨u, rfl⟩ := ti qb rfl
    split at e' <;> cases e'
    rename_i h
    exact mod_int' h (tk _ _)
  | FloorDiv =>
    obtain ⟨i, j, rfl, rfl, e'⟩ := i2_some e
    obtain ⟨t, rfl⟩ := ti qa rfl
    obtain ⟨u, rfl⟩ := ti qb rfl
    split at e' <;> cases e'
    rename_i h
    exact floordiv_int h.1 (tk _ _) (.inl (PyProof.noPylong_small h.2))
  | _ => cases e
end
end Mine

namespace Mine
open PySem PyProof.Rows

mutual
noncomputable def toPy : AV → PyData
  | .none => .none
  | .bool b => .bool b
  | .int i => .int i
  | .str s => .str s
  | .tup xs => .tuple (toPys xs)
  | .lst xs => .list (toPys xs)
  | _ => .none
noncomputable def toPys : List AV → List PyData
  | [] => []
  | x :: xs => toPy x :: toPys xs
end

mutual
theorem toPy_reads {G : Gd} {S : Addr → Prop} {h : Heap} : ∀ (n : Nat) (v : AV) (x : Value), dat n v = true → VR G S h v x → (∃ as, Reads h x (toPy v) as) ∧ (toPy v).canLay0 = true ∧ (toPy v).depth ≤ n
  | _, .none, _, _, e => by cases e; exact ⟨⟨_, .none⟩, rfl, Nat.zero_le _⟩
  | _, .bool _, _, _, e => by cases e; exact ⟨⟨_, .bool _⟩, rfl, Nat.zero_le _⟩
  | _, .int _, _, _, e => by obtain ⟨t, rfl⟩ := e; exact ⟨⟨_, .int _ _⟩, rfl, Nat.zero_le _⟩
  | _, .str _, _, _, e => by obtain ⟨_, k, t, rfl⟩ := e; exact ⟨⟨_, .str _ _⟩, k, Nat.zero_le _⟩
  | 0, .tup xs, _, k, _ => (Bool.false_ne_true k).elim
  | n + 1, .tup xs, _, k, e => by
    obtain ⟨_, a, vs, rfl, ⟨o, ho, hc, m, hd⟩, r⟩ := e
    obtain ⟨⟨as, q⟩, c, d⟩ := toPys_reads n xs vs k r
    refine ⟨⟨_, .tuple ho hc hd (by simpa using q)⟩, c, ?_⟩
    exact Nat.succ_le_succ d
  | 0, .lst xs, _, k, _ => (Bool.false_ne_true k).elim
  | n + 1, .lst xs, _, k, e => by
    obtain ⟨_, a, vs, rfl, _, ⟨⟨o, ho, hc, m, hd⟩, _⟩, r⟩ := e
    obtain ⟨⟨as, q⟩, c, d⟩ := toPys_reads n xs vs k r
    refine ⟨⟨_, .list ho hc hd (by simpa using q)⟩, c, ?_⟩
    exact Nat.succ_le_succ d
  | _, .dic _ _, _, k, _ => (Bool.false_ne_true k).elim
  | _, .rng _ _, _, k, _ => (Bool.false_ne_true k).elim
  | _, .exc _, _, k, _ => (Bool.false_ne_true k).elim
  | _, .setn _, _, k, _ => (Bool.false_ne_true k).elim
  | _, .opq, _, k, _ => (Bool.false_ne_true k).elim
theorem toPys_reads {G : Gd} {S : Addr → Prop} {h : Heap} : ∀ (n : Nat) (vs : List AV) (xs : List Value), dats n vs = true → VRs G S h vs xs → (∃ as, ReadsAll h xs (toPys vs) as) ∧ PyData.canLayAll0 (toPys vs) = true ∧ PyData.depthAll (toPys vs) ≤ n
  | _, [], [], _, _ => ⟨⟨_, .nil⟩, rfl, Nat.zero_le _⟩
  | n, v :: vs, x :: xs, k, ⟨a, b⟩ => by
    have k := Bool.and_eq_true_iff.mp (show (dat n v && dats n vs) = true from k)
    obtain ⟨⟨as, q⟩, c, d⟩ := toPy_reads n v x k.1 a
    obtain ⟨⟨bs, q'⟩, c', d'⟩ := toPys_reads n vs xs k.2 b
    refine ⟨⟨_, .cons q q'⟩, by simp [toPys, PyData.canLayAll0, c, c'], ?_⟩
    simp only [toPys, PyData.depthAll]; (first | lia | omega)
  | _, [], _ :: _, _, e => e.elim
  | _, _ :: _, [], _, e => e.elim
end

mutual
theorem eqv_toPy : ∀ (n m : Nat) (a b : AV), dat n a = true → dat m b = true → PyData.eqv (toPy a) (toPy b) = eqq a b
  | n, m, a, b, ha, hb => by
    cases a <;> first
      | exact (Bool.false_ne_true ha).elim
      | (cases b <;> first
        | rfl
        | exact (Bool.false_ne_true hb).elim
        | (rename_i xs ys
           cases n with
           | zero => exact (Bool.false_ne_true ha).elim
           | succ n => cases m with
             | zero => exact (Bool.false_ne_true hb).elim
             | succ m => exact eqvs_toPy n m xs ys ha hb))
theorem eqvs_toPy : ∀ (n m : Nat) (as bs : List AV), dats n as = true → dats m bs = true → PyData.eqvAll (toPys as) (toPys bs) = eqqs as bs
  | _, _, [], [], _, _ => rfl
  | n, m, a :: as, b :: bs, ha, hb => by
    have ha := Bool.and_eq_true_iff.mp (show (dat n a && dats n as) = true from ha)
    have hb := Bool.and_eq_true_iff.mp (show (dat m b && dats m bs) = true from hb)
    show (PyData.eqv (toPy a) (toPy b) && PyData.eqvAll (toPys as) (toPys bs)) = (eqq a b && eqqs as bs)
    rw [eqv_toPy n m a b ha.1 hb.1, eqvs_toPy n m as bs ha.2 hb.2]
  | _, _, [], _ :: _, _, _ => rfl
  | _, _, _ :: _, [], _, _ => rfl
end
theorem any_toPys (n m : Nat) (d : AV) (hd : dat m d = true) : ∀ (xs : List AV), dats n xs = true → (toPys xs).any (fun y => PyData.eqv y (toPy d)) = xs.any fun y => eqq y d
  | [], _ => rfl
  | x :: xs, h => by
    have h := Bool.and_eq_true_iff.mp (show (dat n x && dats n xs) = true from h)
    show (PyData.eqv (toPy x) (toPy d) || (toPys xs).any _) = (eqq x d || xs.any _)
    rw [eqv_toPy n m x d h.1 hd, any_toPys n m d hd xs h.2]

end Mine

namespace Mine
open PySem PyProof.Rows

section
variable {G : Gd} {h : Heap} {a : Addr} {ks : List AV} {vs : List Value}
theorem DictOf.recast {prog : Program} {w : World} {K K' : Type} [DecidableEq K] [DecidableEq K'] {knd : PySem.KeyKind prog w K} (knd' : PySem.KeyKind prog w K') (d : h.DictOf knd a []) : h.DictOf knd' a [] := by
  obtain ⟨o, es, ep, ho, hc, hd, hk, hp, hn⟩ := d
  have : es.toList = [] := by cases q : es.toList with | nil => rfl | cons e r => rw [q] at hp; cases hp
  refine ⟨o, es, ep, ho, hc, hd, fun e he => ?_, by rw [this]; exact .nil, by simp⟩
  have := Array.mem_toList_iff.mpr he
  simp_all
theorem IsDic.strs (d : IsDic G h a ks vs) {i : Str} (k : isKey (.str i) ks = true) : ∃ kvs : List (Str × Value), ks = kvs.map (fun p => .str p.1) ∧ vs = kvs.map (·.2) ∧ h.DictOf (PySem.strKind G.prog G.w) a kvs := by
  obtain ⟨_, ⟨kvs, rfl, rfl, d⟩ | d⟩ := d
  · cases kvs with
    | nil => exact ⟨[], rfl, rfl, DictOf.recast _ d⟩
    | cons p r => simp [isKey] at k
  · exact d
theorem keq_int (i j : Int) : keq (.int i) (.int j) = (i == j) := rfl
theorem keq_str (i j : Str) : keq (.str i) (.str j) = (i == j) := rfl
theorem hasKey_str (i : Str) : ∀ kvs : List (Str × Value), hasKey (.str i) (kvs.map fun p => .str p.1) = (valueAt kvs i).isSome
  | [] => rfl
  | (j, v) :: r => by
    have ih := hasKey_str i r
    simp only [hasKey, List.map_cons, List.any_cons, valueAt, List.find?_cons] at ih ⊢
    by_cases e : j = i
    · simp [e, keq_int, keq_str]
    · have e1 : keq (.str j) (.str i) = false := by simpa [keq_int, keq_str] using e
      simp only [e1, Bool.false_or, e, decide_false]; exact ih
theorem findKey_str {S : Addr → Prop} (i : Str) : ∀ (kvs : List (Str × Value)) (ws : List AV) (v : AV), VRs G S h ws (kvs.map (·.2)) → findKey (.str i) (kvs.map fun p => .str p.1) ws = some v → ∃ x, valueAt kvs i = some x ∧ VR G S h v x
  | [], ws, v, _, e => by cases ws <;> cases e
  | (j, y) :: r, [], v, q, _ => q.elim
  | (j, y) :: r, w :: ws, v, ⟨q, q'⟩, e => by
    have e : (if keq (.str j) (.str i) = true then some w else findKey (.str i) (r.map fun p => .str p.1) ws) = some v := e
    by_cases c : j = i
    · subst c
      simp only [keq_int, keq_str, BEq.rfl, if_true, Option.some.injEq] at e
      subst e
      exact ⟨y, by simp [valueAt], q⟩
    · have e1 : keq (.str j) (.str i) = false := by simpa [keq_int, keq_str] using c
      rw [e1] at e
      obtain ⟨x, a, b⟩ := findKey_str i r ws v q' (by simpa using e)
      exact ⟨x, by simp only [valueAt, List.find?_cons, c, decide_false]; exact a, b⟩
end

section
variable {G : Gd} {s : Shared} {E : Value → Shared → Prop} {A : Around} {x y : Value}

theorem truth_ok {v : AV} {b : Bool} (q : VR G (fun _ => False) s.heap v x) (e : truth v = some b) :
    wpAny (model G.prog G.w) A (truthy x) (fun c s' => c = b ∧ Ext G s s') E s := by
  cases v with
  | bool b => cases e; cases q; exact wpAny_truthy_bool ⟨rfl, Ext.refl ..⟩
  | _ => cases e
end
end Mine

namespace Mine
open PySem PyProof.Rows

section
variable {G : Gd} {s : Shared} {E : Value → Shared → Prop} {A : Around} {x y : Value}

theorem vr_none {S : Addr → Prop} {h : Heap} {a : AV} {x : Value} (q : VR G S h a x) : plainIs x .none = true ∧ (x == Value.none) = isNone a := by
  cases a
  · cases q; exact ⟨rfl, rfl⟩
  · cases q; exact ⟨rfl, rfl⟩
  · obtain ⟨t, rfl⟩ := q; exact ⟨rfl, rfl⟩
  · obtain ⟨_, _, t, rfl⟩ := q; exact ⟨rfl, rfl⟩
  · obtain ⟨_, t, _, rfl, _⟩ := q; exact ⟨rfl, rfl⟩
  · obtain ⟨_, t, _, rfl, _⟩ := q; exact ⟨rfl, rfl⟩
  · obtain ⟨_, t, _, rfl, _⟩ := q; exact ⟨rfl, rfl⟩
  · obtain ⟨t, rfl, _⟩ := q; exact ⟨rfl, rfl⟩
  · obtain ⟨t, _, rfl, _⟩ := q; exact ⟨rfl, rfl⟩
  · obtain ⟨t, rfl⟩ := q; exact ⟨rfl, rfl⟩
  · obtain ⟨t, _, rfl, _, _⟩ := q; exact ⟨rfl, rfl⟩

theorem both_reads (hu : A.units + 12 < cLine) {a b : AV} (h : (dat 8 a && dat 8 b) = true) (qa : VR G (fun _ => False) s.heap a x) (qb : VR G (fun _ => False) s.heap b y) :
    wpAny (model G.prog G.w) A (compareOp .Eq x y) (fun c s' => c = .bool (eqq a b) ∧ Ext G s s') E s ∧ wpAny (model G.prog G.w) A (compareOp .NotEq x y) (fun c s' => c = .bool (!eqq a b) ∧ Ext G s s') E s := by
  rw [Bool.and_eq_true] at h
  obtain ⟨⟨as, ra⟩, ca, da⟩ := toPy_reads 8 _ _ h.1 qa
  obtain ⟨⟨bs, rb⟩, cb, db⟩ := toPy_reads 8 _ _ h.2 qb
  have hu' : A.units + 12 < cLine := hu
  exact ⟨SeqAt.compareEq_reads ra rb ca cb (by (first | lia | omega)) ⟨by rw [eqv_toPy 8 8 _ _ h.1 h.2], Ext.refl ..⟩, SeqAt.compareNe_reads ra rb ca cb (by (first | lia | omega)) ⟨by rw [eqv_toPy 8 8 _ _ h.1 h.2], Ext.refl ..⟩⟩

theorem one1_str {x : Str} {c : Nat} (h : one1 (sgs x) = some c) : x = ⟨#[c]⟩ := by
  obtain ⟨l⟩ := x
  obtain ⟨l⟩ := l
  cases l with
  | nil => cases h
  | cons a r =>
    have h : (if r.isEmpty = true then some a else none) = some c := h
    split at h
    · next z => cases h; cases List.isEmpty_iff.mp z; rfl
    · cases h
theorem in_both (hu : A.units + 12 < cLine) {a b : AV} {r : Bool} (qa : VR G (fun _ => False) s.heap a x) (qb : VR G (fun _ => False) s.heap b y) (e : inV a b = some r) :
    wpAny (model G.prog G.w) A (compareOp .In x y) (fun c s' => c = .bool r ∧ Ext G s s') E s ∧ wpAny (model G.prog G.w) A (compareOp .NotIn x y) (fun c s' => c = .bool (!r) ∧ Ext G s s') E s := by
  cases b with
  | lst ys =>
    have e : (if (dat 8 a && dats 8 ys) = true then some (ys.any fun y => eqq y a) else none) = some r := e
    split at e <;> cases e
    rename_i h
    rw [Bool.and_eq_true] at h
    obtain ⟨⟨as, ra⟩, ca, da⟩ := toPy_reads 8 _ _ h.1 qa
    obtain ⟨_, p, vs, rfl, _, ⟨⟨o, ho, hc, m, hd⟩, _⟩, rr⟩ := qb
    obtain ⟨⟨bs, rb⟩, cb, db⟩ := toPys_reads 8 _ _ h.2 rr
    have L := Reads.list ho hc hd (by simpa using rb)
    have q := any_toPys 8 8 _ h.1 _ h.2
    exact ⟨SeqAt.in_list_reads L ra cb ca (by (first | lia | omega)) ⟨by rw [q], Ext.refl ..⟩, SeqAt.notIn_list_reads L ra cb ca (by (first | lia | omega)) ⟨by rw [q], Ext.refl ..⟩⟩
  | tup ys =>
    have e : (if (dat 8 a && dats 8 ys) = true then some (ys.any fun y => eqq y a) else none) = some r := e
    split at e <;> cases e
    rename_i h
    rw [Bool.and_eq_true] at h
    obtain ⟨⟨as, ra⟩, ca, da⟩ := toPy_reads 8 _ _ h.1 qa
    obtain ⟨_, p, vs, rfl, ⟨o, ho, hc, m, hd⟩, rr⟩ := qb
    obtain ⟨⟨bs, rb⟩, cb, db⟩ := toPys_reads 8 _ _ h.2 rr
    have L := Reads.tuple ho hc hd (by simpa using rb)
    have q := any_toPys 8 8 _ h.1 _ h.2
    exact ⟨SeqAt.in_tuple_reads L ra cb ca (by (first | lia | omega)) ⟨by rw [q], Ext.refl ..⟩, SeqAt.notIn_tuple_reads L ra cb ca (by (first | lia | omega)) ⟨by rw [q], Ext.refl ..⟩⟩
  | dic ks ws =>
    have e : (if isKey a ks = true then some (hasKey a ks) else none) = some r := e
    split at e <;> cases e
    rename_i h
    obtain ⟨_, p, vs, rfl, _, d, rr⟩ := qb
    have hs := d.1
    cases a with
    | str i =>
      obtain ⟨_, _, t, rfl⟩ := qa
      obtain ⟨kvs, rfl, rfl, dd⟩ := d.strs h
      exact ⟨wpAny_in_of (strKind_is ..) hs dd.mapOf ⟨by rw [hasKey_str], Ext.toks ..⟩, wpAny_notIn_of (strKind_is ..) hs dd.mapOf ⟨by rw [hasKey_str], Ext.toks ..⟩⟩
    | _ => cases h
  | str w =>
    obtain ⟨x', hx, e'⟩ := bindI e
    cases asStr_some hx
    obtain ⟨c, hc, rfl⟩ := Option.map_eq_some_iff.mp e'
    obtain ⟨_, _, t, rfl⟩ := qa
    obtain ⟨_, _, u, rfl⟩ := qb
    have ec : x' = ⟨#[c]⟩ := one1_str hc
    subst ec
    have f := StrLaws.found_one w c
    have g : (sgs w).contains c = decide (c ∈ w.cps.toList) := by rw [Bool.eq_iff_iff, List.contains_iff_mem, decide_eq_true_iff]; rfl
    exact ⟨PyProof.Rows.in_str ⟨by rw [f, g], Ext.refl ..⟩, PyProof.Rows.notIn_str ⟨by rw [f, g], Ext.refl ..⟩⟩
  | _ => cases e

theorem cmpop_ok (hu : A.units + 12 < cLine) {op : CmpOp} {a b : AV} {r : Bool} (qa : VR G (fun _ => False) s.heap a x) (qb : VR G (fun _ => False) s.heap b y) (e : cmpop op a b = some r) :
    wpAny (model G.prog G.w) A (compareOp op x y) (fun c s' => c = .bool r ∧ Ext G s s') E s := by
  have fin : ∀ {c : Bool}, c = r → (Value.bool c = Value.bool r ∧ Ext G s s) := fun h => ⟨by rw [h], Ext.refl ..⟩
  cases op with
  | Eq =>
    have e : (if (dat 8 a && dat 8 b) = true then some (eqq a b) else none) = some r := e
    split at e <;> cases e
    rename_i h
    exact (both_reads hu h qa qb).1
  | NotEq =>
    obtain ⟨r', e', rfl⟩ := Option.map_eq_some_iff.mp e
    have e' : (if (dat 8 a && dat 8 b) = true then some (eqq a b) else none) = some r' := e'
    split at e' <;> cases e'
    rename_i h
    exact (both_reads hu h qa qb).2
  | Lt => obtain ⟨i, j, rfl, rfl, e'⟩ := i2_some e; obtain ⟨t, rfl⟩ := qa; obtain ⟨u, rfl⟩ := qb; cases e'; exact lt_int (fin rfl)
  | LtE => obtain ⟨i, j, rfl, rfl, e'⟩ := i2_some e; obtain ⟨t, rfl⟩ := qa; obtain ⟨u, rfl⟩ := qb; cases e'; exact le_int (fin rfl)
  | Gt => obtain ⟨i, j, rfl, rfl, e'⟩ := i2_some e; obtain ⟨t, rfl⟩ := qa; obtain ⟨u, rfl⟩ := qb; cases e'; exact gt_int (fin rfl)
  | GtE => obtain ⟨i, j, rfl, rfl, e'⟩ := i2_some e; obtain ⟨t, rfl⟩ := qa; obtain ⟨u, rfl⟩ := qb; cases e'; exact ge_int (fin rfl)
  | Is =>
    have e : (if isNone b = true then some (isNone a) else none) = some r := e
    split at e <;> cases e
    rename_i h
    cases b with
    | none => cases qb; exact wpAny_is_plain (vr_none qa).1 (fin (vr_none qa).2)
    | _ => cases h
  | IsNot =>
    have e : (if isNone b = true then some (!isNone a) else none) = some r := e
    split at e <;> cases e
    rename_i h
    cases b with
    | none => cases qb; exact wpAny_isNot_plain (vr_none qa).1 (fin (by rw [(vr_none qa).2]))
    | _ => cases h
  | In => exact (in_both hu qa qb e).1
  | NotIn => obtain ⟨r', e', rfl⟩ := Option.map_eq_some_iff.mp e; exact (in_both hu qa qb e').2
end
end Mine

namespace Mine
open PySem PyProof.Rows

theorem VM.dic {G : Gd} {cx : Cx} {ρ : Rho} {vals : Vals} {pre h : Heap} {m : Md} {ks ws : List AV} {x : Value} (q : VM G cx ρ vals pre h m (.dic ks ws) x) :
    ∃ a vs, x = .ref a ∧ ks.length ≤ top ∧ IsDic G h a ks vs ∧ VRs G (elS cx ρ vals m) h ws vs := by
  cases m
  · obtain ⟨z, a, vs, e, _, l, r⟩ := q; exact ⟨a, vs, e, z, l, r⟩
  · obtain ⟨z, a, vs, e, _, l, r⟩ := q; exact ⟨a, vs, e, z, l, r⟩
  · obtain ⟨a, e, _, z, vs, l, r⟩ := q; exact ⟨a, vs, e, z, l, VRs.off (fun _ y => .inl (.inl y)) _ _ r⟩
  · obtain ⟨a, e, _, z, vs, l, r⟩ := q; exact ⟨a, vs, e, z, l, r⟩
theorem VM.el {G : Gd} {cx : Cx} {ρ : Rho} {vals : Vals} {pre h : Heap} {m : Md} {v : AV} {x : Value} (q : VR G (elS cx ρ vals m) h v x) : VM G cx ρ vals pre h (elMd m) v x := by
  cases m <;> exact q

theorem seqIdx_eq {i : Int} {n j : Nat} (e : seqIdx i n = some j) : (0 ≤ i ∧ j = i.toNat ∧ i < n) ∨ (i < 0 ∧ -(n : Int) ≤ i ∧ j = (i + n).toNat) := by
  unfold seqIdx at e
  split at e
  · rename_i h; cases e; exact .inl ⟨h.1, rfl, h.2⟩
  · split at e
    · rename_i h; cases e; exact .inr ⟨h.1, h.2, rfl⟩
    · cases e
theorem seqIndex_of {i : Int} {n j : Nat} (e : seqIdx i n = some j) : seqIndex? i n = some j := by
  rcases seqIdx_eq e with ⟨a, rfl, b⟩ | ⟨a, b, rfl⟩
  · unfold seqIndex?; simp; (first | lia | omega)
  · exact seqIndex_neg a b

theorem strOk_char {x : Str} {j c : Nat} (h : PyData.strOk x = true) (e : x.cps[j]? = some c) : PyData.strOk ⟨#[c]⟩ = true := by
  unfold PyData.strOk at *
  have := Array.all_eq_true.mp h
  obtain ⟨hj, rfl⟩ := Array.getElem?_eq_some_iff.mp e
  simpa using this j hj

section
variable {G : Gd} {cx : Cx} {ρ : Rho} {vals : Vals} {s0 s : Shared} {E : Value → Shared → Prop} {A : Around} {x y : Value}

theorem subs_ok {a b r : AV} {m : Md} (qa : VM G cx ρ vals s0.heap s.heap m a x) (qb : VR G (fun _ => False) s.heap b y) (e : subs a b = some r) :
    wpAny (model G.prog G.w) A (getItem x y) (fun v s' => Ext G s s' ∧ VM G cx ρ vals s0.heap s'.heap (elMd m) r v) E s ∧
    ∃ T id, s.TypeIs x T ∧ typeLookup (.type T) "__getitem__" = pure (some (.builtin id)) := by
  have ht : top = 16777216 := rfl
  cases a with
  | lst xs =>
    obtain ⟨i, hi, e1⟩ := bindI e
    cases asInt_some hi
    obtain ⟨j, ej, er⟩ := bindI e1
    obtain ⟨p, vs, rfl, z, l, rr⟩ := qa.lst
    obtain ⟨t, rfl⟩ := qb
    obtain ⟨v, ev, qv⟩ := rr.get er
    have hl := rr.length
    refine ⟨?_, _, _, l.typeIs, slot_list_getitem.lookup⟩
    rcases seqIdx_eq ej with ⟨h0, rfl, h1⟩ | ⟨h0, h1, rfl⟩
    · exact wpAny_getItem_list l h0 (by (first | lia | omega)) (by simpa using ev) ⟨Ext.refl .., VM.el qv⟩
    · exact wpAny_getItem_list_neg l h0 (by simpa [hl] using h1) (by (first | lia | omega)) (by simpa [hl] using ev) ⟨Ext.refl .., VM.el qv⟩
  | tup xs =>
    obtain ⟨i, hi, e1⟩ := bindI e
    cases asInt_some hi
    obtain ⟨j, ej, er⟩ := bindI e1
    obtain ⟨p, vs, rfl, z, l, rr⟩ := qa.tup
    obtain ⟨t, rfl⟩ := qb
    obtain ⟨v, ev, qv⟩ := rr.get er
    have hl := rr.length
    refine ⟨?_, _, _, l.typeIs, slot_tuple_getitem.lookup⟩
    have hb : -(2 ^ 63) ≤ i ∧ i < 2 ^ 63 := by rcases seqIdx_eq ej with ⟨h0, _, h1⟩ | ⟨h0, h1, _⟩ <;> (first | lia | omega)
    exact getItem_tuple l hb.1 hb.2 (by simpa [hl] using seqIndex_of ej) (by simpa using ev) ⟨Ext.refl .., VM.el qv⟩
  | str w =>
    obtain ⟨i, hi, e1⟩ := bindI e
    cases asInt_some hi
    obtain ⟨j, ej, er⟩ := bindI e1
    obtain ⟨z, k, t, rfl⟩ := qa.read
    obtain ⟨u, rfl⟩ := qb
    obtain ⟨c, ec, rfl⟩ := Option.map_eq_some_iff.mp er
    refine ⟨?_, _, _, typeIs_str s w t, F.slot_str_getitem.lookup⟩
    have hb : -(2 ^ 63) ≤ i ∧ i < 2 ^ 63 := by rcases seqIdx_eq ej with ⟨h0, _, h1⟩ | ⟨h0, h1, _⟩ <;> (first | lia | omega)
    refine getItem_str (by simp; (first | lia | omega)) (by rw [seqIndex_of ej]; exact ec) ⟨Ext.toks .., ?_⟩
    have : VR G (elS cx ρ vals m) s.heap (.str ⟨#[c]⟩) (.str ⟨#[c]⟩ s.toks) := ⟨by show 1 ≤ 16777216; (first | lia | omega), strOk_char k ec, _, rfl⟩
    exact VM.el this
  | dic ks ws =>
    obtain ⟨p, vs, rfl, z, l, rr⟩ := qa.dic
    have e : (if isKey b ks = true then findKey b ks ws else none) = some r := e
    split at e
    · rename_i hk
      cases b with
      | str i =>
        obtain ⟨_, _, t, rfl⟩ := qb
        obtain ⟨kvs, rfl, rfl, dd⟩ := l.strs hk
        obtain ⟨v, ev, qv⟩ := findKey_str _ _ _ _ rr e
        exact ⟨wpAny_getItem_of (strKind_is ..) dd.mapOf ev ⟨Ext.toks .., VM.el qv⟩, _, _, dd.mapOf.typeIs, slot_dict_getitem.lookup⟩
      | _ => cases hk
    · cases e
  | _ => cases e
end
end Mine

namespace Mine
open PySem PyProof.Rows

noncomputable def optI : AV → Option Int
  | .int i => some i
  | _ => none
theorem clip_eq (i : Int) (n : Nat) : max 0 (min (if i < 0 then i + n else i) (n : Int)) = (((if i < 0 then (i + n).toNat else min i.toNat n) : Nat) : Int) := by
  by_cases h : i < 0
  · rw [if_pos h, if_pos h, Int.min_eq_left (Int.le_of_lt (by (first | lia | omega))), Int.max_comm]
    exact (Int.ofNat_toNat _).symm
  · have h := Int.not_lt.mp h
    rw [if_neg (Int.not_lt.mpr h), if_neg (Int.not_lt.mpr h), Int.max_eq_right (Int.le_min.mpr ⟨h, Int.natCast_nonneg n⟩)]
    by_cases q : i ≤ n
    · rw [Int.min_eq_left q, Nat.min_eq_left (Int.toNat_le.mpr q), Int.toNat_of_nonneg h]
    · have q := Int.le_of_lt (Int.not_le.mp q)
      rw [Int.min_eq_right q, Nat.min_eq_right ((Int.le_toNat h).mpr q)]
theorem clip_le (i : Int) (n : Nat) : (if i < 0 then (i + n).toNat else min i.toNat n) ≤ n := by split <;> (first | lia | omega)
theorem bounds_eq {lo hi : AV} {n a b : Nat} (ha : clampLo lo n = some a) (hb : clampHi hi n = some b) : sliceBounds (optI lo) (optI hi) none n = ((a : Int), (b : Int), 1) := by
  have A : max 0 (min (match optI lo with | none => (0 : Int) | some i => (if i < 0 then i + n else i)) (n : Int)) = a ∧ (lo = .none ∨ ∃ i, lo = .int i) := by
    cases lo with
    | none => cases ha; exact ⟨by show max (0 : Int) (min 0 (n : Int)) = ((0 : Nat) : Int); (first | lia | omega), .inl rfl⟩
    | int i => cases ha; exact ⟨clip_eq i n, .inr ⟨i, rfl⟩⟩
    | _ => cases ha
  have B' : max 0 (min (match optI hi with | none => (n : Int) | some i => (if i < 0 then i + n else i)) (n : Int)) = b ∧ (hi = .none ∨ ∃ i, hi = .int i) := by
    cases hi with
    | none => cases hb; exact ⟨by show max (0 : Int) (min (n : Int) (n : Int)) = (n : Int); (first | lia | omega), .inl rfl⟩
    | int i => cases hb; exact ⟨clip_eq i n, .inr ⟨i, rfl⟩⟩
    | _ => cases hb
  obtain ⟨A1, A2⟩ := A
  obtain ⟨B1, B2⟩ := B'
  have L : ∀ (v : Option Int) (dd : Int), 0 ≤ dd → dd ≤ n → (match v with | none => dd | some i => max 0 (min (if i < 0 then i + n else i) (n : Int))) = max 0 (min (match v with | none => dd | some i => (if i < 0 then i + n else i)) (n : Int)) := fun v dd h1 h2 => by
    cases v with
    | none => show dd = max 0 (min dd (n : Int)); (first | lia | omega)
    | some i => rfl
  show ((match optI lo with | none => (0 : Int) | some i => max 0 (min (if i < 0 then i + n else i) (n : Int))), (match optI hi with | none => (n : Int) | some i => max 0 (min (if i < 0 then i + n else i) (n : Int))), (1 : Int)) = _
  rw [L _ 0 (by (first | lia | omega)) (by (first | lia | omega)), L _ n (by (first | lia | omega)) (by (first | lia | omega)), A1, B1]
theorem clampLo_le {lo : AV} {n a : Nat} (h : clampLo lo n = some a) : a ≤ n := by
  cases lo with
  | none => cases h; exact Nat.zero_le _
  | int i => cases h; exact clip_le i n
  | _ => cases h
theorem clampHi_le {lo : AV} {n a : Nat} (h : clampHi lo n = some a) : a ≤ n := by
  cases lo with
  | none => cases h; exact Nat.le_refl _
  | int i => cases h; exact clip_le i n
  | _ => cases h
theorem slicePick_cut {vs : List Value} {lo hi : AV} {a b : Nat} (ha : clampLo lo vs.length = some a) (hb : clampHi hi vs.length = some b) :
    slicePick vs.toArray (optI lo) (optI hi) none = (cut vs a b).toArray := by
  unfold slicePick
  rw [show vs.toArray.size = vs.length from by simp, bounds_eq ha hb]
  simp only [sliceRange_one, pick_run, cut]
theorem cut_length {α : Type} (xs : List α) (a b : Nat) : (cut xs a b).length ≤ xs.length := by
  unfold cut; exact Nat.le_trans (List.length_take_le' ..) (by rw [List.length_drop]; exact Nat.sub_le ..)
theorem VRs.cut {G : Gd} {S : Addr → Prop} {h : Heap} {xs : List AV} {vs : List Value} (r : VRs G S h xs vs) (a b : Nat) : VRs G S h (Mine.cut xs a b) (Mine.cut vs a b) := (r.drop a).take (b - a)
theorem isPart_of {G : Gd} {h : Heap} {v : AV} {x : Value} (hv : v = .none ∨ ∃ i, v = .int i) (q : VR G (fun _ => False) h v x) : IsPart x (optI v) := by
  rcases hv with rfl | ⟨i, rfl⟩
  · cases q; exact .none
  · obtain ⟨t, rfl⟩ := q; exact .int i t
theorem clampLo_part {lo : AV} {n a : Nat} (h : clampLo lo n = some a) : lo = .none ∨ ∃ i, lo = .int i := by
  cases lo with
  | none => exact .inl rfl
  | int i => exact .inr ⟨i, rfl⟩
  | _ => cases h
theorem clampHi_part {lo : AV} {n a : Nat} (h : clampHi lo n = some a) : lo = .none ∨ ∃ i, lo = .int i := by
  cases lo with
  | none => exact .inl rfl
  | int i => exact .inr ⟨i, rfl⟩
  | _ => cases h

theorem strOk_cut {w : Str} (h : PyData.strOk w = true) (i j : Nat) : PyData.strOk ⟨(cut w.cps.toList i j).toArray⟩ = true := by
  unfold PyData.strOk at *
  rw [List.all_toArray, List.all_eq_true]
  rw [← Array.all_toList, List.all_eq_true] at h
  intro c hc
  exact h c (List.mem_of_mem_drop (List.mem_of_mem_take hc))


section
variable {G : Gd} {cx : Cx} {ρ : Rho} {vals : Vals} {s0 s : Shared} {E : Value → Shared → Prop} {A : Around} {x y yl yh : Value}
theorem slices_ok (S : St G cx ρ vals s0) (B : BadLt cx s0) (X : Ext G s0 s) {a lo hi r : AV} {m : Md} {sl : Addr} (qa : VM G cx ρ vals s0.heap s.heap m a x)
    (ql : VR G (fun _ => False) s.heap lo yl) (qh : VR G (fun _ => False) s.heap hi yh) (hs : s.heap.IsSliceOf sl yl yh .none) (e : slices a lo hi = some r) :
    wpAny (model G.prog G.w) A (getItem x (.ref sl)) (fun v s' => Ext G s s' ∧ VM G cx ρ vals s0.heap s'.heap (slcMd a m r) r v) E s ∧
    ∃ T id, s.TypeIs x T ∧ typeLookup (.type T) "__getitem__" = pure (some (.builtin id)) := by
  unfold slices at e
  split at e
  · rename_i xs
    obtain ⟨p, vs, rfl, z, l, rr⟩ := qa.lst
    obtain ⟨i, ei, er⟩ := bindI e
    obtain ⟨j, ej, rfl⟩ := Option.map_eq_some_iff.mp er
    have hl := rr.length
    refine ⟨?_, _, _, l.typeIs, slot_list_getitem.lookup⟩
    refine wpAny_getItem_list_slice l hs (isPart_of (clampLo_part ei) ql) (isPart_of (clampHi_part ej) qh) .none (by simp) ?_ (by rw [List.size_toArray, ← hl]; exact z)
    rw [slicePick_cut (by rw [← hl]; exact ei) (by rw [← hl]; exact ej)]
    refine ⟨Ext.heap (t := s.toks) (Kp.push ..), ?_⟩
    refine VM.newL S B X (Nat.le_trans (cut_length ..) z) (Kp.push ..) ⟨_, Heap.get?_push_size _ rfl⟩ ?_
    split
    · rename_i hf
      exact (elS_fr (.inl rfl) hf rr).cut _ _
    · exact (elS_sh rr).cut _ _
  · rename_i w
    obtain ⟨z, k, t, rfl⟩ := qa.read
    obtain ⟨i, ei, er⟩ := bindI e
    obtain ⟨j, ej, rfl⟩ := Option.map_eq_some_iff.mp er
    refine ⟨?_, _, _, typeIs_str s w t, F.slot_str_getitem.lookup⟩
    have hw : w.length = w.cps.toList.length := by simp [Str.length]
    obtain ⟨pl, e1, e1'⟩ : ∃ pl : Option (Int × Tok), yl = partValue pl ∧ pl.map (·.1) = optI lo := by
      rcases clampLo_part ei with rfl | ⟨v, rfl⟩
      · cases ql; exact ⟨none, rfl, rfl⟩
      · obtain ⟨u, rfl⟩ := ql; exact ⟨some (v, u), rfl, rfl⟩
    obtain ⟨ph, e2, e2'⟩ : ∃ pl : Option (Int × Tok), yh = partValue pl ∧ pl.map (·.1) = optI hi := by
      rcases clampHi_part ej with rfl | ⟨v, rfl⟩
      · cases qh; exact ⟨none, rfl, rfl⟩
      · obtain ⟨u, rfl⟩ := qh; exact ⟨some (v, u), rfl, rfl⟩
    subst e1 e2
    have hp : slicePicked w pl ph none = (List.range (j - i)).map (i + ·) := by
      unfold slicePicked
      rw [e1', e2']
      have := bounds_eq ei ej
      unfold sliceBounds at this
      simp only [Option.getD_none, show (1 : Int) > 0 by decide, if_true, Prod.mk.injEq] at this
      unfold Builtin.Str.strSliceIndices
      simp only [Option.map_none, Option.getD_none, show (1 : Int) > 0 by decide, if_true]
      exact (congr (congrArg (fun a b => sliceRange a b 1) this.1) this.2.1).trans (sliceRange_one i j)
    have hpk : (slicePicked w pl ph none).filterMap (w.cps[·]?) = cut w.cps.toList i j := by rw [hp, pick_run]; rfl
    refine wpAny_getItem_str_slice (l := pl) (u := ph) (st := none) hs rfl ?_
    have ki := clampLo_le ei
    have kj := clampHi_le ej
    have res : ∀ t', VR G (elS cx ρ vals m) s.heap (.str ⟨(cut w.cps.toList i j).toArray⟩) (.str ⟨(cut w.cps.toList i j).toArray⟩ t') := fun t' =>
      ⟨by have := cut_length w.cps.toList i j; show (cut w.cps.toList i j).toArray.size ≤ top; rw [List.size_toArray]; (first | lia | omega), strOk_cut k .., t', rfl⟩
    have md : ∀ t', VM G cx ρ vals s0.heap s.heap (slcMd (.str w) m (.str ⟨(cut w.cps.toList i j).toArray⟩)) (.str ⟨(cut w.cps.toList i j).toArray⟩) (.str ⟨(cut w.cps.toList i j).toArray⟩ t') := fun t' => VR.lf _ _ rfl (res t')
    unfold sliceMade
    split
    · rename_i hc
      refine ⟨Ext.refl .., ?_⟩
      simp only [Bool.and_eq_true, beq_iff_eq] at hc
      have hlen := hc.2
      rw [hp] at hlen
      simp only [List.length_map, List.length_range] at hlen
      have : (⟨(cut w.cps.toList i j).toArray⟩ : Str) = w := by
        unfold cut
        by_cases h0 : w.length = 0
        · have : w.cps.toList = [] := List.eq_nil_of_length_eq_zero (by (first | lia | omega))
          obtain ⟨⟨l⟩⟩ := w
          simp at this; subst this; simp
        · have : i = 0 := by (first | lia | omega)
          subst this
          rw [List.drop_zero, List.take_of_length_le (by (first | lia | omega))]
      have m' := md t
      rw [this] at m' ⊢
      exact m'
    · have := md s.toks
      rw [← hpk] at this ⊢
      refine ⟨?_, Ext.toks .., this⟩
      have := cut_length w.cps.toList i j
      rw [hpk]
      show (cut w.cps.toList i j).toArray.size ≤ sizeLine
      rw [List.size_toArray, ← top_line]; (first | lia | omega)
  · cases e
end
end Mine

namespace Mine
open PySem PyProof.Rows PySem.W

noncomputable def frs (G : Gd) (h : Heap) : List Addr := (List.range h.objs.size).filter fun b => match h.get? b with
  | some o => o.cls == .type "frame" && (G.base.get? b).isNone
  | none => false
theorem mem_frs {G : Gd} {h : Heap} {b : Addr} : b ∈ frs G h ↔ ∃ o, h.get? b = some o ∧ o.cls = .type "frame" ∧ G.base.get? b = none := by
  unfold frs
  rw [List.mem_filter]
  constructor
  · rintro ⟨_, q⟩
    split at q
    · rename_i o e
      simp only [Bool.and_eq_true, beq_iff_eq, Option.isNone_iff_eq_none] at q
      exact ⟨o, e, q.1, q.2⟩
    · cases q
  · rintro ⟨o, e, c, n⟩
    exact ⟨List.mem_range.mpr (Heap.lt_size e), by rw [e]; simp [c, n]⟩
noncomputable def still (G : Gd) (h : Heap) : Heap := hideAll h (frs G h)
theorem still_get {G : Gd} {h : Heap} {b : Addr} {o : Obj} (e : (still G h).get? b = some o) : h.get? b = some o ∧ (o.cls ≠ .type "frame" ∨ (G.base.get? b).isSome = true) := by
  have e' := of_hideAll _ e
  refine ⟨e', ?_⟩
  by_cases c : o.cls = .type "frame"
  · right
    cases q : G.base.get? b with
    | some _ => rfl
    | none => have := hideAll_none (h := h) (frs G h) (mem_frs.mpr ⟨o, e', c, q⟩); unfold still at e; rw [this] at e; cases e
  · exact .inl c
theorem still_of {G : Gd} {h : Heap} {b : Addr} {o : Obj} (e : h.get? b = some o) (c : o.cls ≠ .type "frame" ∨ (G.base.get? b).isSome = true) : (still G h).get? b = some o := by
  refine hideAll_get _ e fun m => ?_
  obtain ⟨o', e', c', n⟩ := mem_frs.mp m
  rw [e] at e'; cases e'
  rcases c with c | c
  · exact c c'
  · rw [n] at c; cases c
theorem still_none {G : Gd} {h h' : Heap} {b : Addr} (k : Kp G.base h h') (e : h'.objs.size ≤ b) : (still G h).get? b = none := by
  cases q : (still G h).get? b with
  | none => rfl
  | some o => obtain ⟨o', e'⟩ := (k.kp b o (still_get q).1).2.2; exact absurd (Heap.lt_size e') (Nat.not_lt.mpr e)

inductive ExcN (G : Gd) (pre h : Heap) (ea : Addr) (vs : Array Value) : Prop
  | no (h1 : vs[1]? = some .none) : ExcN G pre h ea vs
  | yes (T : Addr) (oT : Obj) (ts : Array Value) (fl : Value) (h1 : vs[1]? = some (.ref T)) (hnT : (still G pre).get? T = none) (hTe : T ≠ ea) (hT : h.get? T = some oT) (hdT : oT.data = .fields ts) (h3 : ts[3]? = some fl) : ExcN G pre h ea vs
inductive ExcOK (G : Gd) (pre h : Heap) (ea : Addr) (c : Str) : Prop
  | mk (nod : ∀ o, h.get? ea = some o → o.dict = none) (new : (still G pre).get? ea = none) (oe : Obj) (vs : Array Value) (a0 : Value) (he : h.get? ea = some oe) (hc : G.cls c = some oe.cls) (hd : oe.data = .fields vs) (h0 : vs[0]? = some a0) (n : ExcN G pre h ea vs) : ExcOK G pre h ea c
inductive ExcTr (G : Gd) (pre h : Heap) (ea : Addr) (c : Str) : Prop
  | mk (nod : ∀ o, h.get? ea = some o → o.dict = none) (new : (still G pre).get? ea = none) (oe : Obj) (vs : Array Value) (a0 : Value) (T : Addr) (oT : Obj) (ts : Array Value) (fl : Value) (he : h.get? ea = some oe) (hc : G.cls c = some oe.cls) (hd : oe.data = .fields vs) (h0 : vs[0]? = some a0)
    (h1 : vs[1]? = some (.ref T)) (hnT : (still G pre).get? T = none) (hTe : T ≠ ea) (hT : h.get? T = some oT) (hdT : oT.data = .fields ts) (h3 : ts[3]? = some fl) : ExcTr G pre h ea c
theorem ExcTr.ok {G : Gd} {pre h : Heap} {ea : Addr} {c : Str} (x : ExcTr G pre h ea c) : ExcOK G pre h ea c := by
  obtain ⟨dn, n, oe, vs, a0, T, oT, ts, fl, h1, h2, h3, h4, h5, r1, r2, r3, r4, r5⟩ := x
  exact ⟨dn, n, oe, vs, a0, h1, h2, h3, h4, .yes T oT ts fl h5 r1 r2 r3 r4 r5⟩

theorem Kp.updF {G : Gd} {pre h : Heap} {T : Addr} {o : Obj} {ts : Array Value} {f : Obj → Obj} (k : Kp G.base pre h) (n : (still G pre).get? T = none) (e : h.get? T = some o) (d : o.data = .fields ts) (hf : (f o).isFreed = false := by exact Obj.isFreed_of_fields (Obj.data_mapFields (by assumption) _)) : Kp G.base pre (h.update T f) := by
  constructor
  intro b ob eb
  by_cases q : T = b
  · subst q
    refine ⟨fun c => ?_, fun nf => ?_, _, Heap.get?_update_self _ e hf⟩
    · rw [still_of eb c] at n; cases n
    · obtain ⟨sl, e'⟩ := (k.kp T ob eb).2.1 nf
      rw [e] at e'; cases e'
      exact absurd d (nf ts)
  · rw [Heap.get?_update_other _ _ q]; exact k.kp b ob eb

section
variable {G : Gd} {A : Around} {E : Value → Shared → Prop} {p s : Shared} {env : Env} {outer : List Env} {L ea : Addr} {c : Str}

theorem Kp.slotsOnly {p h h' : Heap} {l : List Env} (k : Kp G.base p h) (x : Heap.SlotsOnly (l.filterMap (·.frame)) h h') (f : h.FunFrames G.base l) (g : FsOk h l) : Kp G.base p h' := by
  refine ⟨fun b o e => ⟨fun cc => ?_, fun nf => ?_, ?_⟩⟩
  · have e1 := (k.kp b o e).1 cc
    refine (x.2.1 b fun m => ?_).trans e1
    rcases cc with cc | cc
    · obtain ⟨o', e', c', _⟩ := g b m
      rw [e1] at e'; cases e'; exact cc c'
    · rw [(f.mem m).1] at cc; cases cc
  · obtain ⟨sl, e'⟩ := (k.kp b o e).2.1 nf
    obtain ⟨sl', e''⟩ := x.2.2 b _ e'
    exact ⟨sl', e''⟩
  · obtain ⟨o', e'⟩ := (k.kp b o e).2.2
    obtain ⟨sl', e''⟩ := x.2.2 b _ e'
    exact ⟨_, e''⟩

theorem entry_ok {M : Model} {oe : Obj} {vs : Array Value} {head a0 : Value} {hadNext : Bool} {Q : Unit → Shared → Prop} (hfr : A.frames = some (env :: outer)) (hl : s.heap.FunFrames G.base (env :: outer)) (hg : FsOk s.heap (env :: outer)) (hf : env.frame = some L)
    (k : Kp G.base p.heap s.heap) (hdn : oe.dict = none) (hen : (still G p.heap).get? ea = none) (he : s.heap.get? ea = some oe) (hc : G.cls c = some oe.cls) (hd : oe.data = .fields vs) (hsz : 1 < vs.size) (h0 : vs[0]? = some a0)
    (h : ∀ h', Kp G.base p.heap h' → ExcTr G p.heap h' ea c → Q () { s with heap := h' }) :
    wpAny M A (do let a ← frameOf env; let pl ← entryPlaceOf L hadNext; let b ← EntryCells.newEntry head a .none (rawInt L) .none pl; setField (.ref ea) 1 b) Q E s := by
  have hene : ea ∉ (env :: outer).filterMap (·.frame) := fun hm => by
    obtain ⟨o, ho, _, hnf⟩ := hg _ hm
    rw [he] at ho; injection ho with ho; subst ho; exact hnf vs hd
  refine wpAny_bind (wpAny_frameOf_fun hfr hl hf fun h₁ hs₁ => ?_)
  refine wpAny_bind (wpAny_entryPlaceOf fun pl hpl => ?_)
  unfold EntryCells.newEntry newFields
  refine wpAny_bind (wpAny_newObj_type ?_ (hpl.sizeOk5 _ _ _ _ _))
  have he₁ : h₁.get? ea = some oe := (hs₁.2.1 ea hene).trans he
  have k₁ := k.slotsOnly hs₁ hl hg
  generalize hob : ({ cls := .type "traceback", dict := none, data := .fields ([head, .ref L, .none, rawInt L, .none] ++ (if pl.isEmpty then List.replicate 6 Value.none else pl)).toArray } : Obj) = ob
  have he₂ := Heap.get?_push_of_some (h := h₁) ob he₁
  have k₂ : Kp G.base p.heap (h₁.push ob) := k₁.trans (Kp.push ..)
  refine wpAny_setField he₂ hd hsz (h _ (k₂.updF hen he₂ hd) ?_)
  have hTe : h₁.objs.size ≠ ea := Nat.ne_of_gt (Heap.lt_size he₁)
  have hd₃ := Obj.data_mapFields hd (·.setIfInBounds 1 (Value.ref h₁.objs.size))
  have he₃ := Heap.get?_update_self (Obj.mapFields (·.setIfInBounds 1 (Value.ref h₁.objs.size))) he₂ (Obj.isFreed_of_fields hd₃)
  have hfree : ob.isFreed = false := by rw [← hob]; rfl
  have hT₃ := (Heap.get?_update_other (h₁.push ob) (Obj.mapFields (·.setIfInBounds 1 (Value.ref h₁.objs.size))) (Ne.symm hTe)).trans (Heap.get?_push_size h₁ hfree)
  refine ⟨fun o e => by rw [he₃] at e; cases e; obtain ⟨c1, d1, dt, sl⟩ := oe; subst hd; exact hdn, hen, _, _, a0, h₁.objs.size, ob, _, rawInt L, he₃, by rw [Obj.cls_mapFields]; exact hc, hd₃, by rw [Array.getElem?_setIfInBounds_ne (by decide)]; exact h0, by simp [hsz], still_none k₁ (Nat.le_refl _), hTe, hT₃, by rw [← hob], ?_⟩
  first | (simp; done) | (rcases hpl with rfl | ⟨_, _, _, _, _, _, _, rfl⟩ <;> simp)

theorem noteFrame_ok {M : Model} {Q : Unit → Shared → Prop} (hfr : A.frames = some (env :: outer)) (hl : s.heap.FunFrames G.base (env :: outer)) (hg : FsOk s.heap (env :: outer)) (hf : env.frame = some L)
    (k : Kp G.base p.heap s.heap) (x : ExcOK G p.heap s.heap ea c) (h : ∀ h', Kp G.base p.heap h' → ExcTr G p.heap h' ea c → Q () { s with heap := h' }) :
    wpAny M A (noteFrame (.ref ea) env) Q E s := by
  obtain ⟨dn, hen, oe, vs, a0, he, hc, hd, h0, h1 | ⟨T, oT, ts, fl, h1, hnT, hTe, hT, hdT, h3⟩⟩ := x
  · unfold noteFrame
    simp only [hf]
    refine wpAny_bind (wpAny_field he hd h1 ?_)
    rw [if_neg (by decide)]
    exact entry_ok hfr hl hg hf k (dn _ he) hen he hc hd (Array.getElem?_eq_some_iff.mp h1).1 h0 h
  · unfold noteFrame
    simp only [hf]
    refine wpAny_bind (wpAny_field he hd h1 ?_)
    rw [if_pos (show (Value.ref T != Value.none) = true from by simp)]
    refine wpAny_bind (wpAny_field hT hdT h3 ?_)
    split
    · exact wpAny_pure (h _ k ⟨dn, hen, oe, vs, a0, T, oT, ts, fl, he, hc, hd, h0, h1, hnT, hTe, hT, hdT, h3⟩)
    · refine wpAny_bind (wpAny_setField hT hdT (Array.getElem?_eq_some_iff.mp h3).1 ?_)
      have other : ∀ b, b ≠ T → (s.heap.update T (Obj.mapFields (·.setIfInBounds 3 Value.none))).get? b = s.heap.get? b := fun b hb => Heap.get?_update_other _ _ (Ne.symm hb)
      have noRec : ∀ b o, s.heap.get? b = some o → (∀ vs, o.data ≠ .fields vs) → b ≠ T := fun b o hb hnf q => by
        rw [q, hT] at hb; injection hb with hb; subst hb; exact hnf ts hdT
      refine entry_ok hfr (hl.of_keeps fun b o hb hnf => ⟨o, (other b (noRec b o hb hnf)).trans hb, rfl⟩) (fun b m => ?_) hf (k.updF hnT hT hdT) (dn _ he) hen ((other ea (Ne.symm hTe)).trans he) hc hd (Array.getElem?_eq_some_iff.mp h1).1 h0 h
      obtain ⟨o, e, cc, nf⟩ := hg b m
      exact ⟨o, (other b (noRec b o e nf)).trans e, cc, nf⟩

theorem setFlight_ok {M : Model} {fr : Option Addr} {Q : Unit → Shared → Prop} (k : Kp G.base p.heap s.heap) (x : ExcTr G p.heap s.heap ea c) (h : ∀ h', Kp G.base p.heap h' → ExcTr G p.heap h' ea c → Q () { s with heap := h' }) :
    wpAny M A (setFlight (.ref ea) fr) Q E s := by
  obtain ⟨dn, hen, oe, vs, a0, T, oT, ts, fl, he, hc, hd, h0, h1, hnT, hTe, hT, hdT, h3⟩ := x
  have hsz3 : 3 < ts.size := (Array.getElem?_eq_some_iff.mp h3).1
  unfold setFlight
  refine wpAny_bind (wpAny_field he hd h1 ?_)
  rw [if_pos (show (Value.ref T != Value.none) = true from by simp)]
  refine wpAny_setField hT hdT hsz3 (h _ (k.updF hnT hT hdT) ?_)
  exact ⟨fun o e => by rw [Heap.get?_update_other _ _ hTe] at e; exact dn o e, hen, oe, vs, a0, T, _, _, fr.elim Value.none (fun f => rawInt f), (Heap.get?_update_other _ _ hTe).trans he, hc, hd, h0, h1, hnT, hTe, Heap.get?_update_self _ hT (Obj.isFreed_of_fields (Obj.data_mapFields hdT _)), Obj.data_mapFields hdT _, Array.getElem?_setIfInBounds_self_of_lt hsz3⟩

theorem leaving_ok {M : Model} {Q : Unit → Shared → Prop} (hfr : A.frames = some (env :: outer)) (hl : s.heap.FunFrames G.base (env :: outer)) (hg : FsOk s.heap (env :: outer)) (hf : env.frame = some L)
    (k : Kp G.base p.heap s.heap) (x : ExcOK G p.heap s.heap ea c) (h : ∀ h', Kp G.base p.heap h' → ExcTr G p.heap h' ea c → Q () { s with heap := h' }) :
    wpAny M A (leaving env (.ref ea)) Q E s := by
  unfold leaving
  exact wpAny_bind (noteFrame_ok hfr hl hg hf k x fun h₁ k₁ x₁ => setFlight_ok (s := { s with heap := h₁ }) k₁ x₁ h)
theorem noteFrame_eq {e : Value} {env env' : Env} (h : env'.frame = env.frame) : noteFrame e env' = noteFrame e env := by unfold noteFrame PySem.frameOf; rw [h]
theorem passOn_ok {α : Type} {M : Model} {A : Around} {E : Value → Shared → Prop} {what : String} {env : Env} {Q : α → Shared → Prop} (k : Kp G.base p.heap s.heap) (x : ExcTr G p.heap s.heap ea c) (h : ∀ h', Kp G.base p.heap h' → ExcTr G p.heap h' ea c → E (.ref ea) { s with heap := h' }) :
    wpAny M A (PySem.passOn what (.ref ea) env : Sem α) Q E s := by
  obtain ⟨_, hen, oe, vs, a0, T, oT, ts, fl, he, hc, hd, h0, h1, r⟩ := id x
  unfold PySem.passOn
  refine wpAny_bind (wpAny_field he hd h1 ?_)
  rw [if_neg (show ¬ ((Value.ref T == Value.none) = true) from by simp)]
  exact wpAny_bind (setFlight_ok k x fun h' k' x' => wpAny_throw (h h' k' x'))

theorem ExcTr.pre {q : Shared} {h : Heap} (k : Kp G.base q.heap p.heap) (x : ExcTr G p.heap h ea c) : ExcTr G q.heap h ea c := by
  obtain ⟨dn, n, oe, vs, a0, T, oT, ts, fl, h1, h2, h3, h4, h5, r1, r2, r3, r4, r5⟩ := x
  have st : ∀ b, (still G p.heap).get? b = none → (still G q.heap).get? b = none := fun b hb => by
    cases w : (still G q.heap).get? b with
    | none => rfl
    | some o =>
      obtain ⟨a, cc⟩ := still_get w
      rw [still_of ((k.kp b o a).1 cc) cc] at hb; cases hb
  exact ⟨dn, st _ n, oe, vs, a0, T, oT, ts, fl, h1, h2, h3, h4, h5, st _ r1, r2, r3, r4, r5⟩
theorem ExcTr.but {h h' : Heap} {C : Addr} {m : Str → Option Value} (hn : h.Ns C m) (hs : Heap.SameBut C h h') (x : ExcTr G p.heap h ea c) : ExcTr G p.heap h' ea c := by
  obtain ⟨dn, n, oe, vs, a0, T, oT, ts, fl, h1, h2, h3, h4, h5, r1, r2, r3, r4, r5⟩ := x
  have ne : ∀ b (o : Obj) us, h.get? b = some o → o.data = .fields us → b ≠ C := fun b o us e d z => by
    obtain ⟨o', es, ep, e', d', _⟩ := hn
    rw [z, e'] at e; cases e
    rw [d'] at d; cases d
  have e1 := hs.extBut ea _ (ne ea _ _ h1 h3) h1
  exact ⟨fun o e => by rw [e1] at e; cases e; exact dn _ h1, n, oe, vs, a0, T, oT, ts, fl, e1, h2, h3, h4, h5, r1, r2, hs.extBut T _ (ne T _ _ r3 r4) r3, r4, r5⟩
end
end Mine

namespace Mine
open PySem PyProof.Rows PySem.W

inductive XP (G : Gd) (p : Shared) (c : Str) (e : Value) (s' : Shared) : Prop
  | mk (ea : Addr) (h : e = .ref ea) (E : Ext G p s') (x : ExcOK G p.heap s'.heap ea c) : XP G p c e s'
theorem XP.pre {G : Gd} {p s s' : Shared} {c : Str} {e : Value} (k : Ext G p s) (x : XP G s c e s') : XP G p c e s' := by
  obtain ⟨ea, rfl, e1, dn, n, oe, vs, a0, h1, h2, h3, h4, h5⟩ := x
  have st : ∀ b, (still G s.heap).get? b = none → (still G p.heap).get? b = none := fun b hb => by
    cases q : (still G p.heap).get? b with
    | none => rfl
    | some o =>
      obtain ⟨a, cc⟩ := still_get q
      rw [still_of ((k.1.kp b o a).1 cc) cc] at hb; cases hb
  refine ⟨ea, rfl, k.trans e1, dn, st _ n, oe, vs, a0, h1, h2, h3, h4, ?_⟩
  cases h5 with
  | no q => exact .no q
  | yes T oT ts fl q1 q2 q3 q4 q5 q6 => exact .yes T oT ts fl q1 (st _ q2) q3 q4 q5 q6

noncomputable def RM (G : Gd) (pre h : Heap) (m : Md) (v : AV) (x : Value) : Prop := match m with
  | .fr => VR G (fun a => (pre.get? a).isSome = true) h v x
  | .ow => RtO G (fun a => (pre.get? a).isSome = true) pre h v x
  | _ => False

noncomputable def Callee (G : Gd) (a : Addr) : Prop := ∀ (M : Model) (h : Heap), G.base.StaysIn h → ∃ k, (k = Keeper.frame ∨ k = Keeper.machine ∨ k = Keeper.boundFrame) ∧ Looks M h (keeperOf (.ref a)) k
theorem Callee.fn {G : Gd} {a : Addr} {o : Obj} {fd : FuncData} (e : G.base.get? a = some o) (d : o.data = .func fd) : Callee G a := fun M h st => by
  obtain ⟨c, di, dt, sl⟩ := o
  subst d
  exact ⟨.frame, .inl rfl, (Looks.ld (part := none) (st _ _ e)).andThen .now⟩
noncomputable def SemAt (G : Gd) (d : Nat) (hd : Bool) (a : Addr) (args : List AV) (Q : AV → Md → Prop) (X : Str → Prop) : Prop :=
  ∀ (A : Around) (fr : List Env) (s : Shared) (xs : List Value), A.frames = some fr → A.depth + d < recursionLimit → A.units + 10 * d + 20 < cLine → (hd = true → A.handled = none) →
    Kp G.base G.base s.heap → s.heap.FunFrames G.base fr → FsOk s.heap fr → s.gens = G.gens → s.os = G.os → VRs G (fun _ => False) s.heap args xs →
    codeAny (model G.prog G.w) A (.call (.ref a) ⟨xs, []⟩) (fun r s' => match r with
      | .ok (.ret v) => ∃ av m, Q av m ∧ Ext G s s' ∧ RM G s.heap s'.heap m av v
      | .ok _ => False
      | .error e => ∃ c, X c ∧ XP G s c e s') s
noncomputable def SemCall (G : Gd) (d : Nat) (hd : Bool) (f : Str) (args : List AV) (Q : AV → Md → Prop) (X : Str → Prop) : Prop :=
  ∃ a, G.mg f = some (.ref a) ∧ SemAt G d hd a args Q X

theorem SemCall.deep {G : Gd} {d d' : Nat} {hd : Bool} {f : Str} {args : List AV} {Q : AV → Md → Prop} {X : Str → Prop} (h : SemCall G d hd f args Q X) (k : d ≤ d') : SemCall G d' hd f args Q X := by
  obtain ⟨a, h1, h⟩ := h
  exact ⟨a, h1, fun A fr s xs q1 q2 q3 q4 q5 q6 q7 q8 q9 q10 => h A fr s xs q1 (by (first | lia | omega)) (by (first | lia | omega)) q4 q5 q6 q7 q8 q9 q10⟩

noncomputable def VMs (G : Gd) (cx : Cx) (ρ : Rho) (vals : Vals) (pre h : Heap) : List (AV × Md) → List Value → Prop
  | [], [] => True
  | (v, m) :: vs, x :: xs => VM G cx ρ vals pre h m v x ∧ VMs G cx ρ vals pre h vs xs
  | _, _ => False
theorem VMs.read {G : Gd} {cx : Cx} {ρ : Rho} {vals : Vals} {s : Shared} {h : Heap} : ∀ {vs : List (AV × Md)} {xs : List Value}, VMs G cx ρ vals s.heap h vs xs → VRs G (fun _ => False) h (vs.map (·.1)) xs
  | [], [], e => e
  | (_, _) :: _, _ :: _, ⟨a, b⟩ => ⟨a.read (s := s), VMs.read b⟩

noncomputable def BiAt (G : Gd) (f : Str) (F : Value) : Prop := G.mg f = none ∧ bootBuiltins f = some F ∧ f ≠ "__name__" ∧ ((∃ T, F = .type T) ∨ ∃ id, F = .builtin id)

noncomputable def BiOk (G : Gd) (bis : Str → List (AV × Md) → Option (AV × Md)) : Prop :=
  ∀ f vs r, bis f vs = some r → ∃ F, BiAt G f F ∧ ∀ (A : Around) (cx : Cx) (ρ : Rho) (vals : Vals) (s0 s : Shared) (xs : List Value) (E : Value → Shared → Prop), A.units + 20 < cLine → cx.Ok G →
    St G cx ρ vals s0 → BadLt cx s0 → Ext G s0 s → VMs G cx ρ vals s0.heap s.heap vs xs →
    wpAny (model G.prog G.w) A (call F xs) (fun v s' => Ext G s s' ∧ VM G cx ρ vals s0.heap s'.heap r.2 r.1 v) E s

noncomputable def LBiOk (G : Gd) (bis : Str → List (AV × Md) → Option (AV × Md)) : Prop :=
  ∀ f vs r, bis f vs = some r → ∃ F, BiAt G f F ∧ ∀ (A : Around) (cx : Cx) (ρ : Rho) (vals : Vals) (s0 s : Shared) (xs : List Value) (E : Value → Shared → Prop), A.units + 20 < cLine → A.handled = none → cx.Ok G →
    St G cx ρ vals s0 → BadLt cx s0 → Ext G s0 s → VMs G cx ρ vals s0.heap s.heap vs xs →
    wpAny (model G.prog G.w) A (call F xs) (fun v s' => Ext G s s' ∧ VM G cx ρ vals s0.heap s'.heap r.2 r.1 v) E s

noncomputable def NameAt (G : Gd) (f : Str) (F : Value) : Prop := G.mg f = some F ∨ (G.mg f = none ∧ bootBuiltins f = some F ∧ f ≠ "__name__")
theorem BiAt.name {G : Gd} {f : Str} {F : Value} (x : BiAt G f F) : NameAt G f F := .inr ⟨x.1, x.2.1, x.2.2.1⟩

noncomputable def SubOk (G : Gd) (t : Th) : Prop := ∀ c C b, t.sub c C = some b → ∃ F, NameAt G C F ∧ ∀ (A : Around) (s : Shared) (ea : Addr) (o : Obj) (E : Value → Shared → Prop) (Q : Bool → Shared → Prop),
  Kp G.base G.base s.heap → s.heap.get? ea = some o → G.cls c = some o.cls → Q b s → wpAny (model G.prog G.w) A (excMatches (.ref ea) F) Q E s

structure ThOk (G : Gd) (cx : Cx) (t : Th) : Prop where
  data : ∀ n v, t.data n = some v → ∃ x, G.mg n = some x ∧ VR G (fun a => G.base.get? a = none) G.base v x
  call : ∀ f args Q X, t.call f args Q X → SemCall G cx.d t.loops f args Q X
  callH : ∀ f args Q X, t.callH f args Q X → SemCall G cx.d false f args Q X
  loops : t.loops = true → cx.A.handled = none
  bis : BiOk G t.bis
  isi : ∀ v f b, isinst t v f = some b → BiAt G (Str.ofString "isinstance") (.builtin "isinstance") ∧ ∃ F, NameAt G f F ∧
    ∀ (A : Around) (s : Shared) (x : Value) (E : Value → Shared → Prop), A.units + 20 < cLine → Kp G.base G.base s.heap → VR G (fun _ => False) s.heap v x →
      wpAny (model G.prog G.w) A (PySem.call (.builtin "isinstance") [x, F]) (fun r s' => r = .bool b ∧ Ext G s s') E s
  sub : SubOk G t
  lbis : LBiOk G t.lbis

theorem VM.data {G : Gd} {cx : Cx} {ρ : Rho} {vals : Vals} {s : Shared} {v : AV} {x : Value} {pre : Heap} (O : cx.Ok G) (S : St G cx ρ vals s) (q : VR G (fun a => G.base.get? a = none) G.base v x) : VM G cx ρ vals pre s.heap .sh v x := by
  refine VR.kp (O.bsz.trans S.ent) _ _ (VR.off (fun a e => .inr ?_) _ _ q)
  have : cx.h0.get? a = none := by
    rcases e with ⟨i, w, m, e1, e2⟩ | e
    · obtain ⟨y, a1, a2⟩ := S.bnd i w m e1
      rw [a1] at e2
      exact (a2.own e2).1
    · exact O.badGe a e
  cases q : G.base.get? a with
  | none => rfl
  | some o => exact (ex_none (O.bsz.kp a o q).2.2 this).elim

theorem RM.vm {G : Gd} {cx : Cx} {ρ : Rho} {vals : Vals} {s0 s : Shared} {h : Heap} {m : Md} {v : AV} {x : Value} (S : St G cx ρ vals s0) (B : BadLt cx s0) (X : Ext G s0 s) (q : RM G s.heap h m v x) : VM G cx ρ vals s0.heap h m v x := by
  have lt : ∀ a, fS cx ρ vals a → (s.heap.get? a).isSome = true := fun a e => by
    have : ∃ o, s0.heap.get? a = some o := by
      rcases e with e | e | e
      · exact S.mu_there e
      · exact B a e
      · exact S.ent_there e
    obtain ⟨o, e⟩ := this
    obtain ⟨o', e'⟩ := (X.1.kp a o e).2.2
    rw [e']; rfl
  cases m
  · exact q.elim
  · exact VR.off (fun a e => .inl (lt a e)) _ _ q
  · obtain ⟨r, e, k, R⟩ := q
    exact ⟨r, e, fresh_of X k, R.off fun a e => .inl (e.imp (lt a) id)⟩
  · exact q.elim

end Mine

namespace Mine
open PySem PyProof.Rows PySem.W

inductive EP (G : Gd) (cx : Cx) (ρ : Rho) (vals : Vals) (s : Shared) (Q : AV → Md → Prop) (v : Value) (s' : Shared) : Prop
  | mk (a : AV) (m : Md) (h : Q a m) (E : Ext G s s') (q : VM G cx ρ vals s.heap s'.heap m a v) : EP G cx ρ vals s Q v s'
noncomputable def EOK (G : Gd) (cx : Cx) (t : Th) (e : Expr) (me : ME) : Prop :=
  ∀ ρ vals s Q X, St G cx ρ vals s → BadLt cx s → wpE t me ρ Q X →
    wpAny (model G.prog G.w) cx.A (eval e cx.env) (EP G cx ρ vals s Q) (fun e s' => ∃ c, X c ∧ XP G s c e s') s
noncomputable def TOK (G : Gd) (cx : Cx) (t : Th) (e : Expr) (me : ME) : Prop :=
  ∀ ρ vals s Q X, St G cx ρ vals s → BadLt cx s → wpT t me ρ Q X →
    wpAny (model G.prog G.w) cx.A (isTrue e cx.env (eval e cx.env)) (fun b s' => Q b ∧ Ext G s s') (fun e s' => ∃ c, X c ∧ XP G s c e s') s

section
variable {G : Gd} {cx : Cx} {t : Th} {e : Expr} {me : ME} {ρ : Rho} {vals : Vals} {s s₀ : Shared} {X : Str → Prop} {Qf Ef : Value → Shared → Prop}

theorem EOK.seq (he : EOK G cx t e me) {K : AV → Md → Prop} (S : St G cx ρ vals s₀) (B : BadLt cx s₀) (k0 : Ext G s₀ s) (hw : wpE t me ρ K X)
    (hk : ∀ a m v s1, K a m → Ext G s₀ s1 → Ext G s s1 → VM G cx ρ vals s₀.heap s1.heap m a v → Qf v s1) (hx : ∀ c ev s1, X c → XP G s₀ c ev s1 → Ef ev s1) :
    wpAny (model G.prog G.w) cx.A (eval e cx.env) Qf Ef s :=
  wpAny_mono (he ρ vals s K X (S.ext k0) (B.ext k0) hw) (fun v s1 ⟨a, m, q, e1, vm⟩ => hk a m v s1 q (k0.trans e1) e1 (vm.pre fun b o e => (k0.1.kp b o e).2.2)) fun ev s1 ⟨c, q, x⟩ => hx c ev s1 q (x.pre k0)
theorem TOK.seq (he : TOK G cx t e me) {K : Bool → Prop} {Qb : Bool → Shared → Prop} (S : St G cx ρ vals s₀) (B : BadLt cx s₀) (k0 : Ext G s₀ s) (hw : wpT t me ρ K X)
    (hk : ∀ b s1, K b → Ext G s₀ s1 → Qb b s1) (hx : ∀ c ev s1, X c → XP G s₀ c ev s1 → Ef ev s1) :
    wpAny (model G.prog G.w) cx.A (isTrue e cx.env (eval e cx.env)) Qb Ef s :=
  wpAny_mono (he ρ vals s K X (S.ext k0) (B.ext k0) hw) (fun v s1 ⟨q, e1⟩ => hk v s1 q (k0.trans e1)) fun ev s1 ⟨c, q, x⟩ => hx c ev s1 q (x.pre k0)

theorem eok_cst {c : Const} {k : Nat} {pos : Pos} {v : AV} (h : compConst c = some v) : EOK G cx t (.Constant c k pos) (.cst v) := by
  intro ρ vals s Q X S B hw
  have hw : Q v .fr := hw
  cases c <;> try (cases h; done)
  · cases h; exact wpAny_Constant_none ⟨_, _, hw, Ext.refl .., rfl⟩
  · cases h; exact wpAny_Constant_bool ⟨_, _, hw, Ext.refl .., rfl⟩
  · cases h; exact wpAny_Constant_int ⟨_, _, hw, Ext.toks .., _, rfl⟩
  · rename_i s'
    have h : (if (s'.length ≤ 1000000 && s'.cps.toList.all (· < 0x110000)) = true then some (AV.str s') else none) = some v := h
    split at h
    · rename_i hc
      cases h
      simp only [Bool.and_eq_true, decide_eq_true_eq] at hc
      have hc2 := hc.2
      rw [Array.all_toList] at hc2
      exact wpAny_Constant_str ⟨_, _, hw, Ext.toks .., by have : top = 16777216 := rfl; (first | lia | omega), hc2, _, rfl⟩
    · cases h

theorem idx_go {x : Str} : ∀ {Γ : List (Option Str)} {k i : Nat}, idx.go x Γ k = some i → k ≤ i ∧ Γ[i - k]? = some (some x)
  | [], _, _, h => by cases h
  | some y :: r, k, i, h => by
    have h : (if (y == x) = true then some k else idx.go x r (k + 1)) = some i := h
    split at h
    · rename_i hy; cases h; simp [beq_iff_eq.mp hy]
    · obtain ⟨a, b⟩ := idx_go h
      refine ⟨by (first | lia | omega), ?_⟩
      rw [show i - k = (i - (k + 1)) + 1 by (first | lia | omega)]; simpa using b
  | none :: r, k, i, h => by
    have h : idx.go x r (k + 1) = some i := h
    obtain ⟨a, b⟩ := idx_go h
    refine ⟨by (first | lia | omega), ?_⟩
    rw [show i - k = (i - (k + 1)) + 1 by (first | lia | omega)]; simpa using b
theorem idx_get {Γ : List (Option Str)} {x : Str} {i : Nat} (h : idx Γ x = some i) : Γ[i]? = some (some x) := by simpa using (idx_go h).2

noncomputable def Raisable (G : Gd) (c : Str) : Prop := ∃ C B newId initId bm, OwnCls c C bm newId G.mg G.base ∧ ExcBaseFacts B newId initId bm ∧ G.cls c = some (.ref C)

structure CcOk (G : Gd) (cx : Cx) (cc : CC) : Prop where
  fns : ∀ f, cc.fns.contains f = true → ∃ a, G.mg f = some (.ref a) ∧ Callee G a
  bis : ∀ f, cc.bis.contains f = true → ∃ F, BiAt G f F
  cls : ∀ f, cc.cls.contains f = true → ∃ F, NameAt G f F ∧ Raisable G f
  Γ : cx.Γ = cc.Γ
  kinds : ∀ x k, cc.names.lookup x = some k → cx.env.kindOf x = some k ∨ (k = .free ∧ cx.env.kindOf x = some .cell)
  cells : ∀ x, cc.names.lookup x = some .cell → ∃ c, cx.env.cells.lookup x = some c

theorem join_some {α : Type} {l : List (Option α)} {i : Nat} {x : α} (h : l[i]?.join = some x) : l[i]? = some (some x) := by
  cases q : l[i]? with
  | none => rw [q] at h; cases h
  | some o => rw [q] at h; cases o with
    | none => cases h
    | some y => cases h; rfl

theorem eok_var {cc : CC} {x : Str} {pos : Pos} {i : Nat} (O : cx.Ok G) (C : CcOk G cx cc) (hv : cc.isVar x = true) (hd : (x == Str.ofString "__debug__") = false) (hc : (x == Str.ofString "__classdict__") = false) (hi : idx cc.Γ x = some i) :
    EOK G cx t (.Name x pos) (.var i) := by
  intro ρ vals s Q X S B hw
  obtain ⟨⟨v, m⟩, e, q⟩ : need (ρ[i]?.join) fun (v, m) => Q v (slotMd m) := hw
  obtain ⟨y, ey, sv⟩ := S.bnd i v m (join_some e)
  have va := S.vars i x (by rw [C.Γ]; exact idx_get hi)
  rw [ey] at va
  have post : EP G cx ρ vals s Q y s := by
    refine ⟨v, slotMd m, q, Ext.refl .., ?_⟩
    cases m
    · exact sv
    · exact sv
    · obtain ⟨r, a, b, c, d⟩ := sv; exact ⟨r, a, b, d⟩
  refine wpAny_Name ?_ hd
  unfold CC.isVar at hv
  unfold VarAt at va
  split at hv
  · rename_i h
    rcases C.kinds x _ h with h1 | ⟨h1, _⟩
    · rw [h1] at va
      obtain ⟨mm, n1, n2⟩ := va
      exact wpAny_loadName_local O.kind h1 n1 n2 post
    · cases h1
  · rename_i h
    rcases C.kinds x _ h with h1 | ⟨h1, _⟩
    · rw [h1] at va
      obtain ⟨c, n1, n2⟩ := va
      exact wpAny_loadName_cell O.kind h1 n1 n2 post
    · cases h1
  · rename_i h
    rcases C.kinds x _ h with h1 | ⟨_, h1⟩
    · rw [h1] at va
      obtain ⟨c, n1, n2⟩ := va
      exact wpAny_loadName_free O.kind h1 n1 n2 post hc
    · rw [h1] at va
      obtain ⟨c, n1, n2⟩ := va
      exact wpAny_loadName_cell O.kind h1 n1 n2 post
  · cases hv

theorem var_val {E : Value → Shared → Prop} {Q : Value → Shared → Prop} {cc : CC} {x : Str} {pos : Pos} {i : Nat} {y : Value} (O : cx.Ok G) (C : CcOk G cx cc) (S : St G cx ρ vals s) (hv : cc.isVar x = true) (hd : (x == Str.ofString "__debug__") = false) (hc : (x == Str.ofString "__classdict__") = false) (hi : idx cc.Γ x = some i)
    (ey : vals[i]? = some (some y)) (h : Q y s) : wpAny (model G.prog G.w) cx.A (eval (.Name x pos) cx.env) Q E s := by
  have va := S.vars i x (by rw [C.Γ]; exact idx_get hi)
  rw [ey] at va
  refine wpAny_Name ?_ hd
  unfold CC.isVar at hv
  unfold VarAt at va
  split at hv
  · rename_i q
    rcases C.kinds x _ q with h1 | ⟨h1, _⟩
    · rw [h1] at va
      obtain ⟨mm, n1, n2⟩ := va
      exact wpAny_loadName_local O.kind h1 n1 n2 h
    · cases h1
  · rename_i q
    rcases C.kinds x _ q with h1 | ⟨h1, _⟩
    · rw [h1] at va
      obtain ⟨c, n1, n2⟩ := va
      exact wpAny_loadName_cell O.kind h1 n1 n2 h
    · cases h1
  · rename_i q
    rcases C.kinds x _ q with h1 | ⟨_, h1⟩
    · rw [h1] at va
      obtain ⟨c, n1, n2⟩ := va
      exact wpAny_loadName_free O.kind h1 n1 n2 h hc
    · rw [h1] at va
      obtain ⟨c, n1, n2⟩ := va
      exact wpAny_loadName_cell O.kind h1 n1 n2 h
  · cases hv

theorem getMu_at {i : Nat} {a : AV} (h : getMu ρ i = some a) : ρ[i]? = some (some (a, .mu)) := by
  unfold getMu at h
  split at h
  · rename_i v q; cases h; exact join_some q
  · cases h

theorem St.base (O : cx.Ok G) (S : St G cx ρ vals s) : Kp G.base G.base s.heap := O.bsz.trans S.ent

theorem name_ok {E : Value → Shared → Prop} {Q : Value → Shared → Prop} {cc : CC} {x : Str} {pos : Pos} {F : Value} (O : cx.Ok G) (C : CcOk G cx cc) (K : Kp G.base G.base s.heap) (hg : cc.isGlob x = true) (hd : (x == Str.ofString "__debug__") = false) (hF : NameAt G x F) (h : Q F s) :
    wpAny (model G.prog G.w) cx.A (eval (.Name x pos) cx.env) Q E s := by
  have hk : cx.env.kindOf x = some .globalImplicit := by
    unfold CC.isGlob at hg
    split at hg
    · rename_i q; rcases C.kinds x _ q with a | ⟨a, _⟩
      · exact a
      · cases a
    · cases hg
  refine Calls.Name_function_global O.kind hk ?_ hd
  have gk := K.ns G.g
  have bk := K.ns G.b
  rw [← O.glob] at gk
  rw [← O.blt] at bk
  rcases hF with hF | ⟨h1, h2, h3⟩
  · exact Calls.loadGlobal_global gk hF h
  · exact Calls.loadGlobal_builtin gk h1 bk ((G.blt x h3).trans h2) h

end
end Mine

namespace Mine
open PySem PyProof.Rows PySem.W

section
variable {G : Gd} {cx : Cx} {t : Th} {ρ : Rho} {vals : Vals} {s s₀ : Shared}

theorem eok_gv {cc : CC} {x : Str} {pos : Pos} (O : cx.Ok G) (C : CcOk G cx cc) (T : ThOk G cx t) (hg : cc.isGlob x = true) (hd : (x == Str.ofString "__debug__") = false) : EOK G cx t (.Name x pos) (.gv x) := by
  intro ρ vals s Q X S B hw
  obtain ⟨v, e, q⟩ : need (t.data x) fun v => Q v .sh := hw
  obtain ⟨y, e1, e2⟩ := T.data x v e
  exact name_ok O C (S.base O) hg hd (.inl e1) ⟨v, _, q, Ext.refl .., VM.data O S e2⟩

theorem eok_bin {l r : Expr} {a b : ME} {op : Operator} {pos : Pos} (ha : EOK G cx t l a) (hb : EOK G cx t r b) : EOK G cx t (.BinOp l op r pos) (.bin op a b) := by
  intro ρ vals s Q X S B hw
  have hw : wpE t a ρ (fun va ma => wpE t b ρ (fun vb mb => need (binop op va vb) fun r => Q r (binMd op va ma vb mb r)) X) X := hw
  refine wpAny_BinOp (ha.seq S B (Ext.refl ..) hw (fun va ma v s1 h1 e1 _ q1 => ?_) fun c ev s1 h x => ⟨c, h, x⟩)
  refine hb.seq S B e1 h1 (fun vb mb w s2 h2 e2 e12 q2 => ?_) fun c ev s1 h x => ⟨c, h, x⟩
  obtain ⟨rr, er, hr⟩ := h2
  exact wpAny_mono (binop_ok S B e2 (q1.kp e12.1) q2 er) (fun v s3 ⟨x1, x2⟩ => ⟨rr, _, hr, e2.trans x1, x2⟩) fun _ _ x => x

theorem eok_neg {x : Expr} {a : ME} {pos : Pos} (ha : EOK G cx t x a) : EOK G cx t (.UnaryOp .USub x pos) (.neg a) := by
  intro ρ vals s Q X S B hw
  rw [wpE_neg] at hw
  refine wpAny_UnaryOp (ha.seq S B (Ext.refl ..) hw (fun va ma v s1 h1 e1 _ q1 => ?_) fun c ev s1 h x => ⟨c, h, x⟩)
  cases va <;> try exact h1.elim
  obtain ⟨u, rfl⟩ := q1.read
  exact P.neg_int ⟨_, _, h1, e1.trans (Ext.toks ..), _, rfl⟩

theorem eok_not {x : Expr} {a : ME} {pos : Pos} (ha : EOK G cx t x a) : EOK G cx t (.UnaryOp .Not x pos) (.not a) := by
  intro ρ vals s Q X S B hw
  have hw : wpE t a ρ (fun va _ => need (truth va) fun b => Q (.bool !b) .fr) X := hw
  refine wpAny_UnaryOp (ha.seq S B (Ext.refl ..) hw (fun va ma v s1 h1 e1 _ q1 => ?_) fun c ev s1 h x => ⟨c, h, x⟩)
  obtain ⟨b, eb, hb⟩ := h1
  exact not_of (wpAny_mono (truth_ok q1.read eb) (fun c s2 ⟨ec, e2⟩ => ⟨_, _, hb, e1.trans e2, by rw [ec]; rfl⟩) fun _ _ x => x)

theorem noSet_marks {op : CmpOp} {r : Expr} (h : ∀ es k p, r ≠ .Set es k p) : behindInMarks op r = false := by
  cases r <;> first | rfl | exact absurd rfl (h _ _ _)

theorem cmp_pair {l r : Expr} {a b : ME} {op : CmpOp} {X : Str → Prop} {K : AV → AV → Prop} {Qf : Value → Shared → Prop} (O : cx.Ok G) (ha : EOK G cx t l a) (hb : EOK G cx t r b) (S : St G cx ρ vals s) (B : BadLt cx s)
    (hw : wpE t a ρ (fun va _ => wpE t b ρ (fun vb _ => K va vb) X) X)
    (hk : ∀ va vb r s2, K va vb → cmpop op va vb = some r → Ext G s s2 → Qf (.bool r) s2) (hd : ∀ va vb, K va vb → ∃ r, cmpop op va vb = some r) :
    wpAny (model G.prog G.w) cx.A (eval l cx.env) (fun x s1 => wpAny (model G.prog G.w) cx.A (eval r cx.env) (fun y s2 => wpAny (model G.prog G.w) cx.A (compareOp op x y) Qf (fun e s' => ∃ c, X c ∧ XP G s c e s') s2) (fun e s' => ∃ c, X c ∧ XP G s c e s') s1) (fun e s' => ∃ c, X c ∧ XP G s c e s') s := by
  refine ha.seq S B (Ext.refl ..) hw (fun va ma v s1 h1 e1 _ q1 => ?_) fun c ev s1 h x => ⟨c, h, x⟩
  refine hb.seq S B e1 h1 (fun vb mb w s2 h2 e2 e12 q2 => ?_) fun c ev s1 h x => ⟨c, h, x⟩
  obtain ⟨rr, er⟩ := hd _ _ h2
  have hu := O.units
  exact wpAny_mono (cmpop_ok (by (first | lia | omega)) (q1.kp e12.1).read q2.read er) (fun v s3 ⟨x1, x2⟩ => by rw [x1]; exact hk _ _ _ _ h2 er (e2.trans x2)) fun _ _ x => x

theorem eok_cmp {l r : Expr} {a b : ME} {op : CmpOp} {pos : Pos} (O : cx.Ok G) (ha : EOK G cx t l a) (hb : EOK G cx t r b) (hs : ∀ es k p, r ≠ .Set es k p) : EOK G cx t (.Compare l [op] [r] pos) (.cmp op a b) := by
  intro ρ vals s Q X S B hw
  have hw : wpE t a ρ (fun va _ => wpE t b ρ (fun vb _ => need (cmpop op va vb) fun r => Q (.bool r) .fr) X) X := hw
  refine wpAny_Compare1 (cmp_pair O ha hb S B hw (fun va vb r s2 h e x => ?_) fun va vb h => ?_) (noSet_marks hs)
  · obtain ⟨r', e', h'⟩ := h; rw [e] at e'; cases e'; exact ⟨_, _, h', x, rfl⟩
  · obtain ⟨r', e', _⟩ := h; exact ⟨r', e'⟩
theorem tok_cmp {l r : Expr} {a b : ME} {op : CmpOp} {pos : Pos} (O : cx.Ok G) (ha : EOK G cx t l a) (hb : EOK G cx t r b) (hs : ∀ es k p, r ≠ .Set es k p) : TOK G cx t (.Compare l [op] [r] pos) (.cmp op a b) := by
  intro ρ vals s Q X S B hw
  have hw : wpE t a ρ (fun va _ => wpE t b ρ (fun vb _ => need (cmpop op va vb) Q) X) X := hw
  refine wpAny_isTrue_Compare1 (cmp_pair O ha hb S B hw (fun va vb r s2 h e x => ?_) fun va vb h => ?_) (noSet_marks hs)
  · obtain ⟨r', e', h'⟩ := h; rw [e] at e'; cases e'; exact wpAny_truthy_bool ⟨h', x⟩
  · obtain ⟨r', e', _⟩ := h; exact ⟨r', e'⟩

theorem tok_val {e : Expr} {me : ME} (he : EOK G cx t e me) (hw' : ∀ ρ Q X, wpT t me ρ Q X → wpE t me ρ (fun v _ => need (truth v) Q) X)
    (hi : ∀ whole, isTrue e cx.env whole = (do let v ← whole; standAt e.pos; holding [v] (truthy v))) : TOK G cx t e me := by
  intro ρ vals s Q X S B hw
  refine wpAny_isTrue_value (he.seq S B (Ext.refl ..) (hw' ρ Q X hw) (fun va ma v s1 h1 e1 _ q1 => ?_) fun c ev s1 h x => ⟨c, h, x⟩) (hi _)
  obtain ⟨b, eb, hb⟩ := h1
  exact wpAny_mono (truth_ok q1.read eb) (fun c s2 ⟨ec, e2⟩ => ⟨by rw [ec]; exact hb, e1.trans e2⟩) fun _ _ x => x

theorem tok_not {x : Expr} {a : ME} {pos : Pos} (ha : TOK G cx t x a) : TOK G cx t (.UnaryOp .Not x pos) (.not a) := by
  intro ρ vals s Q X S B hw
  have hw : wpT t a ρ (fun b => Q !b) X := hw
  exact wpAny_isTrue_Not (ha.seq S B (Ext.refl ..) hw (fun b s1 h e => ⟨h, e⟩) fun c ev s1 h x => ⟨c, h, x⟩)

inductive AllE (P : Expr → ME → Prop) : List Expr → List ME → Prop
  | nil : AllE P [] []
  | cons {e : Expr} {me : ME} {es : List Expr} {mes : List ME} : P e me → AllE P es mes → AllE P (e :: es) (me :: mes)

theorem tok_allTrue {op : BoolOp} {es : List Expr} {mes : List ME} (h : AllE (TOK G cx t) es mes) : ∀ {s : Shared} {ρ : Rho} {vals : Vals} {Q : Bool → Prop} {X : Str → Prop}, St G cx ρ vals s₀ → BadLt cx s₀ → Ext G s₀ s → wpTs t (op == .And) mes ρ Q X →
    wpAny (model G.prog G.w) cx.A (allTrue op es cx.env) (fun b s' => Q b ∧ Ext G s₀ s') (fun e s' => ∃ c, X c ∧ XP G s₀ c e s') s := by
  induction h with
  | nil =>
    intro s ρ vals Q X S B k hw
    have hw : Q (op == .And) := hw
    cases op
    · exact wpAny_allTrue_And_nil ⟨hw, k⟩
    · exact wpAny_allTrue_Or_nil ⟨hw, k⟩
  | @cons e me es mes he hes ih =>
    intro s ρ vals Q X S B k hw
    have hw : wpT t me ρ (fun b => if b = (op == .And) then wpTs t (op == .And) mes ρ Q X else Q !(op == .And)) X := hw
    cases op
    · refine wpAny_allTrue_And_cons (he.seq S B k hw (fun b s1 h e => ?_) fun c ev s1 h x => ⟨c, h, x⟩)
      cases b
      · exact ⟨by rw [if_neg (by decide)] at h; exact h, e⟩
      · exact ih S B e (by rw [if_pos (by decide)] at h; exact h)
    · refine wpAny_allTrue_Or_cons (he.seq S B k hw (fun b s1 h e => ?_) fun c ev s1 h x => ⟨c, h, x⟩)
      cases b
      · exact ih S B e (by rw [if_pos (by decide)] at h; exact h)
      · exact ⟨by rw [if_neg (by decide)] at h; exact h, e⟩
theorem tok_bop {op : BoolOp} {es : List Expr} {mes : List ME} {pos : Pos} (h : AllE (TOK G cx t) es mes) : TOK G cx t (.BoolOp op es pos) (.bop (op == .And) mes) := by
  intro ρ vals s Q X S B hw
  exact wpAny_isTrue_BoolOp (tok_allTrue h S B (Ext.refl ..) hw)

theorem eok_boolOp {op : BoolOp} {pos : Pos} {es : List Expr} {mes : List ME} (h : AllE (EOK G cx t) es mes) : ∀ {s : Shared} {ρ : Rho} {vals : Vals} {Q : AV → Md → Prop} {X : Str → Prop}, St G cx ρ vals s₀ → BadLt cx s₀ → Ext G s₀ s → wpB t (op == .And) mes ρ Q X →
    wpAny (model G.prog G.w) cx.A (boolOp pos op (evalEach es cx.env)) (EP G cx ρ vals s₀ Q) (fun e s' => ∃ c, X c ∧ XP G s₀ c e s') s := by
  induction h with
  | nil => intro s ρ vals Q X S B k hw; exact False.elim hw
  | @cons e me es mes he hes ih =>
    intro s ρ vals Q X S B k hw
    cases hes with
    | nil =>
      have hw : wpE t me ρ Q X := hw
      exact he.seq S B k hw (fun a m v s1 h e _ q => ⟨a, m, h, e, q⟩) fun c ev s1 h x => ⟨c, h, x⟩
    | @cons e' me' es' mes' he' hes' =>
      have hw : wpE t me ρ (fun v m => need (truth v) fun b => if b = (op == .And) then wpB t (op == .And) (me' :: mes') ρ Q X else Q v m) X := hw
      show wpAny _ _ (do
        let v ← eval e cx.env
        standAt pos
        let t ← holding [v] (truthy v)
        match op, t with
        | .And, false | .Or, true => pure v
        | _, _ => boolOp pos op (evalEach (e' :: es') cx.env)) _ _ s
      refine wpAny_bind (he.seq S B k hw (fun a m v s1 h e1 _ q => wpAny_bind (wpAny_standAt (wpAny_bind (wpAny_holding ?_)))) fun c ev s1 h x => ⟨c, h, x⟩)
      obtain ⟨b, eb, hb⟩ := h
      refine wpAny_mono (truth_ok q.read eb) (fun c s2 ⟨ec, e2⟩ => ?_) fun _ _ x => x
      subst ec
      have q2 := q.kp e2.1
      cases op <;> cases c
      · exact wpAny_pure ⟨a, m, by rw [if_neg (by decide)] at hb; exact hb, e1.trans e2, q2⟩
      · exact ih S B (e1.trans e2) (by rw [if_pos (by decide)] at hb; exact hb)
      · exact ih S B (e1.trans e2) (by rw [if_pos (by decide)] at hb; exact hb)
      · exact wpAny_pure ⟨a, m, by rw [if_neg (by decide)] at hb; exact hb, e1.trans e2, q2⟩
theorem eok_bop {op : BoolOp} {es : List Expr} {mes : List ME} {pos : Pos} (h : AllE (EOK G cx t) es mes) : EOK G cx t (.BoolOp op es pos) (.bop (op == .And) mes) := by
  intro ρ vals s Q X S B hw
  exact eok_boolOp h S B (Ext.refl ..) hw

end
end Mine

namespace Mine
open PySem PyProof.Rows PySem.W

section
variable {G : Gd} {cx : Cx} {t : Th} {ρ : Rho} {vals : Vals} {s s₀ : Shared}

noncomputable def notStar (e : Expr) : Prop := ∀ v p, e ≠ .Starred v p
theorem starEach_plain {e : Expr} {rest : List Expr} {env : Env} (h : notStar e) : starEach (e :: rest) env = (false, eval e env) :: starEach rest env := by
  cases e <;> first | rfl | exact absurd rfl (h _ _)
noncomputable def AOK (G : Gd) (cx : Cx) (t : Th) (e : Expr) (me : ME) : Prop := EOK G cx t e me ∧ notStar e

theorem args_ok {pos : Pos} {es : List Expr} {mes : List ME} (h : AllE (AOK G cx t) es mes) : ∀ {s : Shared} {ρ : Rho} {vals : Vals} {K : List (AV × Md) → Prop} {X : Str → Prop} {Qf : List Value → Shared → Prop} {Ef : Value → Shared → Prop},
    St G cx ρ vals s₀ → BadLt cx s₀ → Ext G s₀ s → wpEs t mes ρ K X → (∀ vs xs s1, K vs → Ext G s₀ s1 → Ext G s s1 → VMs G cx ρ vals s₀.heap s1.heap vs xs → Qf xs s1) → (∀ c ev s1, X c → XP G s₀ c ev s1 → Ef ev s1) →
    wpAny (model G.prog G.w) cx.A (spliced (backTo pos (starEach es cx.env))) Qf Ef s := by
  induction h with
  | nil =>
    intro s ρ vals K X Qf Ef S B k hw hk hx
    exact Calls.spliced_nil (hk [] [] s hw k (Ext.refl ..) trivial)
  | @cons e me es mes he hes ih =>
    intro s ρ vals K X Qf Ef S B k hw hk hx
    rw [starEach_plain he.2]
    have hw : wpE t me ρ (fun v m => wpEs t mes ρ (fun vs => K ((v, m) :: vs)) X) X := hw
    refine Calls.spliced_cons (he.1.seq S B k hw (fun a m v s1 h1 e1 e01 q1 => ?_) hx)
    exact ih S B e1 h1 (fun vs xs s2 h2 e2 e12 q2 => hk _ (v :: xs) s2 h2 e2 (e01.trans e12) ⟨q1.kp e12.1, q2⟩) hx

theorem VMs.fr {h : Heap} (S : St G cx ρ vals s₀) (B : BadLt cx s₀) : ∀ {vs : List (AV × Md)} {xs : List Value}, VMs G cx ρ vals s₀.heap h vs xs → vs.all (fun p => okF p.2 p.1) = true → VRs G (fS cx ρ vals) h (vs.map (·.1)) xs
  | [], [], e, _ => e
  | (_, _) :: _, _ :: _, ⟨a, b⟩, k => by
    simp only [List.all_cons, Bool.and_eq_true] at k
    exact ⟨a.okF S B k.1, VMs.fr S B b k.2⟩
theorem VMs.sh {h : Heap} (S : St G cx ρ vals s₀) (B : BadLt cx s₀) : ∀ {vs : List (AV × Md)} {xs : List Value}, VMs G cx ρ vals s₀.heap h vs xs → (∀ p ∈ vs, p.2 ≠ .bo) → VRs G (sS cx ρ vals) h (vs.map (·.1)) xs
  | [], [], e, _ => e
  | (_, _) :: _, _ :: _, ⟨a, b⟩, k => ⟨a.sh S B (k _ (.head _)), VMs.sh S B b fun p m => k p (.tail _ m)⟩
theorem VMs.length {h pre : Heap} : ∀ {vs : List (AV × Md)} {xs : List Value}, VMs G cx ρ vals pre h vs xs → vs.length = xs.length
  | [], [], _ => rfl
  | (_, _) :: _, _ :: _, ⟨_, b⟩ => by simp [VMs.length b]

theorem eok_tup {es : List Expr} {mes : List ME} {k : Nat} {pos : Pos} (h : AllE (AOK G cx t) es mes) : EOK G cx t (.Tuple es k pos) (.tup mes) := by
  intro ρ vals s Q X S B hw
  rw [wpE_tup] at hw
  refine wpAny_Tuple_spliced (args_ok h S B (Ext.refl ..) hw (fun vs xs s1 ⟨h1, h2, h3⟩ e1 _ q => ?_) fun c ev s1 h x => ⟨c, h, x⟩)
  have hl := q.length
  refine ⟨by rw [← hl, ← top_line]; exact h2, _, _, h3, e1.trans (Ext.heap (t := s1.toks) (Kp.push ..)), ?_⟩
  refine VM.newT (s := s1) (by simpa using h2) (Kp.push ..) (IsTup.new ..) ?_
  split
  · rename_i hf; exact q.fr S B hf
  · exact q.sh S B h1
theorem eok_lst {es : List Expr} {mes : List ME} {pos : Pos} (h : AllE (AOK G cx t) es mes) : EOK G cx t (.List es pos) (.lst mes) := by
  intro ρ vals s Q X S B hw
  rw [wpE_lst] at hw
  refine wpAny_List_spliced (args_ok h S B (Ext.refl ..) hw (fun vs xs s1 ⟨h1, h2, h3⟩ e1 _ q => ?_) fun c ev s1 h x => ⟨c, h, x⟩)
  have hl := q.length
  refine ⟨by rw [← hl, ← top_line]; exact h2, _, _, h3, e1.trans (Ext.heap (t := s1.toks) (Kp.push ..)), ?_⟩
  refine VM.newL S B e1 (by simpa using h2) (Kp.push ..) ⟨_, Heap.get?_push_size _ rfl⟩ ?_
  split
  · rename_i hf; exact q.fr S B hf
  · exact q.sh S B h1

theorem eok_sub {v i : Expr} {a b : ME} {pos : Pos} (ha : EOK G cx t v a) (hb : EOK G cx t i b) (hn : ∀ o p q r, i ≠ .Slice o p q r) : EOK G cx t (.Subscript v i pos) (.sub a b) := by
  intro ρ vals s Q X S B hw
  rw [wpE_sub] at hw
  refine Subscript_ (ha.seq S B (Ext.refl ..) hw (fun va ma x s1 h1 e1 _ q1 => ?_) fun c ev s1 h x => ⟨c, h, x⟩)
  refine hb.seq S B e1 h1 (fun vb mb y s2 h2 e2 e12 q2 => ?_) fun c ev s1 h x => ⟨c, h, x⟩
  obtain ⟨rr, er, hr⟩ := h2
  obtain ⟨g, T, id, ht, hl⟩ := subs_ok (A := cx.A) (E := fun e s' => ∃ c, X c ∧ XP G s c e s') (q1.kp e12.1) q2.read er
  refine tail_any ht hl (wpAny_mono g (fun v s3 ⟨x1, x2⟩ => ⟨rr, _, hr, e2.trans x1, x2⟩) fun _ _ x => x) (ops := [x, y]) ?_
  cases i <;> first | rfl | exact absurd rfl (hn _ _ _ _)

theorem eok_slc {v : Expr} {lo hi : Option Expr} {a l h : ME} {p pos : Pos} (ha : EOK G cx t v a)
    (hl : (lo = none ∧ l = .cst .none) ∨ ∃ e, lo = some e ∧ EOK G cx t e l) (hh : (hi = none ∧ h = .cst .none) ∨ ∃ e, hi = some e ∧ EOK G cx t e h) :
    EOK G cx t (.Subscript v (.Slice lo hi none p) pos) (.slc a l h) := by
  intro ρ vals s Q X S B hw
  rw [wpE_slc] at hw
  have part : ∀ (o : Option Expr) (me : ME), ((o = none ∧ me = .cst .none) ∨ ∃ e, o = some e ∧ EOK G cx t e me) → ∀ (s1 : Shared) (K : AV → Md → Prop) (Qf Ef : Value → Shared → Prop), Ext G s s1 → wpE t me ρ K X →
      (∀ a m v s2, K a m → Ext G s s2 → Ext G s1 s2 → VM G cx ρ vals s.heap s2.heap m a v → Qf v s2) → (∀ c ev s1, X c → XP G s c ev s1 → Ef ev s1) → wpAny (model G.prog G.w) cx.A (evalPart o cx.env) Qf Ef s1 := by
    rintro o me (⟨rfl, rfl⟩ | ⟨e, rfl, he⟩) s1 K Qf Ef k hw hk hx
    · rw [evalPart_none]
      exact wpAny_pure (hk AV.none Md.fr Value.none s1 hw k (Ext.refl ..) (show VR G (fS cx ρ vals) s1.heap AV.none Value.none from rfl))
    · rw [evalPart_some]
      exact he.seq S B k hw hk hx
  refine Subscript_ (ha.seq S B (Ext.refl ..) hw (fun va ma x s1 h1 e1 _ q1 => ?_) fun c ev s1 h x => ⟨c, h, x⟩)
  refine wpAny_Slice (part lo l hl s1 _ _ _ e1 h1 (fun vl ml yl s2 h2 e2 e12 q2 => ?_) fun c ev s1 h x => ⟨c, h, x⟩)
  refine part hi h hh s2 _ _ _ e2 h2 (fun vh mh yh s3 h3 e3 e23 q3 => ?_) fun c ev s1 h x => ⟨c, h, x⟩
  rw [evalPart_none]
  refine wpAny_pure ?_
  obtain ⟨rr, er, hr⟩ := h3
  have kp : Kp G.base s3.heap (s3.heap.push { cls := .type "slice", data := .fields #[yl, yh, .none] }) := Kp.push ..
  have e4 : Ext G s { s3 with heap := s3.heap.push { cls := .type "slice", data := .fields #[yl, yh, .none] } } := e3.trans (Ext.heap (t := s3.toks) kp)
  obtain ⟨g, T, id, ht, hl'⟩ := slices_ok (A := cx.A) (E := fun e s' => ∃ c, X c ∧ XP G s c e s') (s := { s3 with heap := s3.heap.push { cls := .type "slice", data := .fields #[yl, yh, .none] } }) S B e4
    ((q1.kp (e12.trans e23).1).kp kp) ((q2.kp e23.1).kp kp).read (q3.kp kp).read (Heap.IsSliceOf.new ..) er
  exact tail_any ht hl' (wpAny_mono g (fun v s5 ⟨x1, x2⟩ => ⟨rr, _, hr, e4.trans x1, x2⟩) fun _ _ x => x) rfl


theorem evalArgs_ok {F : Value} {pos : Pos} {es : List Expr} {mes : List ME} (h : AllE (AOK G cx t) es mes) {K : List (AV × Md) → Prop} {X : Str → Prop} {Qf : Args → Shared → Prop} {Ef : Value → Shared → Prop}
    (S : St G cx ρ vals s₀) (B : BadLt cx s₀) (k : Ext G s₀ s) (hw : wpEs t mes ρ K X) (hk : ∀ vs xs s1, K vs → Ext G s₀ s1 → Ext G s s1 → VMs G cx ρ vals s₀.heap s1.heap vs xs → Qf ⟨xs, []⟩ s1) (hx : ∀ c ev s1, X c → XP G s₀ c ev s1 → Ef ev s1) :
    wpAny (model G.prog G.w) cx.A (evalArgs F true (backTo pos (starEach es cx.env)) []) Qf Ef s := by
  cases h with
  | nil => exact evalArgs_nil3 (hk [] [] s hw k (Ext.refl ..) trivial)
  | @cons e me es mes he hes =>
    have := args_ok (pos := pos) (AllE.cons he hes) S B k hw hk hx
    rw [starEach_plain he.2] at this ⊢
    exact Calls.evalArgs_plain this
theorem star_any {pos : Pos} {es : List Expr} {mes : List ME} (h : AllE (AOK G cx t) es mes) : (backTo pos (starEach es cx.env)).any (·.1) = false := by
  induction h with
  | nil => rfl
  | cons he _ ih => rw [starEach_plain he.2]; simpa [backTo] using ih

theorem eok_call {cc : CC} {f : Str} {p pos : Pos} {es : List Expr} {mes : List ME} (O : cx.Ok G) (C : CcOk G cx cc) (T : ThOk G cx t) (hg : cc.isGlob f = true) (hd : (f == Str.ofString "__debug__") = false) (hf : cc.fns.contains f = true) (h : AllE (AOK G cx t) es mes) :
    EOK G cx t (.Call (.Name f p) es [] pos) (.call f mes) := by
  intro ρ vals s Q X S B hw
  rw [wpE_call] at hw
  obtain ⟨a, f1, f2⟩ := C.fns f hf
  refine Call_Name rfl (name_ok O C (S.base O) hg hd (.inl f1) ?_)
  refine callWith_of (P := G.base.StaysIn) (by rw [star_any h]; rfl) (f2 _) (evalArgs_ok h S B (Ext.refl ..) hw (fun vs xs s1 h1 e1 _ q => ⟨(S.ext e1).stays, ?_⟩) fun c ev s1 h x => ⟨c, h, x⟩)
  have S1 := S.ext e1
  obtain ⟨a', g1, g⟩ := T.call f _ Q X h1
  rw [f1] at g1; cases g1
  have hu := O.units
  refine wpAny_call (codeAny_mono (g cx.A cx.fr s1 xs O.frames O.room hu T.loops (S1.base O) S1.frames S1.fsok S1.gens S1.os (VMs.read q)) fun r s2 hr => ?_)
  cases r with
  | error e => obtain ⟨c, hc, x⟩ := hr; exact ⟨c, hc, x.pre e1⟩
  | ok fl => cases fl with
    | ret v => obtain ⟨av, m, hq, x1, x2⟩ := hr; exact ⟨av, m, hq, e1.trans x1, x2.vm S B e1⟩
    | _ => exact hr.elim

theorem eok_bi {cc : CC} {f : Str} {p pos : Pos} {es : List Expr} {mes : List ME} (O : cx.Ok G) (C : CcOk G cx cc) (T : ThOk G cx t) (hg : cc.isGlob f = true) (hd : (f == Str.ofString "__debug__") = false) (hf : cc.bis.contains f = true) (h : AllE (AOK G cx t) es mes) :
    EOK G cx t (.Call (.Name f p) es [] pos) (.bi f mes) := by
  intro ρ vals s Q X S B hw
  rw [wpE_bi] at hw
  obtain ⟨F, hF⟩ := C.bis f hf
  have hu := O.units
  refine Call_Name rfl (name_ok O C (S.base O) hg hd hF.name ?_)
  have fin : ∀ (vs : List (AV × Md)) (xs : List Value) (s1 : Shared), (need (t.bis f vs) fun r => Q r.1 r.2) → Ext G s s1 → Ext G s s1 → VMs G cx ρ vals s.heap s1.heap vs xs →
      wpAny (model G.prog G.w) cx.A (PySem.call F ([] ++ (⟨xs, []⟩ : Args).pos) (⟨xs, []⟩ : Args).kw) (EP G cx ρ vals s Q) (fun e s' => ∃ c, X c ∧ XP G s c e s') s1 := by
    rintro vs xs s1 ⟨r, e, hq⟩ e1 _ q
    obtain ⟨F', hF', g⟩ := T.bis f vs r e
    have : F' = F := by have := hF.2.1; rw [hF'.2.1] at this; exact Option.some.inj this
    subst this
    exact wpAny_mono (g cx.A cx ρ vals s s1 xs _ (by (first | lia | omega)) O S B e1 q) (fun v s2 ⟨x1, x2⟩ => ⟨_, _, hq, e1.trans x1, x2⟩) fun _ _ x => x
  rcases hF.2.2.2 with ⟨T', rfl⟩ | ⟨id, rfl⟩
  · exact PyProof.Rows.callWith_type (star_any h) (evalArgs_ok h S B (Ext.refl ..) hw fin fun c ev s1 h x => ⟨c, h, x⟩)
  · exact Calls.callWith_builtin (star_any h) (evalArgs_ok h S B (Ext.refl ..) hw fin fun c ev s1 h x => ⟨c, h, x⟩)

theorem eok_lbi {cc : CC} {f : Str} {p pos : Pos} {es : List Expr} {mes : List ME} (O : cx.Ok G) (C : CcOk G cx cc) (T : ThOk G cx t) (hg : cc.isGlob f = true) (hd : (f == Str.ofString "__debug__") = false) (hf : cc.bis.contains f = true) (h : AllE (AOK G cx t) es mes) :
    EOK G cx t (.Call (.Name f p) es [] pos) (.lbi f mes) := by
  intro ρ vals s Q X S B hw
  rw [wpE_lbi] at hw
  obtain ⟨hl, hw⟩ := hw
  obtain ⟨F, hF⟩ := C.bis f hf
  have hu := O.units
  refine Call_Name rfl (name_ok O C (S.base O) hg hd hF.name ?_)
  have fin : ∀ (vs : List (AV × Md)) (xs : List Value) (s1 : Shared), (need (t.lbis f vs) fun r => Q r.1 r.2) → Ext G s s1 → Ext G s s1 → VMs G cx ρ vals s.heap s1.heap vs xs →
      wpAny (model G.prog G.w) cx.A (PySem.call F ([] ++ (⟨xs, []⟩ : Args).pos) (⟨xs, []⟩ : Args).kw) (EP G cx ρ vals s Q) (fun e s' => ∃ c, X c ∧ XP G s c e s') s1 := by
    rintro vs xs s1 ⟨r, e, hq⟩ e1 _ q
    obtain ⟨F', hF', g⟩ := T.lbis f vs r e
    have : F' = F := by have := hF.2.1; rw [hF'.2.1] at this; exact Option.some.inj this
    subst this
    exact wpAny_mono (g cx.A cx ρ vals s s1 xs _ (by (first | lia | omega)) (T.loops hl) O S B e1 q) (fun v s2 ⟨x1, x2⟩ => ⟨_, _, hq, e1.trans x1, x2⟩) fun _ _ x => x
  rcases hF.2.2.2 with ⟨T', rfl⟩ | ⟨id, rfl⟩
  · exact PyProof.Rows.callWith_type (star_any h) (evalArgs_ok h S B (Ext.refl ..) hw fin fun c ev s1 h x => ⟨c, h, x⟩)
  · exact Calls.callWith_builtin (star_any h) (evalArgs_ok h S B (Ext.refl ..) hw fin fun c ev s1 h x => ⟨c, h, x⟩)

theorem eok_isi {cc : CC} {f : Str} {p p' pos : Pos} {e : Expr} {me : ME} (O : cx.Ok G) (C : CcOk G cx cc) (T : ThOk G cx t) (hg : cc.isGlob (Str.ofString "isinstance") = true) (hgf : cc.isGlob f = true) (hdf : (f == Str.ofString "__debug__") = false)
    (hi : BiAt G (Str.ofString "isinstance") (.builtin "isinstance")) (hF : ∃ F, NameAt G f F) (h : AOK G cx t e me) :
    EOK G cx t (.Call (.Name (Str.ofString "isinstance") p) [e, .Name f p'] [] pos) (.isi me f) := by
  intro ρ vals s Q X S B hw
  rw [wpE_isi] at hw
  have hu := O.units
  obtain ⟨F, hF⟩ := hF
  refine Call_Name rfl (name_ok O C (S.base O) hg (by decide) hi.name ?_)
  rw [starEach_plain h.2]
  refine Calls.callWith_builtin rfl (Calls.evalArgs_plain (Calls.spliced_cons (h.1.seq S B (Ext.refl ..) hw (fun a m v s1 h1 e1 _ q1 => ?_) fun c ev s1 h x => ⟨c, h, x⟩)))
  refine Calls.spliced_cons (name_ok O C ((S.ext e1).base O) hgf hdf hF (Calls.spliced_nil ?_))
  obtain ⟨b, eb, hb⟩ := h1
  obtain ⟨_, F', hF', g⟩ := T.isi a f b eb
  have : F' = F := by
    rcases hF with hF | ⟨n1, n2, _⟩ <;> rcases hF' with hF' | ⟨n1', n2', _⟩
    · rw [hF'] at hF; exact Option.some.inj hF
    · rw [hF] at n1'; cases n1'
    · rw [hF'] at n1; cases n1
    · rw [n2'] at n2; exact Option.some.inj n2
  subst this
  exact wpAny_mono (g cx.A s1 v _ (by (first | lia | omega)) ((S.ext e1).base O) q1.read) (fun r s2 ⟨x1, x2⟩ => ⟨_, _, hb, e1.trans x2, x1⟩) fun _ _ x => x
end
end Mine

namespace Mine
open PySem PyProof.Rows PySem.W

structure IterOk (G : Gd) (A : Around) (h : Heap) (S : Addr → Prop) (xs : List AV) (I : Addr) (fp : List Addr) (P : Nat → Value → Prop) (J : Nat → Heap → Prop) : Prop where
  W : Walks G.prog G.w A I fp [I] xs.length P J
  new : h.get? I = none
  foot : ∀ b ∈ fp, b = I ∨ ∃ o, h.get? b = some o ∧ o.cls ≠ .type "frame" ∧ (o.cls = .type "tuple" ∨ o.cls = .type "list")
  vals : ∀ i v, P i v → i < xs.length → ∃ a, xs[i]? = some a ∧ VR G S h a v
  live : ∀ i h, J i h → ∃ o, h.get? I = some o ∧ itCls o.cls = true

theorem fits_of {i : Int} (h : i.natAbs < 2 ^ 62) : Builtin.Range.rangeFitsLong i = true := by
  have h : i.natAbs < 4611686018427387904 := h
  exact Bool.and_eq_true_iff.mpr ⟨decide_eq_true (show -9223372036854775808 ≤ i by omega), decide_eq_true (show i < 9223372036854775808 by omega)⟩
theorem small_of {lo hi : Int} {n : Nat} (h1 : lo.natAbs < 2 ^ 62) (h2 : hi.natAbs < 2 ^ 62) (hs : Builtin.Range.rangeSize lo hi 1 = (n : Int)) (hn : n ≤ 16777216) : Builtin.Range.small lo hi 1 = true := by
  unfold Builtin.Range.small
  rw [hs, fits_of h1, fits_of h2, fits_of (i := (n : Int)) (Nat.lt_of_le_of_lt hn (by decide))]
  show (true && (_ || Builtin.Range.rangeFitsLong (hi + 0))) = true
  rw [Int.add_zero, fits_of h2, Bool.or_true]; rfl
theorem VRs.el_of {G : Gd} {S : Addr → Prop} {h : Heap} {xs : List AV} {vs : List Value} (r : VRs G S h xs vs) {i : Nat} {v : Value} (e : vs.toArray[i]? = some v) : ∃ a, xs[i]? = some a ∧ VR G S h a v := r.getV (by simpa using e)

section
variable {G : Gd} {cx : Cx} {ρ : Rho} {vals : Vals} {s0 s : Shared} {E : Value → Shared → Prop} {A : Around} {x : Value}

theorem iter_ok (hh : A.handled = none) {v : AV} {m : Md} {xs : List AV} (q : VM G cx ρ vals s0.heap s.heap m v x) (e : items v = some xs) (z : xs.length ≤ top) {Q : Value → Shared → Prop}
    (h : ∀ s1 I fp P J, Ext G s s1 → IterOk G A s.heap (elS cx ρ vals m) xs I fp P J → J 0 s1.heap → (∃ o, s1.heap.get? I = some o ∧ (∃ vs, o.data = .fields vs) ∧ o.cls ≠ .type "frame") → (∀ b ∈ fp, b ≠ I → x = .ref b) → Q (.ref I) s1) :
    wpAny (model G.prog G.w) A (pyIter x) Q E s := by
  have new : s.heap.get? s.heap.objs.size = none := get?_none_of_ge (Nat.le_refl _)
  cases v <;> first | (cases e; done) | (have e := Option.some.inj e; subst e)
  · rename_i w
    obtain ⟨z1, k, t, rfl⟩ := q.read
    have ln : ((sgs w).map fun c => AV.str (txt [c])).length = w.cps.size := (List.length_map ..).trans (Array.length_toList ..)
    have vl : ∀ i v, SignAt w i v → i < ((sgs w).map fun c => AV.str (txt [c])).length → ∃ a, ((sgs w).map fun c => AV.str (txt [c]))[i]? = some a ∧ VR G (elS cx ρ vals m) s.heap a v := fun i v ⟨c, u, ec, ev⟩ _ => by
      refine ⟨.str (txt [c]), ?_, ?_⟩
      · rw [List.getElem?_map, show (sgs w)[i]? = some c by show w.cps.toList[i]? = _; rw [Array.getElem?_toList]; exact ec]; rfl
      · rw [ev]; exact ⟨Nat.le_of_ble_eq_true rfl, strOk_char k ec, u, rfl⟩
    cases ha : w.cps.all (· < 128) with
    | false =>
      have it : IterOk G A s.heap (elS cx ρ vals m) ((sgs w).map fun c => AV.str (txt [c])) s.heap.objs.size [s.heap.objs.size] (SignAt w) (fun i h => h.IsStrIter s.heap.objs.size "str_iterator" w t i) :=
        ⟨by rw [ln]; exact Walks.strWide hh _ w t, new, fun b hb => .inl (List.mem_singleton.mp hb), vl, fun i h hj => by obtain ⟨o, ho, hc, _⟩ := hj; exact ⟨o, ho, by rw [hc]; decide⟩⟩
      exact wpAny_pyIter_wide ha (h _ _ _ _ _ (Ext.heap (t := s.toks) (Kp.push ..)) it ⟨_, Heap.get?_push_size _ rfl, rfl, rfl⟩ ⟨_, Heap.get?_push_size _ rfl, ⟨_, rfl⟩, by simp⟩ fun b hb hne => absurd (List.mem_singleton.mp hb) hne)
    | true =>
      have it : IterOk G A s.heap (elS cx ρ vals m) ((sgs w).map fun c => AV.str (txt [c])) s.heap.objs.size [s.heap.objs.size] (SignAt w) (fun i h => h.IsStrIter s.heap.objs.size "str_ascii_iterator" w t i) :=
        ⟨by rw [ln]; exact Walks.strAscii hh _ w t, new, fun b hb => .inl (List.mem_singleton.mp hb), vl, fun i h hj => by obtain ⟨o, ho, hc, _⟩ := hj; exact ⟨o, ho, by rw [hc]; decide⟩⟩
      exact wpAny_pyIter_ascii ha (h _ _ _ _ _ (Ext.heap (t := s.toks) (Kp.push ..)) it ⟨_, Heap.get?_push_size _ rfl, rfl, rfl⟩ ⟨_, Heap.get?_push_size _ rfl, ⟨_, rfl⟩, by simp⟩ fun b hb hne => absurd (List.mem_singleton.mp hb) hne)
  · rename_i ys
    obtain ⟨a, vs, rfl, z1, l, r⟩ := q.tup
    have hl := r.length
    obtain ⟨o, ho, hc, n, hd⟩ := id l
    have hne : a ≠ s.heap.objs.size := Nat.ne_of_lt (Heap.lt_size ho)
    have it : IterOk G A s.heap (elS cx ρ vals m) ys s.heap.objs.size [s.heap.objs.size, a] (fun i v => vs.toArray[i]? = some v) (fun i h => h.IsTupleIter s.heap.objs.size a i ∧ h.IsTuple a vs.toArray) := by
      refine ⟨by rw [hl]; simpa using Walks.tuple hh s.heap.objs.size a hne vs.toArray, new, fun b hb => ?_, fun i v hp _ => r.el_of hp, fun i h hj => by obtain ⟨⟨o, ho, hc, _⟩, _⟩ := hj; exact ⟨o, ho, by rw [hc]; decide⟩⟩
      rcases List.mem_cons.mp hb with rfl | hb
      · exact .inl rfl
      · obtain rfl : b = a := by simpa using hb
        exact .inr ⟨o, ho, by rw [hc]; decide, .inl hc⟩
    refine wpAny_pyIter_tuple l (h _ s.heap.objs.size _ _ _ (Ext.heap (t := s.toks) (Kp.push ..)) it
      ⟨⟨_, Heap.get?_push_size _ rfl, rfl, rfl⟩, (⟨o, Heap.get?_push_of_some _ ho, hc, n, hd⟩ : Heap.IsTuple _ _ _)⟩ ⟨_, Heap.get?_push_size _ rfl, ⟨_, rfl⟩, by simp⟩ fun b hb hne => ?_)
    rcases List.mem_cons.mp hb with rfl | hb
    · exact absurd rfl hne
    · obtain rfl : b = a := by simpa using hb
      rfl
  · rename_i ys
    obtain ⟨a, vs, rfl, z1, l, r⟩ := q.lst
    have hl := r.length
    obtain ⟨o, ho, hc, n, hd⟩ := id l
    have hne : a ≠ s.heap.objs.size := Nat.ne_of_lt (Heap.lt_size ho)
    have it : IterOk G A s.heap (elS cx ρ vals m) ys s.heap.objs.size [s.heap.objs.size, a] (fun i v => vs.toArray[i]? = some v) (fun i h => h.IsListIter s.heap.objs.size a i ∧ h.IsList a vs.toArray) := by
      refine ⟨by rw [hl]; simpa using Walks.list hh s.heap.objs.size a hne vs.toArray, new, fun b hb => ?_, fun i v hp _ => r.el_of hp, fun i h hj => by obtain ⟨⟨o, ho, hc, _⟩, _⟩ := hj; exact ⟨o, ho, by rw [hc]; decide⟩⟩
      rcases List.mem_cons.mp hb with rfl | hb
      · exact .inl rfl
      · obtain rfl : b = a := by simpa using hb
        exact .inr ⟨o, ho, by rw [hc]; decide, .inr hc⟩
    refine wpAny_pyIter_list l (h _ s.heap.objs.size _ _ _ (Ext.heap (t := s.toks) (Kp.push ..)) it
      ⟨⟨_, Heap.get?_push_size _ rfl, rfl, rfl⟩, l.push _⟩ ⟨_, Heap.get?_push_size _ rfl, ⟨_, rfl⟩, by simp⟩ fun b hb hne => ?_)
    rcases List.mem_cons.mp hb with rfl | hb
    · exact absurd rfl hne
    · obtain rfl : b = a := by simpa using hb
      rfl
  · rename_i lo hi
    obtain ⟨a, rfl, z1, z2, t, u, w, hr⟩ := q.read
    have hsz : Builtin.Range.rangeSize lo hi 1 = ((hi - lo).toNat : Int) := by
      unfold Builtin.Range.rangeSize
      rw [if_pos (by decide)]
      by_cases q : lo < hi
      · rw [if_pos q, Int.ediv_one, Int.sub_add_cancel, Int.toNat_of_nonneg (Int.sub_nonneg_of_le (Int.le_of_lt q))]
      · rw [if_neg q, Int.toNat_eq_zero.mpr (Int.sub_nonpos_of_le (Int.not_lt.mp q))]; rfl
    have hl : (rangeL lo hi).length = (hi - lo).toNat := by simp [rangeL]
    have zz : (hi - lo).toNat ≤ 16777216 := by rw [← hl]; exact z
    refine wpAny_pyIter_range hr (small_of z1 z2 hsz zz) ?_
    rw [hsz]
    have it : IterOk G A s.heap (elS cx ρ vals m) (rangeL lo hi) s.heap.objs.size [s.heap.objs.size] (fun i v => ∃ t, v = .int (lo + i * 1) t) (fun i h => IsRangeIter h s.heap.objs.size (lo + (i : Nat) * 1) (((hi - lo).toNat : Int) - (i : Nat)) 1) := by
      refine ⟨by rw [hl]; exact Walks.range hh s.heap.objs.size lo 1 _, new, fun b hb => .inl (by simpa using hb), ?_, fun i h hj => ⟨_, hj, by simp [itCls]⟩⟩
      rintro i v ⟨t', ev⟩ hi'
      rw [hl] at hi'
      refine ⟨.int (lo + i), by simp [rangeL, hi'], t', by rw [ev]; simp⟩
    refine h { s with heap := s.heap.push { cls := .type "range_iterator", data := .fields #[rawInt lo, rawInt ((hi - lo).toNat : Int), rawInt 1] } } _ _ _ _ (Ext.heap (t := s.toks) (Kp.push ..)) it ?_ ⟨_, Heap.get?_push_size _ rfl, ⟨_, rfl⟩, by simp⟩ fun b hb hne => absurd (by simpa using hb) hne
    show IsRangeIter _ _ _ _ _
    simpa using Heap.get?_push_size _ rfl
end
end Mine

namespace Mine
open PySem PyProof.Rows PySem.W

theorem closure_go {env : Env} (f : Str × NameKind → List (Str × Addr) → Sem (ForInStep (List (Str × Addr)))) (hf : ∀ n k acc, f (n, k) acc = if k == .free then (do let a ← cellOf env n; pure (.yield ((n, a) :: acc))) else pure (.yield acc)) :
    ∀ (names : List (Str × NameKind)) (acc : List (Str × Addr)), (∀ x, (x, NameKind.free) ∈ names → ∃ c, env.cells.lookup x = some c) → (∀ x c, acc.lookup x = some c → env.cells.lookup x = some c) →
      ∃ cl, forIn names acc f = (pure cl : Sem _) ∧ (∀ x c, cl.lookup x = some c → env.cells.lookup x = some c) ∧ (∀ x, (x, NameKind.free) ∈ names ∨ (acc.lookup x).isSome = true → (cl.lookup x).isSome = true)
  | [], acc, _, ha => ⟨acc, rfl, ha, fun x h => h.elim (fun q => by simp at q) id⟩
  | (n, k) :: r, acc, hn, ha => by
    rw [List.forIn_cons, hf]
    by_cases hk : (k == NameKind.free) = true
    · rw [if_pos hk]
      have hk' := beq_iff_eq.mp hk
      subst hk'
      obtain ⟨c, hc⟩ := hn n (.head _)
      have e : cellOf env n = pure c := by unfold cellOf; rw [hc]
      rw [e]
      obtain ⟨cl, h1, h2, h3⟩ := closure_go f hf r ((n, c) :: acc) (fun x hx => hn x (.tail _ hx)) (fun x c' hx => by
        rw [List.lookup_cons] at hx
        split at hx
        · rename_i q; cases hx; rw [beq_iff_eq.mp q]; exact hc
        · exact ha x c' hx)
      refine ⟨cl, h1, h2, fun x hx => h3 x ?_⟩
      rcases hx with hx | hx
      · rcases List.mem_cons.mp hx with q | q
        · cases q; right; rw [List.lookup_cons]; simp
        · exact .inl q
      · right; rw [List.lookup_cons]; split <;> simp_all
    · rw [if_neg hk]
      obtain ⟨cl, h1, h2, h3⟩ := closure_go f hf r acc (fun x hx => hn x (.tail _ hx)) ha
      refine ⟨cl, h1, h2, fun x hx => h3 x ?_⟩
      rcases hx with hx | hx
      · rcases List.mem_cons.mp hx with q | q
        · cases q; simp at hk
        · exact .inl q
      · exact .inr hx
theorem closure_ok {env : Env} {scope : Scope} (hn : ∀ x, (x, NameKind.free) ∈ scope.names → ∃ c, env.cells.lookup x = some c) :
    ∃ cl, closureFor scope env = pure cl ∧ ∀ x, (x, NameKind.free) ∈ scope.names → cl.lookup x = env.cells.lookup x := by
  obtain ⟨cl, h1, h2, h3⟩ := closure_go (env := env) (fun x acc => match x with | (n, k) => if (k == NameKind.free) = true then (do let a ← cellOf env n; pure (.yield ((n, a) :: acc))) else pure (.yield acc)) (fun n k acc => rfl) scope.names [] hn (fun x c h => by simp at h)
  refine ⟨cl, ?_, fun x hx => ?_⟩
  · exact Eq.trans (congrArg (fun m : Sem (List (Str × Addr)) => m >>= fun cs => pure cs) h1) rfl
  · obtain ⟨c, hc⟩ := Option.isSome_iff_exists.mp (h3 x (.inl hx))
    rw [hc, h2 x c hc]

theorem lookup_relabel {env : Env} : ∀ {names : List (Str × NameKind)} {x : Str} {k : NameKind}, names.lookup x = some k →
    (names.map fun (n, k) => if (k == NameKind.free && env.scope.kind == .function && env.kindOf n == some .cell) then (n, NameKind.cell) else (n, k)).lookup x = some (if (k == NameKind.free && env.scope.kind == .function && env.kindOf x == some .cell) then .cell else k)
  | [], _, _, h => by simp at h
  | (n, k') :: r, x, k, h => by
    have ih := @lookup_relabel env r x k
    show List.lookup x ((if (k' == NameKind.free && env.scope.kind == .function && env.kindOf n == some .cell) = true then (n, NameKind.cell) else (n, k')) :: _) = _
    cases hx : x == n with
    | true =>
      simp only [List.lookup_cons, hx] at h
      cases h
      have := beq_iff_eq.mp hx
      subst this
      split <;> simp
    | false =>
      simp only [List.lookup_cons, hx] at h
      split
      · simp only [List.lookup_cons, hx]; exact ih h
      · simp only [List.lookup_cons, hx]; exact ih h
theorem lookup_relabel_none {env : Env} : ∀ {names : List (Str × NameKind)} {x : Str}, names.lookup x = none →
    (names.map fun (n, k) => if (k == NameKind.free && env.scope.kind == .function && env.kindOf n == some .cell) then (n, NameKind.cell) else (n, k)).lookup x = none
  | [], _, _ => rfl
  | (n, k') :: r, x, h => by
    have ih := @lookup_relabel_none env r x
    show List.lookup x ((if (k' == NameKind.free && env.scope.kind == .function && env.kindOf n == some .cell) = true then (n, NameKind.cell) else (n, k')) :: _) = _
    cases hx : x == n with
    | true => simp only [List.lookup_cons, hx] at h; cases h
    | false =>
      simp only [List.lookup_cons, hx] at h
      split
      · simp only [List.lookup_cons, hx]; exact ih h
      · simp only [List.lookup_cons, hx]; exact ih h

theorem mem_of_lookupK {names : List (Str × NameKind)} {x : Str} {k : NameKind} (h : names.lookup x = some k) : (x, k) ∈ names := mem_of_lookup h

theorem hide_get {Γ : List (Option Str)} {x y : Str} {i : Nat} (h : (hide x Γ)[i]? = some (some y)) : Γ[i]? = some (some y) ∧ y ≠ x := by
  unfold hide at h
  rw [List.getElem?_map] at h
  obtain ⟨o, ho, hq⟩ := Option.map_eq_some_iff.mp h
  split at hq
  · cases hq
  · rename_i hne
    subst hq
    refine ⟨ho, fun q => hne ?_⟩
    rw [q]; simp

structure ScOk (cc : CC) (x : Str) (sc : Scope) : Prop where
  kind : sc.kind = .function
  own : sc.names.lookup x = some .local
  dot : idx cc.Γ (Str.ofString ".0") = none
  locs : ∀ y ∈ sc.names, y.2 = .local → sc.names.lookup y.1 = some .local
  kinds : ∀ y k, (y, k) ∈ sc.names → (k = .local ∧ (y = x ∨ y = Str.ofString ".0")) ∨ (k = .free ∧ cc.names.lookup y = some .cell) ∨ k = .globalImplicit
theorem ScOk.of {cc : CC} {x : Str} {sc : Scope} (h : compScopeOk cc x sc = true) : ScOk cc x sc := by
  unfold compScopeOk at h
  simp only [Bool.and_eq_true, beq_iff_eq, Option.isNone_iff_eq_none, List.all_eq_true, Bool.or_eq_true, bne_iff_ne, ne_eq] at h
  obtain ⟨⟨⟨⟨⟨⟨h1, _⟩, _⟩, h2⟩, h3⟩, h4⟩, h5⟩ := h
  refine ⟨h1, h2, h3, fun y hy hl => (h4 y hy).resolve_left (fun q => q hl), fun y k hy => ?_⟩
  have := h5 (y, k) hy
  dsimp only at this
  cases k <;> simp_all
end Mine

namespace Mine
open PySem PyProof.Rows PySem.W

noncomputable def cxC (cx : Cx) (x : Str) (sc : Scope) (cl : List (Str × Addr)) (C D : Addr) : Cx :=
  { A := cx.A, env := compEnvC sc cl C cx.env, fr := cx.fr, h0 := cx.h0, Γ := hide x cx.Γ ++ [some x], bad := fun a => a = C ∨ a = D ∨ cx.bad a, d := cx.d }
noncomputable def ccC (cc : CC) (x : Str) (sc : Scope) : CC := { cc with Γ := hide x cc.Γ ++ [some x], names := sc.names }

section
variable {G : Gd} {cx : Cx} {cc : CC} {t : Th} {x : Str} {sc : Scope} {cl : List (Str × Addr)} {C D : Addr}

theorem cxC_ok (O : cx.Ok G) (K : ScOk cc x sc) (hC : cx.h0.get? C = none) (hD : cx.h0.get? D = none) : (cxC cx x sc cl C D).Ok G where
  bsz := O.bsz
  top := O.top
  badGe := fun a h => by
    rcases h with rfl | rfl | h
    · exact hC
    · exact hD
    · exact O.badGe a h
  frames := O.frames
  kind := K.kind
  glob := O.glob
  blt := O.blt
  room := O.room
  units := O.units
  names := fun i j y hi hj => by
    have h1 : ∀ k, (hide x cx.Γ ++ [some x])[k]? = some (some y) → (cx.Γ[k]? = some (some y) ∧ y ≠ x) ∨ (k = cx.Γ.length ∧ y = x) := fun k hk => by
      by_cases hl : k < cx.Γ.length
      · rw [List.getElem?_append_left (by simpa [hide] using hl)] at hk
        exact .inl (hide_get hk)
      · rw [List.getElem?_append_right (by simpa [hide] using hl)] at hk
        have : k - (hide x cx.Γ).length = 0 := by
          cases q : k - (hide x cx.Γ).length with
          | zero => rfl
          | succ n => rw [q] at hk; simp at hk
        rw [this] at hk
        have e2 : (hide x cx.Γ).length = cx.Γ.length := by simp [hide]
        right
        refine ⟨by (first | lia | omega), ?_⟩
        simpa using hk.symm
    rcases h1 i hi with ⟨a, b⟩ | ⟨a, b⟩ <;> rcases h1 j hj with ⟨c, d⟩ | ⟨c, d⟩
    · exact O.names i j y a c
    · exact absurd d b
    · exact absurd b d
    · (first | lia | omega)
  badL := .inl rfl

theorem ccC_ok (O : cx.Ok G) (Cc : CcOk G cx cc) (K : ScOk cc x sc) : CcOk G (cxC cx x sc cl C D) (ccC cc x sc) where
  fns := Cc.fns
  bis := Cc.bis
  cls := Cc.cls
  Γ := by show hide x cx.Γ ++ [some x] = _; rw [Cc.Γ]; rfl
  kinds := fun y k hk => by
    have hk : sc.names.lookup y = some k := hk
    have e := lookup_relabel (env := cx.env) hk
    have e' : (compEnvC sc cl C cx.env).kindOf y = _ := e
    by_cases q : (k == NameKind.free && cx.env.scope.kind == .function && cx.env.kindOf y == some .cell) = true
    · rw [if_pos q] at e'
      simp only [Bool.and_eq_true, beq_iff_eq] at q
      exact .inr ⟨q.1.1, e'⟩
    · rw [if_neg q] at e'
      exact .inl e'
  cells := fun y hy => by
    have hy : sc.names.lookup y = some .cell := hy
    rcases K.kinds y _ (mem_of_lookupK hy) with ⟨h, _⟩ | ⟨h, _⟩ | h <;> cases h
theorem thC_ok (T : ThOk G cx t) : ThOk G (cxC cx x sc cl C D) t := ⟨T.data, T.call, T.callH, T.loops, T.bis, T.isi, T.sub, T.lbis⟩

noncomputable def slS (cx : Cx) (ρ : Rho) (vals : Vals) (sm : Sm) (b : Addr) : Prop := match sm with
  | .sh => sS cx ρ vals b
  | _ => fS cx ρ vals b
theorem St.comp {ρ : Rho} {vals : Vals} {s s' : Shared} {m : Str → Option Value} {v : Value} {a : AV} {sm : Sm} (O : cx.Ok G) (Cc : CcOk G cx cc) (K : ScOk cc x sc) (S : St G cx ρ vals s) (X : Ext G s s')
    (hC : s.heap.get? C = none) (hD : s.heap.get? D = none) (hcl : ∀ y, (y, NameKind.free) ∈ sc.names → cl.lookup y = cx.env.cells.lookup y)
    (hn : s'.heap.Ns C m) (hm : m x = some v) (hsm : slotMd sm ≠ .bo)
    (hv : VR G (fun b => slS cx ρ vals sm b ∨ b = C ∨ b = D) s'.heap a v) :
    St G (cxC cx x sc cl C D) (ρ ++ [some (a, sm)]) (vals ++ [some v]) s' := by
  have S' := S.ext X
  have hlen : ρ.length = vals.length := S.len.trans S.lenv.symm
  have mu : ∀ r, Mu (ρ ++ [some (a, sm)]) (vals ++ [some v]) r ↔ Mu ρ vals r := fun r => by
    constructor
    · rintro ⟨i, w, m', e1, e2⟩
      by_cases hl : i < ρ.length
      · rw [List.getElem?_append_left hl] at e1
        rw [List.getElem?_append_left (by (first | lia | omega))] at e2
        exact ⟨i, w, m', e1, e2⟩
      · rw [List.getElem?_append_right (by (first | lia | omega))] at e1
        cases q : i - ρ.length with
        | zero =>
          rw [q] at e1
          cases e1
          exact (own_no hsm e2).elim
        | succ n => rw [q] at e1; simp at e1
    · rintro ⟨i, w, m', e1, e2⟩
      have hl : i < ρ.length := (List.getElem?_eq_some_iff.mp e1).1
      exact ⟨i, w, m', by rw [List.getElem?_append_left hl]; exact e1, by rw [List.getElem?_append_left (by (first | lia | omega))]; exact e2⟩
  have off : ∀ b, (b = C ∨ b = D) → s.heap.get? b = none := fun b h => by rcases h with rfl | rfl <;> assumption
  have osh : ∀ {w : AV} {y : Value}, VR G (sS cx ρ vals) s.heap w y → VR G (sS (cxC cx x sc cl C D) (ρ ++ [some (a, sm)]) (vals ++ [some v])) s'.heap w y := fun q =>
    VR.kp X.1 _ _ (VR.off (fun b e => by
      rcases e with e | e | e | e
      · exact .inl (.inl ((mu b).mp e))
      · exact .inr (off b (.inl e))
      · exact .inr (off b (.inr e))
      · exact .inl (.inr e)) _ _ q)
  have ofr : ∀ b, fS (cxC cx x sc cl C D) (ρ ++ [some (a, sm)]) (vals ++ [some v]) b → fS cx ρ vals b ∨ s.heap.get? b = none := fun b e => by
    rcases e with e | (e | e | e) | e
    · exact .inl (.inl ((mu b).mp e))
    · exact .inr (off b (.inl e))
    · exact .inr (off b (.inr e))
    · exact .inl (.inr (.inl e))
    · exact .inl (.inr (.inr e))
  have nbad : ∀ {r : Addr}, ¬ cx.bad r → (∃ o, s.heap.get? r = some o) → ¬ (cxC cx x sc cl C D).bad r := fun {r} a3 there e => by
    rcases e with e | e | e
    · exact ex_none there (off r (.inl e))
    · exact ex_none there (off r (.inr e))
    · exact a3 e
  have glen : (hide x cx.Γ).length = cx.Γ.length := by simp [hide]
  refine ⟨S'.stays, S'.frames, S'.fsok, S'.ent, S'.gens, S'.os, ?_, ?_, fun i y hi => ?_, fun i hi => ?_, fun i w mm hi => ?_, fun i j w w' mm mm' r e1 e2 e3 e4 => ?_⟩
  · show _ = (hide x cx.Γ ++ [some x]).length; simp [glen, S.len]
  · show _ = (hide x cx.Γ ++ [some x]).length; simp [glen, S.lenv]
  · have hi : (hide x cx.Γ ++ [some x])[i]? = some (some y) := hi
    by_cases hl : i < cx.Γ.length
    · rw [List.getElem?_append_left (by (first | lia | omega))] at hi
      obtain ⟨h1, h2⟩ := hide_get hi
      rw [List.getElem?_append_left (by rw [S.lenv]; exact hl)]
      have va := S'.vars i y h1
      show VarAt (compEnvC sc cl C cx.env) _ _ _
      unfold VarAt
      cases q : sc.names.lookup y with
      | none => rw [show (compEnvC sc cl C cx.env).kindOf y = none from lookup_relabel_none q]; trivial
      | some k =>
        rw [show (compEnvC sc cl C cx.env).kindOf y = _ from lookup_relabel q]
        rcases K.kinds y k (mem_of_lookupK q) with ⟨rfl, rfl | rfl⟩ | ⟨rfl, hcell⟩ | rfl
        · exact absurd rfl h2
        · exfalso
          have : ∀ (Γ : List (Option Str)) (n k : Nat), Γ[n]? = some (some (Str.ofString ".0")) → idx.go (Str.ofString ".0") Γ k ≠ none := by
            intro Γ
            induction Γ with
            | nil => intro n k h; simp at h
            | cons o r ih =>
              intro n k h
              cases o with
              | none => cases n with
                | zero => simp at h
                | succ n => exact ih n (k + 1) (by simpa using h)
              | some z => cases n with
                | zero => have : z = Str.ofString ".0" := by simpa using h
                          subst this; show (if (_ == _) = true then some k else _) ≠ none; rw [if_pos (beq_self_eq_true _)]; exact nofun
                | succ n =>
                  show (if (_ == _) = true then some k else idx.go _ r (k + 1)) ≠ none
                  split
                  · exact nofun
                  · exact ih n _ (by simpa using h)
          have h1' := h1
          rw [Cc.Γ] at h1'
          exact this _ _ _ h1' K.dot
        · have hk' : cx.env.kindOf y = some .cell := by
            rcases Cc.kinds y _ hcell with h | ⟨h, _⟩
            · exact h
            · cases h
          rw [if_pos (by simp [O.kind, hk'])]
          unfold VarAt at va
          rw [hk'] at va
          obtain ⟨c, c1, c2⟩ := va
          exact ⟨c, by show cl.lookup y = _; rw [hcl y (mem_of_lookupK q)]; exact c1, c2⟩
        · rw [if_neg (by simp)]; trivial
    · rw [List.getElem?_append_right (by (first | lia | omega))] at hi
      have h0 : i - (hide x cx.Γ).length = 0 := by
        cases q : i - (hide x cx.Γ).length with
        | zero => rfl
        | succ n => rw [q] at hi; simp at hi
      rw [h0] at hi
      have : y = x := by simpa using hi.symm
      subst this
      rw [List.getElem?_append_right (by rw [S.lenv]; (first | lia | omega)), show i - vals.length = 0 by rw [S.lenv]; (first | lia | omega)]
      show VarAt (compEnvC sc cl C cx.env) _ _ _
      unfold VarAt
      rw [show (compEnvC sc cl C cx.env).kindOf y = some .local from lookup_relabel_local K.own]
      exact ⟨m, hn, hm⟩
  · trivial
  · by_cases hl : i < ρ.length
    · rw [List.getElem?_append_left hl] at hi
      obtain ⟨y, e1, e2⟩ := S.bnd i w mm hi
      refine ⟨y, by rw [List.getElem?_append_left (by (first | lia | omega))]; exact e1, ?_⟩
      cases mm
      · exact osh e2
      · exact VR.kp X.1 _ _ (VR.off ofr _ _ e2)
      · obtain ⟨r, a1, a2, a3, a4⟩ := e2
        exact ⟨r, a1, a2, nbad a3 a4.there, (a4.off ofr).kp X.1⟩
    · rw [List.getElem?_append_right (by (first | lia | omega))] at hi
      have h0 : i - ρ.length = 0 := by
        cases q : i - ρ.length with
        | zero => rfl
        | succ n => rw [q] at hi; simp at hi
      rw [h0] at hi
      have : w = a ∧ mm = sm := by
        simp at hi; exact ⟨hi.1.symm, hi.2.symm⟩
      obtain ⟨rfl, rfl⟩ := this
      refine ⟨v, by rw [List.getElem?_append_right (by (first | lia | omega)), show i - vals.length = 0 by (first | lia | omega)]; rfl, ?_⟩
      cases mm
      · refine VR.off (fun b e => .inl ?_) _ _ hv
        rcases e with e | e | e | e
        · exact .inl (.inl ((mu b).mp e))
        · exact .inr (.inl e)
        · exact .inr (.inr e)
        · exact .inl (.inr e)
      · refine VR.off (fun b e => .inl ?_) _ _ hv
        rcases e with e | (e | e | e) | e
        · exact .inl (.inl ((mu b).mp e))
        · exact .inr (.inl e)
        · exact .inr (.inr e)
        · exact .inl (.inr (.inl e))
        · exact .inl (.inr (.inr e))
      · exact absurd rfl hsm
  · have lt : ∀ {k : Nat} {u : AV} {m' : Sm} {y : Option (Option Value)}, (ρ ++ [some (a, sm)])[k]? = some (some (u, m')) → Own m' y r → k < ρ.length := fun {k u m' y} e o => by
      by_cases hl : k < ρ.length
      · exact hl
      · rw [List.getElem?_append_right (by (first | lia | omega))] at e
        cases q : k - ρ.length with
        | zero =>
          rw [q] at e
          cases e
          exact (own_no hsm o).elim
        | succ n => rw [q] at e; simp at e
    have l1 := lt e1 e2
    have l2 := lt e3 e4
    rw [List.getElem?_append_left l1] at e1
    rw [List.getElem?_append_left l2] at e3
    rw [List.getElem?_append_left (by (first | lia | omega))] at e2 e4
    exact S.inj i j w w' mm mm' r e1 e2 e3 e4
end
end Mine

namespace Mine
open PySem PyProof.Rows PySem.W

structure Kx (bs : Heap) (M : Addr → Prop) (h h' : Heap) : Prop where
  kp : ∀ b o, ¬ M b → h.get? b = some o → (o.cls ≠ .type "frame" ∨ (bs.get? b).isSome = true → h'.get? b = some o) ∧ ((∀ vs, o.data ≠ .fields vs) → ∃ sl, h'.get? b = some { o with slots := sl }) ∧ ∃ o', h'.get? b = some o'

theorem Kp.kx {bs h h' : Heap} {M : Addr → Prop} (k : Kp bs h h') : Kx bs M h h' := ⟨fun b o _ e => k.kp b o e⟩
theorem Kx.trans {bs h₁ h₂ h₃ : Heap} {M : Addr → Prop} (x : Kx bs M h₁ h₂) (y : Kx bs M h₂ h₃) : Kx bs M h₁ h₃ :=
  ⟨fun b o m e => ⟨fun n => (y.kp b o m ((x.kp b o m e).1 n)).1 n, fun d => by
    obtain ⟨sl, e₁⟩ := (x.kp b o m e).2.1 d
    obtain ⟨sl', e₂⟩ := (y.kp b _ m e₁).2.1 d
    exact ⟨sl', e₂⟩, by
    obtain ⟨o', e₁⟩ := (x.kp b o m e).2.2
    exact (y.kp b _ m e₁).2.2⟩⟩
theorem Kx.mono {bs h h' : Heap} {M M' : Addr → Prop} (k : Kx bs M h h') (q : ∀ b, M b → M' b) : Kx bs M' h h' :=
  ⟨fun b o n e => k.kp b o (fun m => n (q b m)) e⟩
theorem Kx.new {bs h h' : Heap} {M M' : Addr → Prop} (k : Kx bs M h h') (q : ∀ b, M b → M' b ∨ h.get? b = none) : Kx bs M' h h' :=
  ⟨fun b o n e => k.kp b o (fun m => (q b m).elim n fun z => by rw [z] at e; cases e) e⟩
theorem Kx.toKp {bs h h' : Heap} {M : Addr → Prop} (k : Kx bs M h h') (q : ∀ b, M b → h.get? b = none) : Kp bs h h' :=
  ⟨fun b o e => k.kp b o (fun m => by rw [q b m] at e; cases e) e⟩
theorem Kx.of {bs h h' : Heap} {C : Addr} (k : ∀ b o, b ≠ C → h.get? b = some o → h'.get? b = some o) : Kx bs (· = C) h h' :=
  ⟨fun b o n e => by have e' := k b o n e; exact ⟨fun _ => e', fun _ => ⟨o.slots, e'⟩, o, e'⟩⟩
theorem Kx.but {bs h h' : Heap} {C : Addr} (k : Heap.SameBut C h h') : Kx bs (· = C) h h' := .of fun b o n e => (k.2 b n).trans e
theorem Ns.there {h : Heap} {a : Addr} {m} (n : h.Ns a m) : ∃ o, h.get? a = some o := let ⟨o, _, _, e, _⟩ := n; ⟨o, e⟩
theorem IsList.there {h : Heap} {a : Addr} {m} (n : h.IsList a m) : ∃ o, h.get? a = some o := let ⟨o, e, _⟩ := n; ⟨o, e⟩
theorem IsCell.there {h : Heap} {a : Addr} {m} (n : h.IsCell a m) : ∃ o, h.get? a = some o := let ⟨o, e, _⟩ := n; ⟨o, e⟩

noncomputable def NoTup (h : Heap) (C : Addr) : Prop := ∀ o, h.get? C = some o → (o.cls = .type "tuple" → ∀ vs n, o.data ≠ .seq vs n) ∧ ((∀ vs, o.data ≠ .fields vs) ∨ itCls o.cls = true)
theorem NoTup.ns {h : Heap} {a : Addr} {m} (n : h.Ns a m) : NoTup h a := fun o e => by
  obtain ⟨o', _, _, e', d, _⟩ := n
  rw [e] at e'; cases e'
  exact ⟨fun _ vs n q => (by rw [d] at q; cases q), .inl fun vs q => (by rw [d] at q; cases q)⟩
theorem NoTup.list {h : Heap} {a : Addr} {m} (n : h.IsList a m) : NoTup h a := fun o e => by
  obtain ⟨o', e', c, n, d⟩ := n
  rw [e] at e'; cases e'
  exact ⟨fun q => (by rw [c] at q; simp at q), .inl fun vs q => (by rw [d] at q; cases q)⟩
theorem NoTup.cell {h : Heap} {a : Addr} {m} (n : h.IsCell a m) : NoTup h a := fun o e => by
  obtain ⟨o', e', d⟩ := n
  rw [e] at e'; cases e'
  exact ⟨fun _ vs n q => (by rw [d] at q; cases q), .inl fun vs q => (by rw [d] at q; cases q)⟩
theorem NoTup.dic {G : Gd} {h : Heap} {a : Addr} {ks vs} (n : IsDic G h a ks vs) : NoTup h a := fun o e => by
  obtain ⟨q, ⟨kvs, a1, b1, o', es, ep, ho, hc, hd, rr⟩ | ⟨kvs, a1, b1, o', es, ep, ho, hc, hd, rr⟩⟩ := n
  all_goals
    rw [e] at ho; cases ho
    exact ⟨fun _ vs n q => (by rw [hd] at q; cases q), .inl fun vs q => (by rw [hd] at q; cases q)⟩

theorem NoTup.iter {h : Heap} {a : Addr} (n : ∃ o, h.get? a = some o ∧ itCls o.cls = true) : NoTup h a := fun o e => by
  obtain ⟨o', e', d⟩ := n
  rw [e] at e'; cases e'
  exact ⟨fun q => (by rw [q] at d; simp [itCls] at d), .inr d⟩
theorem itCls_ne {v : Value} (h : itCls v = true) : v ≠ .type "frame" := fun q => by rw [q] at h; simp [itCls] at h
section
variable {G : Gd} {bs : Heap} {M S : Addr → Prop} {h h' : Heap}
theorem Kx.isList (k : Kx bs M h h') {a : Addr} {items} (n : ¬ M a) (l : h.IsList a items) : h'.IsList a items := by
  obtain ⟨o, ho, hc, r⟩ := l
  exact ⟨o, (k.kp a o n ho).1 (.inl (by rw [hc]; decide)), hc, r⟩
theorem Kx.plain (k : Kx bs M h h') {a : Addr} {items} (n : ¬ M a) (l : h.PlainList a items) : h'.PlainList a items := l.at fun o e => by
  obtain ⟨_, e'⟩ := l
  rw [e] at e'; cases e'
  exact (k.kp a _ n e).1 (.inl (show Value.type "list" ≠ .type "frame" by decide))
theorem Kx.lsAt (k : Kx bs M h h') {a : Addr} {items} (n : ¬ M a) (l : LsAt G h a items) : LsAt G h' a items := ⟨k.isList n l.1, fun z => k.plain n (l.2 z)⟩
theorem Kx.isTup (k : Kx bs M h h') (nt : ∀ b, M b → NoTup h b) {a : Addr} {items} (l : IsTup h a items) : IsTup h' a items := by
  obtain ⟨o, ho, hc, m, hd⟩ := l
  refine ⟨o, (k.kp a o (fun q => (nt a q o ho).1 hc _ _ hd) ho).1 (.inl (by rw [hc]; decide)), hc, m, hd⟩
theorem Kx.ns (k : Kx bs M h h') {a : Addr} {m} (n : ¬ M a) (l : h.Ns a m) : h'.Ns a m := by
  obtain ⟨o, es, ep, ho, hd, r⟩ := l
  obtain ⟨sl, e⟩ := (k.kp a o n ho).2.1 (fun vs q => by rw [hd] at q; cases q)
  exact ⟨_, es, ep, e, hd, r⟩
theorem Kx.isCell (k : Kx bs M h h') {a : Addr} {v} (n : ¬ M a) (l : h.IsCell a v) : h'.IsCell a v := by
  obtain ⟨o, ho, hd⟩ := l
  obtain ⟨sl, e⟩ := (k.kp a o n ho).2.1 (fun vs q => by rw [hd] at q; cases q)
  exact ⟨_, e, hd⟩
theorem Kx.isDic (k : Kx bs M h h') {a : Addr} {ks vs} (n : ¬ M a) (l : IsDic G h a ks vs) : IsDic G h' a ks vs := by
  obtain ⟨q, ⟨kvs, a1, b1, o, es, ep, ho, hc, hd, rr⟩ | ⟨kvs, a1, b1, o, es, ep, ho, hc, hd, rr⟩⟩ := l
  · exact ⟨q, .inl ⟨kvs, a1, b1, o, es, ep, (k.kp a o n ho).1 (.inl (by rw [hc.1]; decide)), hc, hd, rr⟩⟩
  · exact ⟨q, .inr ⟨kvs, a1, b1, o, es, ep, (k.kp a o n ho).1 (.inl (by rw [hc.1]; decide)), hc, hd, rr⟩⟩

theorem noIterL {a : Addr} {items} (t : h.IsList a items) (y : ∃ o, h.get? a = some o ∧ itCls o.cls = true) : False := by
  obtain ⟨o, e, c⟩ := y
  obtain ⟨o', e', c', _⟩ := t
  rw [e] at e'; cases e'
  rw [c'] at c; simp [itCls] at c
theorem noIterD {a : Addr} {ks vs} (t : IsDic G h a ks vs) (y : ∃ o, h.get? a = some o ∧ itCls o.cls = true) : False := by
  obtain ⟨o, e, c⟩ := y
  obtain ⟨q, ⟨kvs, a1, b1, o', es, ep, ho, hc, hd, rr⟩ | ⟨kvs, a1, b1, o', es, ep, ho, hc, hd, rr⟩⟩ := t
  all_goals
    rw [e] at ho; cases ho
    rw [hc.1] at c; simp [itCls] at c
mutual
theorem VR.kx (k : Kx bs M h h') (sc : ∀ b, M b → S b ∨ ∃ o, h.get? b = some o ∧ itCls o.cls = true) (nt : ∀ b, M b → NoTup h b) : ∀ (v : AV) (x : Value), VR G S h v x → VR G S h' v x
  | .none, _, e => e
  | .bool _, _, e => e
  | .int _, _, e => e
  | .str _, _, e => e
  | .tup xs, _, ⟨z, a, vs, e, t, r⟩ => ⟨z, a, vs, e, k.isTup nt t, VRs.kx k sc nt xs vs r⟩
  | .lst xs, _, ⟨z, a, vs, e, s, t, r⟩ => ⟨z, a, vs, e, s, k.lsAt (fun q => (sc a q).elim s fun y => noIterL t.1 y) t, VRs.kx k sc nt xs vs r⟩
  | .dic _ ws, _, ⟨z, a, es, e, s, t, r⟩ => ⟨z, a, es, e, s, k.isDic (fun q => (sc a q).elim s fun y => noIterD t y) t, VRs.kx k sc nt ws _ r⟩
  | .rng _ _, _, ⟨a, e, t⟩ => ⟨a, e, by
      obtain ⟨z1, z2, t, u, v, ho⟩ := t
      exact ⟨z1, z2, t, u, v, (k.kp a _ (fun q => (nt a q _ ho).2.elim (fun z => z _ rfl) fun z => by simp [itCls] at z) ho).1 (.inl (by simp))⟩⟩
  | .exc c, _, ⟨a, o, e, ho, hc, dn, vs, hv⟩ => ⟨a, o, e, (k.kp a o (fun q => (nt a q o ho).2.elim (fun z => z _ hv) fun z => by rw [G.clsIt c _ hc] at z; cases z) ho).1 (.inl (G.clsNe c _ hc)), hc, dn, vs, hv⟩
  | .setn _, _, e => e
  | .opq, _, ⟨a, o, e, s, ho, n⟩ => ⟨a, o, e, s, (k.kp a o (fun q => (sc a q).elim s fun ⟨o', e', c⟩ => by rw [ho] at e'; cases e'; rw [n.2] at c; cases c) ho).1 (.inl n.1), n⟩
theorem VRs.kx (k : Kx bs M h h') (sc : ∀ b, M b → S b ∨ ∃ o, h.get? b = some o ∧ itCls o.cls = true) (nt : ∀ b, M b → NoTup h b) : ∀ (vs : List AV) (xs : List Value), VRs G S h vs xs → VRs G S h' vs xs
  | [], [], e => e
  | v :: vs, x :: xs, ⟨a, b⟩ => ⟨VR.kx k sc nt v x a, VRs.kx k sc nt vs xs b⟩
end
theorem Root.kx (k : Kx bs M h h') (sc : ∀ b, M b → S b ∨ ∃ o, h.get? b = some o ∧ itCls o.cls = true) (nt : ∀ b, M b → NoTup h b) {v : AV} {r : Addr} (n : ¬ M r) (x : Root G S h v r) : Root G S h' v r := by
  cases v <;> try exact x.elim
  · obtain ⟨z, vs, l, q⟩ := x; exact ⟨z, vs, k.plain n l, VRs.kx k sc nt _ _ q⟩
  · obtain ⟨z, es, l, q⟩ := x; exact ⟨z, es, k.isDic n l, VRs.kx k sc nt _ _ q⟩
end
end Mine

namespace Mine
open PySem PyProof.Rows PySem.W

noncomputable def accS (cx : Cx) (ρ : Rho) (vals : Vals) (C D : Addr) (f : Bool) : Addr → Prop := fun b => (if f then fS cx ρ vals b else sS cx ρ vals b) ∨ b = C ∨ b = D

noncomputable def CoOk (G : Gd) (cx : Cx) (t : Th) : List Expr → Option ME → Prop
  | [], none => True
  | [c], some mc => TOK G cx t c mc
  | _, _ => False

section
variable {G : Gd} {cx : Cx} {cc : CC} {t : Th} {x : Str} {sc : Scope} {cl : List (Str × Addr)} {ρ : Rho} {vals : Vals} {s s₁ s₂ : Shared} {E : Value → Shared → Prop}

theorem Ext.trans' {G : Gd} {a b : Shared} {h' : Heap} {tk : Nat} (x : Ext G a b) (k : Kp G.base a.heap h') : Ext G a { b with heap := h', toks := tk } := ⟨k, x.2.1, x.2.2⟩
theorem St.h0_none (S : St G cx ρ vals s) {b : Addr} (n : s.heap.get? b = none) : cx.h0.get? b = none := by
  cases q : cx.h0.get? b with
  | none => rfl
  | some o => exact (ex_none (S.ent.kp b o q).2.2 n).elim
theorem mu_comp {a : AV} {sm : Sm} {v : Value} {b : Addr} (q : Mu ρ vals b) : Mu (ρ ++ [some (a, sm)]) (vals ++ [some v]) b := by
  obtain ⟨i, w, m, e1, e2⟩ := q
  refine ⟨i, w, m, by rw [List.getElem?_append_left (List.getElem?_eq_some_iff.mp e1).1]; exact e1, ?_⟩
  by_cases hl : i < vals.length
  · rw [List.getElem?_append_left hl]; exact e2
  · rw [List.getElem?_eq_none (by (first | lia | omega))] at e2; exact own_any e2
theorem sS_comp {a : AV} {sm : Sm} {v : Value} {b C D : Addr} (q : accS cx ρ vals C D false b) : sS (cxC cx x sc cl C D) (ρ ++ [some (a, sm)]) (vals ++ [some v]) b := by
  rcases q with (q | q) | q | q
  · exact .inl (mu_comp q)
  · exact .inr (.inr (.inr q))
  · exact .inr (.inl q)
  · exact .inr (.inr (.inl q))
theorem fS_comp {a : AV} {sm : Sm} {v : Value} {b C D : Addr} (q : accS cx ρ vals C D true b) : fS (cxC cx x sc cl C D) (ρ ++ [some (a, sm)]) (vals ++ [some v]) b := by
  rcases q with (q | q | q) | q | q
  · exact .inl (mu_comp q)
  · exact .inr (.inl (.inr (.inr q)))
  · exact .inr (.inr q)
  · exact .inr (.inl (.inl q))
  · exact .inr (.inl (.inr (.inl q)))
theorem accS_weak {C D : Addr} {f g : Bool} (hg : f = false → g = false) {h : Heap} {ys : List AV} {vs : List Value} (q : VRs G (accS cx ρ vals C D f) h ys vs) : VRs G (accS cx ρ vals C D g) h ys vs := by
  cases f
  · rw [hg rfl]; exact q
  · cases g
    · exact VRs.off (fun a e => .inl (e.elim (fun y => .inl (fS_sS y)) .inr)) _ _ q
    · exact q

theorem wpO_ok {ifs : List Expr} {mco : Option ME} {cx' : Cx} {ρ' : Rho} {vals' : Vals} {s3 : Shared} {E' : Value → Shared → Prop} {K : Bool → Prop} {Q : Bool → Shared → Prop} (h : CoOk G cx' t ifs mco) (S : St G cx' ρ' vals' s3) (B : BadLt cx' s3)
    (hw : wpO t mco ρ' K fun _ => False) (hQ : ∀ b s4, K b → Ext G s3 s4 → Q b s4) :
    wpAny (model G.prog G.w) cx'.A (forIn ifs true fun c r => if r = true then do let ok ← isTrue c cx'.env (eval c cx'.env); pure (ForInStep.yield ok) else pure (ForInStep.yield r)) Q E' s3 := by
  match ifs, mco, h, hw with
  | [], none, _, hw =>
    have hw : K true := hw
    exact wpAny_tests_nil (hQ _ _ hw (Ext.refl ..))
  | [c], some mc, h, hw =>
    have hw : wpT t mc ρ' K fun _ => False := hw
    exact wpAny_tests_one (wpAny_mono (h ρ' vals' s3 K _ S B hw) (fun b s4 ⟨q, e⟩ => hQ b s4 q e) fun e s4 ⟨_, f, _⟩ => f.elim)
  | [], some _, h, _ => exact h.elim
  | [_], none, h, _ => exact h.elim
  | _ :: _ :: _, none, h, _ => exact h.elim
  | _ :: _ :: _, some _, h, _ => exact h.elim

inductive CInv (G : Gd) (cx : Cx) (ρ : Rho) (vals : Vals) (C D : Addr) (xs : List AV) (s₁ : Shared) (J : Nat → Heap → Prop) (cl : List AV → List AV → Bool → Prop) (n : Nat) (s3 : Shared) : Prop
  | mk (i : Nat) (acc : List AV) (f : Bool) (m : Str → Option Value) (vs : List Value) (e : n = xs.length - i) (hi : i ≤ xs.length) (ha : acc.length ≤ i) (hc : cl (xs.drop i) acc f) (X3 : Ext G s₁ s3) (hJ : J i s3.heap) (hN : s3.heap.Ns C m) (hL : s3.heap.PlainList D vs.toArray) (hV : VRs G (accS cx ρ vals C D f) s3.heap acc vs) : CInv G cx ρ vals C D xs s₁ J cl n s3
theorem comp_core {elt iter : Expr} {px pos : Pos} {ifs : List Expr} {mel : ME} {mco : Option ME} {RR : Value → Addr → Result → Shared → Prop} (O : cx.Ok G) (Cc : CcOk G cx cc) (K : ScOk cc x sc)
    (hel : ∀ C D, (cxC cx x sc cl C D).Ok G → CcOk G (cxC cx x sc cl C D) (ccC cc x sc) → EOK G (cxC cx x sc cl C D) t elt mel)
    (hco : ∀ C D, (cxC cx x sc cl C D).Ok G → CcOk G (cxC cx x sc cl C D) (ccC cc x sc) → CoOk G (cxC cx x sc cl C D) t ifs mco)
    (S : St G cx ρ vals s) (B : BadLt cx s) (X1 : Ext G s s₁) (X2 : Ext G s₁ s₂) {mi : Md} {xs : List AV} {I : Addr} {fp : List Addr} {P : Nat → Value → Prop} {J : Nat → Heap → Prop}
    (it : IterOk G cx.A s₁.heap (elS cx ρ vals mi) xs I fp P J) (j0 : J 0 s₂.heap) (hcl : ∀ y, (y, NameKind.free) ∈ sc.names → cl.lookup y = cx.env.cells.lookup y) {Kf : List AV → Bool → Prop} (hz : xs.length ≤ top)
    {Y : Str → Prop} (hw : compL (fun a k => wpE t mel (ρ ++ [some (a, asSm (elMd mi))]) k Y) (fun a k => wpO t mco (ρ ++ [some (a, asSm (elMd mi))]) k fun _ => False) xs [] true Kf)
    (hRR : ∀ D C s' m ys vs f, Kf ys f → s.heap.get? D = none → s.heap.get? C = none → D ≠ C → s'.heap.Ns C m → s'.heap.PlainList D vs.toArray → Ext G s s' → ys.length ≤ top → VRs G (accS cx ρ vals C D f) s'.heap ys vs →
      RR (.ref D) C (.ok .next) s')
    (hER : ∀ D C s' m c ea, Y c → s.heap.get? C = none → s'.heap.Ns C m → Ext G s s' → ExcTr G s.heap s'.heap ea c → RR (.ref D) C (.error (.ref ea)) s') :
    wpAny (model G.prog G.w) cx.A (newList []) (fun acc s₃ => wpAny (model G.prog G.w) cx.A (newFunctionEnv sc cx.env.globals cl [] cx.env.qual none .none (some cx.env)) (fun cenv s₄ =>
      codeAny (model G.prog G.w) cx.A (.compStart (.ListComp elt [⟨.Name x px, iter, ifs, 0⟩] sc pos) 0 (.ref I) acc { cenv with scope := relabel sc cx.env }) (RR acc cenv.locals) s₄) E s₃) E s₂ := by
  have hcell : ∀ y ∈ sc.names, y.2 ≠ .cell := fun y hy q => by
    rcases K.kinds y.1 y.2 hy with ⟨h, _⟩ | ⟨h, _⟩ | h <;> rw [q] at h <;> cases h
  refine wpAny_newObj_type (wpAny_newFunctionEnv hcell (by intro y hy; simp at hy) (fun h₁ hns₁ hsb₁ => ?_) K.kind)
  dsimp only at hns₁ hsb₁ ⊢
  generalize hH2 : s₂.heap.push { cls := .type "list", dict := none, data := .seq ([] : List Value).toArray } = H2 at hns₁ hsb₁ ⊢
  have hC : H2.objs.size = s₂.heap.objs.size + 1 := by rw [← hH2, Heap.size_push]
  generalize hDD : s₂.heap.objs.size = D at *
  generalize hCC : H2.objs.size = C at *
  have hDC : D ≠ C := by rw [hC]; exact Nat.ne_of_lt (Nat.lt_succ_self _)
  have nD2 : s₂.heap.get? D = none := by rw [← hDD]; exact get?_none_of_ge (Nat.le_refl _)
  have nC2 : s₂.heap.get? C = none := get?_none_of_ge (by rw [hDD, hC]; exact Nat.le_succ _)
  have nD1 := fresh_of X2 nD2
  have nC1 := fresh_of X2 nC2
  have nD := fresh_of X1 nD1
  have nC := fresh_of X1 nC1
  have old : ∀ b o, s₂.heap.get? b = some o → h₁.get? b = some o := fun b o e => by
    have hb : b ≠ C := by rintro rfl; rw [nC2] at e; cases e
    exact hsb₁.extBut b o hb (Heap.get?_push_of_some _ (hH2 ▸ Heap.get?_push_of_some _ e))
  have hacc : h₁.PlainList D #[] := by
    refine ⟨_, hsb₁.extBut D _ hDC (Heap.get?_push_of_some _ (by rw [← hH2, ← hDD]; exact Heap.get?_push_size _ rfl))⟩
  have hj : J 0 h₁ := it.W.frame _ _ _ j0 fun b _ o e => old b o e
  have iI : ∀ {i : Nat} {h : Heap}, J i h → I ≠ C ∧ I ≠ D := fun {i h} q => by
    obtain ⟨o, e, _⟩ := it.live _ _ j0
    exact ⟨fun z => (by rw [z, nC2] at e; cases e), fun z => (by rw [z, nD2] at e; cases e)⟩
  have inI := iI j0
  have cok := cxC_ok (cl := cl) (x := x) (C := C) (D := D) O K (S.h0_none nC) (S.h0_none nD)
  have ccok := ccC_ok (cl := cl) (x := x) (C := C) (D := D) O Cc K
  have hel := hel C D cok ccok
  have hco := hco C D cok ccok
  have foot : ∀ {i : Nat} {h h' : Heap}, Kp G.base s₁.heap h → J i h → Kx G.base (fun b => b = C ∨ b = D) h h' → J i h' := fun {i h h'} k1 q k => by
    refine it.W.frame _ _ _ q fun b hb o e => ?_
    rcases it.foot b hb with rfl | ⟨o', e', n, _⟩
    · obtain ⟨o2, e2, c2⟩ := it.live _ _ q
      rw [e] at e2; cases e2
      exact (k.kp b o (fun z => z.elim inI.1 inI.2) e).1 (.inl (itCls_ne c2))
    · have e3 := k1.exact e' n
      rw [e] at e3; cases e3
      exact (k.kp b o (fun z => by
        rcases z with rfl | rfl
        · rw [nC1] at e'; cases e'
        · rw [nD1] at e'; cases e') e).1 (.inl n)
  let Inv : Nat → Shared → Prop := CInv G cx ρ vals C D xs s₁ J fun r acc f => compL (fun a k => wpE t mel (ρ ++ [some (a, asSm (elMd mi))]) k Y) (fun a k => wpO t mco (ρ ++ [some (a, asSm (elMd mi))]) k fun _ => False) r acc f Kf
  have loop : ∀ s₃ : Shared, Inv xs.length s₃ → codeAny (model G.prog G.w) cx.A (.compLoop (.ListComp elt [⟨.Name x px, iter, ifs, 0⟩] sc pos) 0 (.ref I) (.ref D) (compEnvC sc cl C cx.env)) (RR (.ref D) C) s₃ := by
    intro s₃ hinv
    refine codeAny_compLoop_tests Inv (fun n s3 hI => ?_) _ hinv
    obtain ⟨i, acc, f, m, vs, rfl, hi, ha, hc, X3, hJ, hN, hL, hV⟩ := hI
    replace hc : compL _ _ _ _ _ _ := hc
    have hal : acc.length = vs.length := hV.length
    by_cases hlt : i < xs.length
    · refine it.W.item i s3 _ _ hlt hJ fun v h' tk hP hJ' hk => ?_
      have hk' : ∀ b o, b ≠ I → s3.heap.get? b = some o → h'.get? b = some o := fun b o hb e => hk b o (by simpa using hb) e
      have kI : Kx G.base (· = I) s3.heap h' := .of hk'
      have X4 : Ext G s₁ { s3 with heap := h', toks := tk } := X3.trans' (((X3.1.kx (M := (· = I))).trans kI).toKp fun b q => by rw [q]; exact it.new)
      have hN' : h'.Ns C m := kI.ns inI.1.symm hN
      have hL' : h'.PlainList D vs.toArray := kI.plain inI.2.symm hL
      have hV' : VRs G (accS cx ρ vals C D f) h' acc vs := VRs.kx kI (fun b q => by rw [q]; exact .inr (it.live _ _ hJ)) (fun b q => by rw [q]; exact NoTup.iter (it.live _ _ hJ)) _ _ hV
      obtain ⟨a, ea, va⟩ := it.vals i v hP hlt
      have hd : xs.drop i = a :: xs.drop (i + 1) := by
        rw [List.drop_eq_getElem_cons hlt]
        congr 1
        exact (List.getElem?_eq_some_iff.mp ea).2
      rw [hd] at hc
      rw [compL_cons] at hc
      dsimp only
      refine wpAny_assign_Name (wpAny_storeName_local (lookup_relabel_local K.own) hN' (fun h5 hn5 hs5 => ?_) (by show (sc.kind == .class || (sc.kind == .module && _)) = false; rw [K.kind]; rfl))
      have kC : Kx G.base (fun b => b = C ∨ b = D) h' h5 := (Kx.but hs5).mono fun b q => .inl q
      have X5 : Ext G s₁ { s3 with heap := h5, toks := tk + 1 } := X4.trans' (((X4.1.kx (M := fun b => b = C ∨ b = D)).trans kC).toKp fun b q => by rcases q with rfl | rfl <;> assumption)
      have hJ5 : J (i + 1) h5 := foot X4.1 hJ' kC
      have hL5 : h5.PlainList D vs.toArray := (Kx.but (bs := G.base) hs5).plain hDC hL'
      have hV5 : VRs G (accS cx ρ vals C D f) h5 acc vs := VRs.kx (Kx.but (bs := G.base) hs5) (fun b q => .inl (.inr (.inl q))) (fun b q => by rw [q]; exact NoTup.ns hN') _ _ hV'
      have va5 : VR G (fun b => slS cx ρ vals (asSm (elMd mi)) b ∨ b = C ∨ b = D) h5 a v := by
        refine VR.kp X5.1 _ _ (VR.off (fun b e => ?_) _ _ va)
        rcases e with e | rfl | rfl
        · left
          unfold elS
          cases mi <;> exact e
        · exact .inr nC1
        · exact .inr nD1
      have S5 : St G (cxC cx x sc cl C D) (ρ ++ [some (a, asSm (elMd mi))]) (vals ++ [some v]) { s3 with heap := h5, toks := tk + 1 } :=
        St.comp O Cc K S (X1.trans X5) nC nD hcl hn5 (by simp) (by cases mi <;> nofun)
          va5
      have B5 : BadLt (cxC cx x sc cl C D) { s3 with heap := h5, toks := tk + 1 } := fun b q => by
        rcases q with rfl | rfl | q
        · exact Ns.there hn5
        · exact IsList.there hL5.isList
        · exact (B.ext (X1.trans X5)) b q
      refine wpO_ok (cx' := cxC cx x sc cl C D) hco S5 B5 hc fun b s6 hb X6 => ?_
      have X16 := X5.trans X6
      have hJ6 : J (i + 1) s6.heap := foot X5.1 hJ5 X6.1.kx
      have hN6 := X6.1.ns hn5
      have hL6 := X6.1.plain hL5
      have hV6 := VRs.kp X6.1 _ _ hV5
      cases b with
      | false =>
        replace hb := ifF hb
        refine fIf ?_
        exact ⟨xs.length - (i + 1), Nat.sub_lt_sub_left hlt (Nat.lt_succ_self i), i + 1, acc, f, _, vs, rfl, hlt, Nat.le_succ_of_le ha, hb, X16, hJ6, hN6, hL6, hV6⟩
      | true =>
        replace hb := ifT hb
        refine tIf ?_
        refine wpAny_mono (hel _ _ s6 _ _ (S5.ext X6) (B5.ext X6) hb) (fun y s7 hy => ?_) fun e s7 ⟨c, hY, ea, er, E7, ex⟩ => ?_
        rotate_left
        · subst er
          obtain ⟨env0, outer, L, t1, t2, t3⟩ := O.top
          have S7 := S5.ext (X6.trans E7)
          have f1 := S7.frames
          have f2 := S7.fsok
          have hA := O.frames
          have f1 : s7.heap.FunFrames G.base cx.fr := f1
          have f2 : FsOk s7.heap cx.fr := f2
          rw [t1] at f1 f2 hA
          show wpAny _ cx.A (noteFrame (.ref ea) (compEnvC sc cl C cx.env)) _ _ s7
          rw [noteFrame_eq (env := env0) (show (compEnvC sc cl C cx.env).frame = env0.frame from t3.trans t2.symm)]
          exact noteFrame_ok hA f1 f2 t2 E7.1 ex fun h' k' x' => hER D C { s7 with heap := h' } _ c ea hY nC (k'.ns hN6) ((X1.trans X16).trans ⟨k', E7.2.1, E7.2.2⟩) (x'.pre (X1.trans X16).1)
        obtain ⟨w, mw, ⟨hmw, hk7⟩, X7, vm⟩ := hy
        have X17 := X16.trans X7
        have hJ7 : J (i + 1) s7.heap := foot X16.1 hJ6 X7.1.kx
        have hN7 := X7.1.ns hN6
        have hL7 := X7.1.plain hL6
        have hV7 := VRs.kp X7.1 _ _ hV6
        refine wpAny_list_append_plain hL7 (fun h8 hL8 hs8 => ?_) (by rw [← top_line, List.size_toArray, ← hal]; exact Nat.le_trans ha (Nat.le_trans hi hz))
        have hw8 : VR G (accS cx ρ vals C D (f && okF mw w)) s7.heap w y := by
          cases q : okF mw w with
          | false =>
            rw [Bool.and_false]
            refine VR.off (fun b e => .inl ?_) _ _ (vm.sh (S5.ext X6) (B5.ext X6) hmw)
            exact sS_comp e
          | true =>
            cases f with
            | false =>
              refine VR.off (fun b e => .inl ?_) _ _ (vm.okF (S5.ext X6) (B5.ext X6) q)
              exact fS_sS (sS_comp e)
            | true =>
              refine VR.off (fun b e => .inl ?_) _ _ (vm.okF (S5.ext X6) (B5.ext X6) q)
              exact fS_comp e
        have kD : Kx G.base (fun b => b = C ∨ b = D) s7.heap h8 := (Kx.but hs8).mono fun b q => .inr q
        refine ⟨xs.length - (i + 1), Nat.sub_lt_sub_left hlt (Nat.lt_succ_self i), i + 1, acc ++ [w], f && okF mw w, _, vs ++ [y], rfl, hlt, by rw [List.length_append]; exact Nat.succ_le_succ ha, hk7, X17.trans' (((X17.1.kx (M := fun b => b = C ∨ b = D)).trans kD).toKp fun b q => by rcases q with rfl | rfl <;> assumption), foot X17.1 hJ7 kD,
          (Kx.but (bs := G.base) hs8).ns hDC.symm hN7, by simpa using hL8, ?_⟩
        refine VRs.kx (Kx.but (bs := G.base) hs8) (fun b q => .inl (.inr (.inr q))) (fun b q => by rw [q]; exact NoTup.list hL7.isList) _ _ ?_
        exact VRs.append (accS_weak (fun q => by rw [q]; rfl) hV7) ⟨hw8, trivial⟩
    · have hi' : i = xs.length := Nat.le_antisymm hi (Nat.not_lt.mp hlt)
      subst hi'
      refine it.W.done s3 _ _ hJ fun h' tk hk => ?_
      have hk' : ∀ b o, b ≠ I → s3.heap.get? b = some o → h'.get? b = some o := fun b o hb e => hk b o (by simpa using hb) e
      have kI : Kx G.base (· = I) s3.heap h' := .of hk'
      have X4 : Ext G s { s3 with heap := h', toks := tk } := (X1.trans X3).trans' ((((X1.trans X3).1.kx (M := (· = I))).trans kI).toKp fun b q => by rw [q]; exact fresh_of X1 it.new)
      rw [List.drop_length, compL_nil] at hc
      refine hRR D C _ m acc vs f hc nD nC hDC (kI.ns inI.1.symm hN) (kI.plain inI.2.symm hL) X4 (Nat.le_trans ha hz) ?_
      exact VRs.kx kI (fun b q => by rw [q]; exact .inr (it.live _ _ hJ)) (fun b q => by rw [q]; exact NoTup.iter (it.live _ _ hJ)) _ _ hV
  have inv0 : Inv xs.length { s₂ with heap := h₁, toks := s₂.toks + ([] : List (Str × Value)).length } := by
    refine ⟨0, [], true, _, [], rfl, Nat.zero_le _, Nat.le_refl _, hw, X2.trans' (X2.1.trans (Kp.of_keeps old)), hj, hns₁, hacc, trivial⟩
  exact codeAny_compStart_list (loop _ inv0) (it.W.self 0 _ _ _ hj (loop _ inv0))
end
end Mine

namespace Mine
open PySem PyProof.Rows PySem.W

section
variable {G : Gd} {S : Addr → Prop} {h : Heap}
end

section
variable {prog : Program} {w : World} {A : Around} {R : Result → Shared → Prop} {I : Addr} {fp wr : List Addr} {n : Nat} {P : Nat → Value → Prop} {St : Nat → Heap → Prop} {kw : List (Str × Value)}
end

section
variable {prog : Program} {w : World} {A : Around} {E : Value → Shared → Prop} {s : Shared} {l : Addr} {xs : Array (Int × Tok)}

end


section
variable {G : Gd} {cx : Cx} {t : Th} {ρ : Rho} {vals : Vals} {s0 s : Shared} {A : Around} {E : Value → Shared → Prop} {m : Md} {ys : List AV} {is : List Int} {x : Value}



end
end Mine

namespace Mine
open PySem PyProof.Rows PySem.W
section
variable {prog : Program} {w : World} {A : Around} {E : Value → Shared → Prop} {s : Shared} {x : Str} {t : Tok} {Q : Value → Shared → Prop} {pos : Pos}
open Builtin Builtin.Str
theorem split_on {a : Sem Value} (h : wpAny (model prog w) A a (fun v s₁ => ∃ y u, v = .str y u ∧ (y.length == 0) = false ∧ x.length + 2 ≤ sizeLine ∧
      ∀ l k, l.map (·.1) = Txt.split x y → Q (.ref s₁.heap.objs.size) { s₁ with heap := s₁.heap.push { cls := .type "list", data := .seq (strValues l).toArray }, toks := k }) E s) :
    wpAny (model prog w) A (callWith pos (.builtin "str.split") [.str x t] [(false, a)] []) Q E s := by
  refine method1_meets F.slot_str_split F.entry_str_split (wpAny_mono h (fun v s₁ h₁ => ?_) fun _ _ e => e)
  obtain ⟨y, u, rfl, hy, hx, hq⟩ := h₁
  have hn : (partsBetween x (occurrences x y 0 x.length (x.length + 1)) y.length).length ≤ sizeLine := by
    have e1 := StrLaws.occ_length_le x y 0 x.length (x.length + 1)
    rw [length_partsBetween]; omega
  refine ⟨typeIs_str _ _ _, F.args_str_split_2 _ _, ?_⟩
  cases h1 : (decide (x.length < y.length) || decide (strKind x < strKind y))
  · cases hf : (occurrences x y 0 x.length (x.length + 1)).isEmpty
    · refine ⟨_, meets_str_split_sep x y t u h1 hy hf (by omega) hn, ?_⟩
      show wants Q E _ { s₁ with toks := _, heap := s₁.heap.push { cls := .type "list", data := .seq (strsFrom s₁.toks (partsBetween x (occurrences x y 0 x.length (x.length + 1)) y.length)).toArray } }
      rw [strsFrom_eq]
      exact hq (numbered s₁.toks _) _ ((numbered_texts _ _).trans ((if_neg (ne_true_of_eq_false h1)).trans (if_neg (ne_true_of_eq_false hf))).symm)
    · exact ⟨_, meets_str_split_not_found x y t u h1 hy hf, hq [(x, t)] s₁.toks ((if_neg (ne_true_of_eq_false h1)).trans (if_pos hf)).symm⟩
  · exact ⟨_, meets_str_split_cannot_occur x y t u h1, hq [(x, t)] s₁.toks (if_pos h1).symm⟩
theorem join_on {a : Sem Value} (h : wpAny (model prog w) A a (fun v s₁ => ∃ D l, v = .ref D ∧ s₁.heap.IsList D (strValues l).toArray ∧ JoinOk x (l.map (·.1)) = true ∧
      ∀ t' k, Q (.str (Txt.join x (l.map (·.1))) t') { s₁ with toks := k }) E s) : wpAny (model prog w) A (callWith pos (.builtin "str.join") [.str x t] [(false, a)] []) Q E s := by
  refine method1_meets F.slot_str_join F.entry_str_join (wpAny_mono h (fun v s₁ h₁ => ?_) fun _ _ e => e)
  obtain ⟨D, l, rfl, hl, hok, hq⟩ := h₁
  unfold JoinOk at hok
  rw [Bool.not_eq_true'] at hok
  exact ⟨typeIs_str _ _ _, F.args_str_join_2 _ _, _, meets_str_join_list x t D l hok, hl, post_join l ⟨joinFit_length hok, hq⟩⟩
end
theorem sgs_join (y : Str) : ∀ ps : List Str, sgs (Str.join y ps) = glue (sgs y) (ps.map sgs)
  | [] => rfl
  | [p] => rfl
  | p :: q :: r => by
    show (p ++ y ++ Str.join y (q :: r)).cps.toList = sgs p ++ sgs y ++ glue (sgs y) ((q :: r).map sgs)
    rw [← sgs_join y (q :: r)]
    simp only [Str.cps_append, Array.toList_append]; rfl
theorem split_cut (x : Str) (c : Nat) : Txt.split x ⟨#[c]⟩ = (cutC c (sgs x)).map txt := by
  have j := StrLaws.join_split x ⟨#[c]⟩
  have f := StrLaws.split_free x c
  generalize hp : Txt.split x ⟨#[c]⟩ = ps at j f
  have e : sgs x = glue [c] (ps.map sgs) := by rw [← j]; exact sgs_join ⟨#[c]⟩ ps
  have ne : ps ≠ [] := fun z => by
    rw [z] at j
    have xe : x = Str.join ⟨#[c]⟩ [] := j.symm
    rw [z, xe] at hp
    revert hp
    have : Txt.split (Str.join ⟨#[c]⟩ []) ⟨#[c]⟩ = [Str.join ⟨#[c]⟩ []] := by unfold Txt.split; rfl
    rw [this]; exact fun z => nomatch z
  have cg := cut_glue (c := c) (ps.map sgs) (by rw [ne_eq, List.map_eq_nil_iff]; exact ne) fun p hp => by
    obtain ⟨q, hq, rfl⟩ := List.mem_map.mp hp
    exact f q hq
  rw [e, cg, List.map_map]
  conv => lhs; rw [← List.map_id ps]
  rfl
theorem strOk_iff (x : Str) : PyData.strOk x = true ↔ ∀ c ∈ sgs x, c < 0x110000 := by
  show (x.cps.all (· < 0x110000)) = true ↔ _
  rw [← Array.all_toList, List.all_eq_true]
  exact ⟨fun h c hc => of_decide_eq_true (h c hc), fun h c hc => decide_eq_true (h c hc)⟩
section
variable {G : Gd} {cx : Cx} {t : Th}
theorem cut_mem {c : Nat} : ∀ (l p : List Nat), p ∈ cutC c l → (∀ a ∈ p, a ∈ l) ∧ p.length ≤ l.length
  | [], p, h => by cases List.mem_singleton.mp h; exact ⟨fun a z => z, Nat.le_refl _⟩
  | x :: r, p, h => by
    have ih := cut_mem (c := c) r
    rw [cut_cons] at h
    split at h
    · rcases List.mem_cons.mp h with rfl | h
      · exact ⟨(fun a z => nomatch z), Nat.zero_le _⟩
      · exact ⟨fun a z => .tail _ ((ih p h).1 a z), Nat.le_succ_of_le (ih p h).2⟩
    · split at h
      · next q qs e =>
        rw [e] at ih
        rcases List.mem_cons.mp h with rfl | h
        · exact ⟨fun a z => (List.mem_cons.mp z).elim (fun w => w ▸ .head _) fun w => .tail _ ((ih q (.head _)).1 a w), Nat.succ_le_succ (ih q (.head _)).2⟩
        · exact ⟨fun a z => .tail _ ((ih p (.tail _ h)).1 a z), Nat.le_succ_of_le (ih p (.tail _ h)).2⟩
      · cases List.mem_singleton.mp h
        exact ⟨fun a z => (List.mem_cons.mp z).elim (fun w => w ▸ .head _) fun w => (nomatch w), Nat.succ_le_succ (Nat.zero_le _)⟩
theorem cut_count {c : Nat} : ∀ (l : List Nat), (cutC c l).length ≤ l.length + 1
  | [] => Nat.le_refl _
  | x :: r => by
    have ih := cut_count (c := c) r
    rw [cut_cons]
    split
    · exact Nat.succ_le_succ ih
    · split
      · next q qs e => rw [e] at ih; exact Nat.le_succ_of_le ih
      · exact Nat.succ_le_succ (Nat.zero_le _)
theorem strs_VRs {S : Addr → Prop} {h : Heap} : ∀ (l : List (Str × Tok)), (∀ p ∈ l, p.1.length ≤ Mine.top ∧ PyData.strOk p.1 = true) → VRs G S h (l.map fun p => .str p.1) (strValues l)
  | [], _ => trivial
  | p :: l, k => ⟨⟨(k p (.head _)).1, (k p (.head _)).2, p.2, rfl⟩, strs_VRs l fun q z => k q (.tail _ z)⟩
theorem VRs_strs {S : Addr → Prop} {h : Heap} : ∀ {xs : List AV} {l : List Str} {vs : List Value}, strsO xs = some l → VRs G S h xs vs → ∃ tl : List (Str × Tok), vs = strValues tl ∧ tl.map (·.1) = l ∧ ∀ x ∈ l, PyData.strOk x = true
  | [], _, [], e, _ => by cases e; exact ⟨[], rfl, rfl, nofun⟩
  | [], _, _ :: _, _, r => r.elim
  | _ :: _, _, [], _, r => r.elim
  | x :: xs, l, v :: vs, e, r => by
    cases x with
    | str a =>
      obtain ⟨l', e', rfl⟩ := Option.map_eq_some_iff.mp e
      obtain ⟨⟨_, k, u, rfl⟩, r'⟩ := r
      obtain ⟨tl, rfl, e2, k2⟩ := VRs_strs e' r'
      exact ⟨(a, u) :: tl, rfl, by rw [List.map_cons, e2], fun z hz => (List.mem_cons.mp hz).elim (fun w => w ▸ k) (k2 z)⟩
    | _ => cases e
theorem glue_mem (y : List Nat) : ∀ (ps : List (List Nat)), ∀ a ∈ glue y ps, a ∈ y ∨ ∃ p ∈ ps, a ∈ p
  | [], a, h => nomatch h
  | [p], a, h => .inr ⟨p, .head _, h⟩
  | p :: q :: r, a, h => by
    rw [glue_cons] at h
    rcases List.mem_append.mp h with h | h
    · rcases List.mem_append.mp h with h | h
      · exact .inr ⟨p, .head _, h⟩
      · exact .inl h
    · exact (glue_mem y (q :: r) a h).imp id fun ⟨p, hp, z⟩ => ⟨p, .tail _ hp, z⟩
theorem attr_base {o : Expr} (h : plainO o = true) (name : Str) (env : Env) (m : Sem Value) : attributeBase o name env m = m := by
  cases o <;> first | rfl | cases h
theorem log_small {a : Int} (h0 : 0 ≤ a) (h1 : a < 100000) : a.natAbs.log2 < 1920 := by
  by_cases z : a.natAbs = 0
  · rw [z]; decide
  · refine Nat.lt_trans ((Nat.log2_lt z).mpr (show a.natAbs < 2 ^ 17 from ?_)) (by decide)
    have : (2 : Nat) ^ 17 = 131072 := rfl
    omega
theorem numT_ok {a : Int} (h0 : 0 ≤ a) (h1 : a < 100000) : (numT a).length ≤ Mine.top ∧ PyData.strOk (numT a) = true := by
  refine ⟨by rw [top_line]; exact int_text_fits (log_small h0 h1), ?_⟩
  obtain ⟨n, rfl⟩ := Int.eq_ofNat_of_zero_le h0
  rw [strOk_iff]
  intro c hc
  unfold numT sgs at hc
  rw [Str.ofString_eq_toList] at hc
  obtain ⟨d, _, rfl⟩ := List.mem_map.mp hc
  have v := d.valid
  unfold UInt32.isValidChar Nat.isValidChar at v
  show d.val.toNat < _
  omega
theorem mtv0 {x : Str} {a : AV} {r : AV × Md} (h : mtV 0 (.str x) a = some r) : ∃ y c, a = .str y ∧ one1 (sgs y) = some c ∧ x.length + 2 ≤ Mine.top ∧ r = (.lst ((cutC c (sgs x)).map fun l => .str (txt l)), .ow) := by
  have h : ((asStr a).bind fun y => (one1 (sgs y)).bind fun c => if x.length + 2 ≤ Mine.top then some (AV.lst ((cutC c (sgs x)).map fun l => .str (txt l)), Md.ow) else none) = some r := h
  obtain ⟨y, e1, h2⟩ := bindI h
  obtain ⟨c, e2, h3⟩ := bindI h2
  by_cases z : x.length + 2 ≤ Mine.top
  · rw [if_pos z] at h3
    exact ⟨y, c, asStr_some e1, e2, z, (Option.some.inj h3).symm⟩
  · rw [if_neg z] at h3; cases h3
theorem mtv1 {x : Str} {a : AV} {r : AV × Md} (h : mtV 1 (.str x) a = some r) : ∃ xs l, a = .lst xs ∧ strsO xs = some l ∧ (l.map (·.length)).sum + l.length * x.length ≤ Mine.top ∧ r = (.str (txt (glue (sgs x) (l.map sgs))), .fr) := by
  have h : ((asLst a).bind fun xs => (strsO xs).bind fun l => if (l.map (·.length)).sum + l.length * x.length ≤ Mine.top then some (AV.str (txt (glue (sgs x) (l.map sgs))), Md.fr) else none) = some r := h
  obtain ⟨xs, e1, h2⟩ := bindI h
  obtain ⟨l, e2, h3⟩ := bindI h2
  by_cases z : (l.map (·.length)).sum + l.length * x.length ≤ Mine.top
  · rw [if_pos z] at h3
    exact ⟨xs, l, asLst_some e1, e2, z, (Option.some.inj h3).symm⟩
  · rw [if_neg z] at h3; cases h3
theorem mtv2 {x : Str} {a : AV} {r : AV × Md} (h : mtV 2 (.str x) a = some r) : ∃ i, a = .int i ∧ (0 ≤ i ∧ i < 100000 ∧ x.length ≤ 1000) ∧ r = (.str (x ++ numT i), .fr) := by
  have h : ((asInt a).bind fun i => if 0 ≤ i ∧ i < 100000 ∧ x.length ≤ 1000 then some (AV.str (x ++ numT i), Md.fr) else none) = some r := h
  obtain ⟨i, e1, h2⟩ := bindI h
  by_cases z : 0 ≤ i ∧ i < 100000 ∧ x.length ≤ 1000
  · rw [if_pos z] at h2
    exact ⟨i, asInt_some e1, z, (Option.some.inj h2).symm⟩
  · rw [if_neg z] at h2; cases h2
theorem eok_mt {o e : Expr} {name : Str} {ap cp : Pos} {mo me : ME} {k : Nat} (hp : plainO o = true) (hn : mtN name = some k) (hl : (ap.endLine == cp.line) = true) (ho : EOK G cx t o mo) (he : AOK G cx t e me) : EOK G cx t (.Call (.Attribute o name ap) [e] [] cp) (.mt mo k me) := by
  intro ρ vals s Q X S B hw
  have hw : wpE t mo ρ (fun vo _ => match vo with | .str x => wpE t me ρ (fun va _ => need (mtV k (.str x) va) fun r => Q r.1 r.2) X | _ => False) X := hw
  refine wpAny_Call_method1_late (name := name) (attr_base hp ..) hl (by rw [starEach_plain he.2]; rfl) (ho.seq S B (Ext.refl ..) hw (fun vo mv v s1 h1 e1 _ q1 => ?_) fun c ev s1 h x => ⟨c, h, x⟩)
  cases vo with
  | str x =>
    obtain ⟨z, kx, tx, rfl⟩ := q1.read
    have h1 : wpE t me ρ (fun va _ => need (mtV k (.str x) va) fun r => Q r.1 r.2) X := h1
    unfold mtN at hn
    cases c1 : name == Str.ofString "split" with
    | true =>
      rw [c1] at hn
      cases hn
      rw [eq_of_beq c1]
      refine ⟨"str", "str.split", F.plainAttrs_str, F.slot_str_split, F.type_str_split, typeIs_str _ _ _, (fun _ e => nomatch e), ?_⟩
      refine split_on (he.1.seq S B e1 h1 (fun va ma v s2 h2 e2 _ q2 => ?_) fun c ev s2 h x => ⟨c, h, x⟩)
      obtain ⟨r, er, hq⟩ := h2
      obtain ⟨y, c, rfl, ec, hx, rfl⟩ := mtv0 er
      obtain ⟨_, _, u, rfl⟩ := q2.read
      have yc := one1_str ec
      subst yc
      refine ⟨_, u, rfl, rfl, by rw [← top_line]; exact hx, fun l tk el => ⟨_, _, hq, e2.trans (Ext.heap (Kp.push ..)), ?_⟩⟩
      rw [split_cut] at el
      have ea : (cutC c (sgs x)).map (fun l => AV.str (txt l)) = l.map fun p => AV.str p.1 := by
        rw [show (l.map fun p => AV.str p.1) = (l.map (·.1)).map AV.str by rw [List.map_map]; rfl, el, List.map_map]; rfl
      have ok : ∀ p ∈ l, p.1.length ≤ Mine.top ∧ PyData.strOk p.1 = true := fun p hp => by
        have : p.1 ∈ (cutC c (sgs x)).map txt := by rw [← el]; exact List.mem_map.mpr ⟨p, hp, rfl⟩
        obtain ⟨q, hq, e⟩ := List.mem_map.mp this
        obtain ⟨m1, m2⟩ := cut_mem _ _ hq
        rw [← e]
        have xl : (sgs x).length = x.length := Array.length_toList ..
        refine ⟨Nat.le_trans (show (txt q).length ≤ x.length from xl ▸ m2) z, (strOk_iff _).mpr fun a ha => (strOk_iff x).mp kx a (m1 a ha)⟩
      have ln : (l.map fun p => AV.str p.1).length ≤ Mine.top := by
        rw [← ea, List.length_map]
        have := cut_count (c := c) (sgs x)
        have xl : (sgs x).length = x.length := Array.length_toList ..
        omega
      show VM G cx ρ vals s.heap _ .ow (.lst ((cutC c (sgs x)).map fun l => AV.str (txt l))) _
      rw [ea]
      exact ⟨s2.heap.objs.size, rfl, fresh_size e2, ln, strValues l, ⟨_, Heap.get?_push_size _ rfl⟩, strs_VRs l ok⟩
    | false =>
      rw [c1] at hn
      cases c2 : name == Str.ofString "join" with
      | false => rw [c2] at hn; cases hn
      | true =>
        rw [c2] at hn
        cases hn
        rw [eq_of_beq c2]
        refine ⟨"str", "str.join", F.plainAttrs_str, F.slot_str_join, F.type_str_join, typeIs_str _ _ _, (fun _ e => nomatch e), ?_⟩
        refine join_on (he.1.seq S B e1 h1 (fun va ma v s2 h2 e2 _ q2 => ?_) fun c ev s2 h x => ⟨c, h, x⟩)
        obtain ⟨r, er, hq⟩ := h2
        obtain ⟨xs, l, rfl, el, hx, rfl⟩ := mtv1 er
        obtain ⟨D, vs, rfl, _, hl, rr⟩ := q2.lst
        obtain ⟨tl, rfl, et, ko⟩ := VRs_strs el rr
        have hj : JoinOk x l = true := by
          unfold JoinOk
          rw [StrLaws.joinTotal]
          have : Builtin.Str.tooLong ((l.map (·.length)).sum + l.length * x.length) = false := decide_eq_false (by rw [← top_line]; exact Nat.not_lt.mpr hx)
          rw [this]; rfl
        have ee : Txt.join x l = txt (glue (sgs x) (l.map sgs)) := by
          show Builtin.Str.glued x l = _
          rw [StrLaws.glued_eq_join, ← sgs_join]; rfl
        have jl := joinOk_length hj
        rw [ee, ← top_line] at jl
        refine ⟨D, tl, rfl, hl, by rw [et]; exact hj, fun t' tk => ⟨_, _, hq, e2.trans (Ext.toks ..), ?_⟩⟩
        rw [et, ee]
        refine ⟨jl, (strOk_iff _).mpr fun a ha => ?_, t', rfl⟩
        rcases glue_mem _ _ a ha with w | ⟨p, hp, w⟩
        · exact (strOk_iff x).mp kx a w
        · obtain ⟨y, hy, rfl⟩ := List.mem_map.mp hp
          exact (strOk_iff y).mp (ko y hy) a w
  | _ => exact h1.elim
theorem num_len {a : Int} (h0 : 0 ≤ a) (h1 : a < 100000) : (numT a).length ≤ 18 := by
  have lg : a.natAbs.log2 < 17 := by
    by_cases z : a.natAbs = 0
    · rw [z]; decide
    · refine (Nat.log2_lt z).mpr ?_
      have : (2 : Nat) ^ 17 = 131072 := rfl
      omega
  have := int_text_length_le (by decide) lg
  unfold numT
  rw [Str.ofString_eq_toList]
  show ((toString a).toList.map Char.toNat).length ≤ 18
  rw [List.length_map]
  exact this
theorem emp_app (x : Str) : Str.empty ++ x = x := by
  show (⟨#[] ++ x.cps⟩ : Str) = x
  rw [Array.empty_append]
theorem eok_fst {a e : Expr} {ma me : ME} {fp pos : Pos} (ha : EOK G cx t a ma) (he : EOK G cx t e me) : EOK G cx t (.JoinedStr [a, .FormattedValue e (-1) none fp] pos) (.mt ma 2 me) := by
  intro ρ vals s Q X S B hw
  have hw : wpE t ma ρ (fun vo _ => match vo with | .str x => wpE t me ρ (fun va _ => need (mtV 2 (.str x) va) fun r => Q r.1 r.2) X | _ => False) X := hw
  refine JoinedStr_many (joinParts_cons (ha.seq S B (Ext.refl ..) hw (fun vo mv v s1 h1 e1 _ q1 => ?_) fun c ev s1 h x => ⟨c, h, x⟩))
  cases vo with
  | str x =>
    obtain ⟨z, kx, tx, rfl⟩ := q1.read
    have h1 : wpE t me ρ (fun va _ => need (mtV 2 (.str x) va) fun r => Q r.1 r.2) X := h1
    show (Str.empty ++ x).length ≤ sizeLine ∧ _
    rw [emp_app]
    refine ⟨by rw [← top_line]; exact z, joinParts_cons (FormattedValue_plain (he.seq S B e1 h1 (fun va ma v s2 h2 e2 _ q2 => ?_) fun c ev s2 h x => ⟨c, h, x⟩))⟩
    obtain ⟨r, er, hq⟩ := h2
    obtain ⟨i, rfl, ⟨c1, c2, c3⟩, rfl⟩ := mtv2 er
    obtain ⟨u, rfl⟩ := q2.read
    have nl := num_len c1 c2
    have ll : (x ++ numT i).length ≤ Mine.top := by
      rw [Str.length_append]
      have : Mine.top = 16777216 := rfl
      omega
    refine formatField_int_small (log_small c1 c2) ⟨by rw [← top_line]; exact ll, joinParts_nil ⟨_, _, hq, e2.trans (Ext.toks ..), ll, strOk_append kx (numT_ok c1 c2).2, _, rfl⟩ (by rw [← top_line]; exact ll)⟩
  | _ => exact h1.elim
end
end Mine

namespace Mine
open PySem PyProof.Rows PySem.W

section
variable {G : Gd} {cx : Cx} {cc : CC} {t : Th} {x : Str} {sc : Scope} {cl : List (Str × Addr)} {ρ : Rho} {vals : Vals} {s s' : Shared}

theorem comp_vm (S : St G cx ρ vals s) (B : BadLt cx s) {C D : Addr} {m} {ys : List AV} {vs : List Value} {f : Bool} {h' : Heap} (nD : s.heap.get? D = none) (hDC : D ≠ C) (hn : s'.heap.Ns C m) (hL : s'.heap.PlainList D vs.toArray)
    (hz : ys.length ≤ top) (hV : VRs G (accS cx ρ vals C D f) s'.heap ys vs) (hs : Heap.SameBut C s'.heap h') : VM G cx ρ vals s.heap h' (if f then .ow else .sh) (.lst ys) (.ref D) := by
  have k : Kx G.base (· = C) s'.heap h' := .but hs
  have hL' := k.plain hDC hL
  have hV' := VRs.kx k (fun b q => .inl (.inr (.inl q))) (fun b q => by rw [q]; exact NoTup.ns hn) _ _ hV
  cases f with
  | true => exact ⟨D, rfl, nD, hz, vs, hL', VRs.off (fun b e => .inl (e.elim .inl fun q => .inr (.inr q))) _ _ hV'⟩
  | false => exact ⟨hz, D, vs, rfl, not_sS_size S B nD, .of hL', VRs.off (fun b e => .inl (.inl e)) _ _ hV'⟩

theorem sc_closure (Cc : CcOk G cx cc) (K : ScOk cc x sc) : ∃ cl, closureFor sc cx.env = pure cl ∧ ∀ y, (y, NameKind.free) ∈ sc.names → cl.lookup y = cx.env.cells.lookup y :=
  closure_ok fun y hy => by
    rcases K.kinds y _ hy with ⟨h, _⟩ | ⟨_, h⟩ | h
    · cases h
    · exact Cc.cells y h
    · cases h

theorem noSet_iter {e : Expr} (h : ∀ es k p, e ≠ .Set es k p) (env : Env) (x : Value) : foldedSetIterable e env x = pure x := by
  cases e <;> first | rfl | exact absurd rfl (h _ _ _)

theorem eok_comp {elt iter : Expr} {px pos : Pos} {ifs : List Expr} {mel mit : ME} {mco : Option ME} (O : cx.Ok G) (Cc : CcOk G cx cc) (T : ThOk G cx t) (K : ScOk cc x sc) (hit : EOK G cx t iter mit) (hs : ∀ es k p, iter ≠ .Set es k p)
    (hel : ∀ cl C D, (cxC cx x sc cl C D).Ok G → CcOk G (cxC cx x sc cl C D) (ccC cc x sc) → EOK G (cxC cx x sc cl C D) t elt mel)
    (hco : ∀ cl C D, (cxC cx x sc cl C D).Ok G → CcOk G (cxC cx x sc cl C D) (ccC cc x sc) → CoOk G (cxC cx x sc cl C D) t ifs mco) :
    EOK G cx t (.ListComp elt [⟨.Name x px, iter, ifs, 0⟩] sc pos) (.comp mel mit mco) := by
  intro ρ vals s Q X S B hw
  rw [wpE_comp] at hw
  obtain ⟨hl, hw⟩ := hw
  obtain ⟨cl, hclos, hcl⟩ := sc_closure Cc K
  rw [eval_ListComp]
  refine wpAny_comprehension_free (use := none) rfl (noSet_iter hs _) hclos K.kind K.locs (hit.seq S B (Ext.refl ..) hw (fun vi mi xv s1 h1 e1 _ q1 => ?_) fun c ev s1 h x => ⟨c, h, x⟩)
  obtain ⟨xs, ex, hz, hc⟩ := h1
  refine iter_ok (T.loops hl) q1 ex hz fun s2 I fp P J e2 it j0 _ _ => ?_
  refine comp_core (RR := fun acc C => compPost (model G.prog G.w) cx.A (fun e s' => ∃ c, X c ∧ XP G s c e s') none (EP G cx ρ vals s Q) acc C) O Cc K (hel cl) (hco cl) S B e1 e2 it j0 hcl hz hc ?_ ?_
  rotate_left
  · intro D C s' m c ea hY nC hn hX x
    exact ⟨m, hn, fun h' hs' cenv _ => passOn_ok (s := { s' with heap := h' }) (((hX.1.kx (M := (· = C))).trans (.but hs')).toKp fun b q => by rw [q]; exact nC) (x.but hn hs') fun h'' k'' x'' => ⟨c, hY, ea, rfl, ⟨k'', hX.2.1, hX.2.2⟩, x''.ok⟩⟩
  intro D C s' m ys vs f hq nD nC hDC hn hL hX hzy hV
  refine ⟨m, hn, fun h' hs' => ⟨_, _, hq, hX.trans' (((hX.1.kx (M := (· = C))).trans (.but hs')).toKp fun b q => by rw [q]; exact nC), comp_vm S B nD hDC hn hL hzy hV hs'⟩⟩

theorem allE_of {f : Expr → Option ME} {P : Expr → ME → Prop} (h : ∀ e me, f e = some me → P e me) : ∀ {es : List Expr} {mes : List ME}, mapMO f es = some mes → AllE P es mes
  | [], mes, e => by cases e; exact .nil
  | e :: es, mes, q => by
    obtain ⟨y, hy, q⟩ := bindI q
    obtain ⟨ys, hys, rfl⟩ := Option.map_eq_some_iff.mp q
    exact .cons (h _ _ hy) (allE_of h hys)

noncomputable def Good (G : Gd) (cx : Cx) (t : Th) (e : Expr) (me : ME) : Prop := EOK G cx t e me ∧ TOK G cx t e me ∧ notStar e


theorem isi_at (Cc : CcOk G cx cc) (h : cc.bis.contains (Str.ofString "isinstance") = true) : BiAt G (Str.ofString "isinstance") (.builtin "isinstance") := by
  obtain ⟨F, hF⟩ := Cc.bis _ h
  have : F = .builtin "isinstance" := by
    have h2 := hF.2.1
    have h3 : bootBuiltins (Str.ofString "isinstance") = some (.builtin "isinstance") := by decide +kernel
    rw [h3] at h2; exact (Option.some.inj h2).symm
  rw [← this]; exact hF

theorem tok_never {e : Expr} {me : ME} (h : ∀ ρ Q X, ¬ wpT t me ρ Q X) : TOK G cx t e me := fun ρ _ _ Q X _ _ hw => (h ρ Q X hw).elim

theorem good_mk {e : Expr} {me : ME} (he : EOK G cx t e me) (hw' : ∀ ρ Q X, wpT t me ρ Q X → wpE t me ρ (fun v _ => need (truth v) Q) X)
    (hi : ∀ whole, isTrue e cx.env whole = (do let v ← whole; standAt e.pos; holding [v] (truthy v))) (hn : notStar e) : Good G cx t e me := ⟨he, tok_val he hw' hi, hn⟩
theorem good_no {e : Expr} {me : ME} (he : EOK G cx t e me) (h : ∀ ρ Q X, ¬ wpT t me ρ Q X) (hn : notStar e) : Good G cx t e me := ⟨he, tok_never h, hn⟩

theorem and2 {a b : Bool} (h : (a && b) = true) : a = true ∧ b = true := by cases a <;> cases b <;> first | exact ⟨rfl, rfl⟩ | cases h
theorem not1 {a : Bool} (h : (!a) = true) : a = false := by cases a <;> first | rfl | cases h
theorem bne1 {a b : Str} (h : (a != b) = true) : (a == b) = false := not1 h
theorem nil1 {α : Type} {l : List α} (h : l.isEmpty = true) : l = [] := by cases l <;> first | rfl | cases h
theorem noStar {e : Expr} (h : isStar e = false) : notStar e := fun v p q => by subst q; cases h
theorem name_of {e : Expr} {x : Str} (h : nameOf e = some x) : ∃ p, e = .Name x p := by
  revert h
  unfold nameOf
  cases eview e with
  | name y p hh => intro h; cases h; exact ⟨p, hh⟩
  | _ => intro h; cases h
theorem cst_of {e : Expr} {c : Const} (h : asCst e = some c) : ∃ k p, e = .Constant c k p := by
  revert h
  unfold asCst
  cases eview e with
  | cst c k p hh => intro h; cases h; exact ⟨k, p, hh⟩
  | _ => intro h; cases h
theorem call_of {e g : Expr} {as : List Expr} {ks : List Keyword} (h : asCall e = some (g, as, ks)) : ∃ p, e = .Call g as ks p := by
  revert h
  unfold asCall
  cases eview e with
  | call g a k p hh => intro h; cases h; exact ⟨p, hh⟩
  | _ => intro h; cases h
theorem attr_of {e o : Expr} {m : Str} {p : Pos} (h : asAttr e = some (o, m, p)) : e = .Attribute o m p := by
  revert h
  unfold asAttr
  cases eview e with
  | attr o m p hh => intro h; cases h; exact hh
  | _ => intro h; cases h
theorem one_of {as : List Expr} {a : Expr} (h1 : as.head? = some a) (h2 : as.tail.isEmpty = true) : as = [a] := by
  cases as with
  | nil => cases h1
  | cons b r => cases h1; rw [nil1 (show r.isEmpty = true from h2)]
noncomputable def noT : ME → Bool
  | .gv _ | .bin .. | .neg _ | .tup _ | .lst _ | .slc .. | .comp .. | .mxd .. => true
  | .mt .. => true
  | _ => false
noncomputable def valT : ME → Bool
  | .cst _ | .var _ | .sub .. | .call .. | .bi .. | .lbi .. => true
  | _ => false
theorem wpT_no {me : ME} (h : noT me = true) (ρ : Rho) (Q : Bool → Prop) (X : Str → Prop) (hw : wpT t me ρ Q X) : False := by
  cases me <;> first | exact hw | cases h
theorem wpT_val {me : ME} (h : valT me = true) (ρ : Rho) (Q : Bool → Prop) (X : Str → Prop) (hw : wpT t me ρ Q X) : wpE t me ρ (fun v _ => need (truth v) Q) X := by
  cases me <;> first | exact hw | cases h
theorem noSet1 {e : Expr} (h : isSet e = false) : ∀ es k p, e ≠ .Set es k p := fun es k p q => by subst q; cases h

variable {f : Expr → Option ME} {p : Pos} {me : ME}

theorem good_cst {c : Const} {k : Nat} (h : (compConst c).map ME.cst = some me) : Good G cx t (.Constant c k p) me := by
  obtain ⟨v, hv, rfl⟩ := Option.map_eq_some_iff.mp h
  exact good_mk (eok_cst hv) (wpT_val rfl) (fun _ => rfl) (noStar rfl)
theorem good_name {x : Str} (O : cx.Ok G) (C : CcOk G cx cc) (T : ThOk G cx t) (h : cName cc x = some me) : Good G cx t (.Name x p) me := by
  obtain ⟨hd, h⟩ := onlyIf_some h
  have hd := bne1 hd
  cases hv : cc.isVar x with
  | true =>
    rw [hv] at h
    obtain ⟨hc, h⟩ := onlyIf_some h
    obtain ⟨i, hi, rfl⟩ := Option.map_eq_some_iff.mp h
    exact good_mk (eok_var O C hv hd (bne1 hc) hi) (wpT_val rfl) (fun _ => rfl) (noStar rfl)
  | false =>
    rw [hv] at h
    obtain ⟨hg, h⟩ := onlyIf_some h
    cases h
    exact good_no (eok_gv O C T (and2 hg).1 hd) (wpT_no rfl) (noStar rfl)
theorem good_bin {l r : Expr} {op : Operator} (ih : ∀ e me, f e = some me → Good G cx t e me) (h : onlyIf (okOp op) (ok2 (f l) (f r) (.bin op)) = some me) : Good G cx t (.BinOp l op r p) me := by
  obtain ⟨_, h⟩ := onlyIf_some h
  obtain ⟨a, b, ha, hb, rfl⟩ := ok2_some h
  exact good_no (eok_bin (ih _ _ ha).1 (ih _ _ hb).1) (wpT_no rfl) (noStar rfl)
theorem good_un {x : Expr} {op : UnaryOp} (ih : ∀ e me, f e = some me → Good G cx t e me) (h : cUn op (f x) = some me) : Good G cx t (.UnaryOp op x p) me := by
  cases op with
  | USub =>
    obtain ⟨a, ha, rfl⟩ := Option.map_eq_some_iff.mp h
    exact good_no (eok_neg (ih _ _ ha).1) (wpT_no rfl) (noStar rfl)
  | Not =>
    obtain ⟨a, ha, rfl⟩ := Option.map_eq_some_iff.mp h
    exact ⟨eok_not (ih _ _ ha).1, tok_not (ih _ _ ha).2.1, noStar rfl⟩
  | _ => cases h
theorem good_bop {es : List Expr} {op : BoolOp} (ih : ∀ e me, f e = some me → Good G cx t e me) (h : cBop op (mapMO f es) = some me) : Good G cx t (.BoolOp op es p) me := by
  obtain ⟨es', hes, h⟩ := bindI h
  obtain ⟨_, h⟩ := onlyIf_some h
  cases h
  exact ⟨eok_bop (allE_of (fun e me h => (ih e me h).1) hes), tok_bop (allE_of (fun e me h => (ih e me h).2.1) hes), noStar rfl⟩
theorem good_cmp {l : Expr} {ops : List CmpOp} {rs : List Expr} (O : cx.Ok G) (ih : ∀ e me, f e = some me → Good G cx t e me) (h : cCmp f l ops rs = some me) : Good G cx t (.Compare l ops rs p) me := by
  cases ops with
  | nil => cases h
  | cons op ops => cases rs with
    | nil => cases h
    | cons r rs =>
      obtain ⟨hc, g⟩ := onlyIf_some h
      obtain ⟨hc, hs⟩ := and2 hc
      obtain ⟨h1, h2⟩ := and2 hc
      cases nil1 h1
      cases nil1 h2
      obtain ⟨a, b, ha, hb, rfl⟩ := ok2_some g
      have hs := noSet1 (not1 hs)
      exact ⟨eok_cmp O (ih _ _ ha).1 (ih _ _ hb).1 hs, tok_cmp O (ih _ _ ha).1 (ih _ _ hb).1 hs, noStar rfl⟩
theorem good_tup {es : List Expr} {k : Nat} (ih : ∀ e me, f e = some me → Good G cx t e me) (h : (mapMO f es).map ME.tup = some me) : Good G cx t (.Tuple es k p) me := by
  obtain ⟨es', hes, rfl⟩ := Option.map_eq_some_iff.mp h
  exact good_no (eok_tup (allE_of (fun e me h => ⟨(ih e me h).1, (ih e me h).2.2⟩) hes)) (wpT_no rfl) (noStar rfl)
theorem good_lst {es : List Expr} (ih : ∀ e me, f e = some me → Good G cx t e me) (h : (mapMO f es).map ME.lst = some me) : Good G cx t (.List es p) me := by
  obtain ⟨es', hes, rfl⟩ := Option.map_eq_some_iff.mp h
  exact good_no (eok_lst (allE_of (fun e me h => ⟨(ih e me h).1, (ih e me h).2.2⟩) hes)) (wpT_no rfl) (noStar rfl)
theorem good_part (ih : ∀ e me, f e = some me → Good G cx t e me) (o : Option Expr) (m : ME) (q : compO f o = some m) : (o = none ∧ m = .cst .none) ∨ ∃ e, o = some e ∧ EOK G cx t e m := by
  cases o with
  | none => cases q; exact .inl ⟨rfl, rfl⟩
  | some e => exact .inr ⟨e, rfl, (ih e m q).1⟩
theorem good_sub0 {v s : Expr} (ih : ∀ e me, f e = some me → Good G cx t e me) (h : cSub0 f v s = some me) : Good G cx t (.Subscript v s p) me := by
  unfold cSub0 at h
  cases hs : isSlice s with
  | true =>
    rw [hs] at h
    cases s with
    | Slice lo hi st q =>
      obtain ⟨hc, k⟩ := onlyIf_some (show onlyIf st.isNone _ = some me from h)
      obtain ⟨a, b, c, ha, hb, hc', rfl⟩ := ok3_some k
      cases st with
      | some _ => cases hc
      | none => exact good_no (eok_slc (ih _ _ ha).1 (good_part ih _ _ hb) (good_part ih _ _ hc')) (wpT_no rfl) (noStar rfl)
    | _ => cases hs
  | false =>
    rw [hs] at h
    obtain ⟨a, b, ha, hb, rfl⟩ := ok2_some h
    exact good_mk (eok_sub (ih _ _ ha).1 (ih _ _ hb).1 fun a b c d q => by subst q; cases hs) (wpT_val rfl) (fun _ => rfl) (noStar rfl)
theorem good_sub {v s : Expr} (_ : cx.Ok G) (_ : CcOk G cx cc) (ih : ∀ e me, f e = some me → Good G cx t e me) (h : cSub cc f v s = some me) : Good G cx t (.Subscript v s p) me := good_sub0 ih h
theorem good_isi {a b : Expr} {q : Pos} (O : cx.Ok G) (C : CcOk G cx cc) (T : ThOk G cx t) (hg : cc.isGlob (Str.ofString "isinstance") = true) (ih : ∀ e me, f e = some me → Good G cx t e me) (h : cIsi cc f a b = some me) :
    Good G cx t (.Call (.Name (Str.ofString "isinstance") q) [a, b] [] p) me := by
  obtain ⟨ty, hty, k⟩ := bindI h
  obtain ⟨tp, rfl⟩ := name_of hty
  obtain ⟨hc, k⟩ := onlyIf_some k
  obtain ⟨hc, h4⟩ := and2 hc
  obtain ⟨hc, h3⟩ := and2 hc
  obtain ⟨h1, h2⟩ := and2 hc
  obtain ⟨m, hm, rfl⟩ := Option.map_eq_some_iff.mp k
  have nm : ∃ F, NameAt G ty F := by
    rcases (Bool.or_eq_true _ _).mp h4 with h4 | h4
    · obtain ⟨F, hF⟩ := C.bis _ h4; exact ⟨F, hF.name⟩
    · obtain ⟨F, hF, _⟩ := C.cls _ h4; exact ⟨F, hF⟩
  exact good_mk (eok_isi O C T hg h1 (bne1 h2) (isi_at C h3) nm ⟨(ih _ _ hm).1, (ih _ _ hm).2.2⟩) (fun ρ Q X hw => by
    rw [wpE_isi]
    simp only [truth_bool, need_some]
    exact hw) (fun _ => rfl) (noStar rfl)
theorem good_call00 {g : Str} {q : Pos} {args : List Expr} (O : cx.Ok G) (C : CcOk G cx cc) (T : ThOk G cx t) (hg : cc.isGlob g = true) (hd : (g == Str.ofString "__debug__") = false) (ih : ∀ e me, f e = some me → Good G cx t e me) (h : cCall00 cc f g args = some me) :
    Good G cx t (.Call (.Name g q) args [] p) me := by
  unfold cCall00 at h
  cases hf : g == Str.ofString "isinstance" with
  | true =>
    rw [hf] at h
    have hf := beq_iff_eq.mp hf
    subst hf
    cases args with
    | nil => cases h
    | cons a r => cases r with
      | nil => cases h
      | cons b r =>
        obtain ⟨hr, k⟩ := onlyIf_some h
        cases nil1 hr
        exact good_isi O C T hg ih k
  | false =>
    rw [hf] at h
    cases hf : cc.fns.contains g with
    | true =>
      rw [hf] at h
      obtain ⟨es', hes, rfl⟩ := Option.map_eq_some_iff.mp h
      exact good_mk (eok_call O C T hg hd hf (allE_of (fun e me h => ⟨(ih e me h).1, (ih e me h).2.2⟩) hes)) (wpT_val rfl) (fun _ => rfl) (noStar rfl)
    | false =>
      rw [hf] at h
      obtain ⟨hb, h⟩ := onlyIf_some h
      obtain ⟨es', hes, rfl⟩ := Option.map_eq_some_iff.mp h
      have al := allE_of (fun e me h => (⟨(ih e me h).1, (ih e me h).2.2⟩ : AOK G cx t e me)) hes
      cases loopy g with
      | true => exact good_mk (eok_lbi O C T hg hd hb al) (wpT_val rfl) (fun _ => rfl) (noStar rfl)
      | false => exact good_mk (eok_bi O C T hg hd hb al) (wpT_val rfl) (fun _ => rfl) (noStar rfl)
theorem good_call0 {g : Str} {q : Pos} {args : List Expr} (O : cx.Ok G) (C : CcOk G cx cc) (T : ThOk G cx t) (hg : cc.isGlob g = true) (hd : (g == Str.ofString "__debug__") = false) (ih : ∀ e me, f e = some me → Good G cx t e me) (h : cCall0 cc f g args = some me) : Good G cx t (.Call (.Name g q) args [] p) me := good_call00 O C T hg hd ih h
theorem good_call {g : Expr} {args : List Expr} {ks : List Keyword} (O : cx.Ok G) (C : CcOk G cx cc) (T : ThOk G cx t) (ih : ∀ e me, f e = some me → Good G cx t e me) (h : cCall cc f g args ks = some me) : Good G cx t (.Call g args ks p) me := by
  obtain ⟨g', hg', k⟩ := bindI h
  obtain ⟨q, rfl⟩ := name_of hg'
  cases hk : ks.isEmpty with
  | true =>
    rw [hk, cond_true] at k
    cases nil1 hk
    obtain ⟨hc, k'⟩ := onlyIf_some k
    obtain ⟨hg, hd⟩ := and2 hc
    exact good_call0 O C T hg (bne1 hd) ih k'
  | false =>
    rw [hk, cond_false] at k
    cases k

theorem good_callM {g : Expr} {args : List Expr} {ks : List Keyword} (O : cx.Ok G) (C : CcOk G cx cc) (T : ThOk G cx t) (ih : ∀ e me, f e = some me → Good G cx t e me) (h : cCallM cc f g args ks p = some me) : Good G cx t (.Call g args ks p) me := good_call O C T ih h
theorem good_callX {g : Expr} {args : List Expr} {ks : List Keyword} (O : cx.Ok G) (C : CcOk G cx cc) (T : ThOk G cx t) (ih : ∀ e me, f e = some me → Good G cx t e me) (h : cCallX cc f g args ks p = some me) : Good G cx t (.Call g args ks p) me := by
  unfold cCallX at h
  cases ha : asAttr g with
  | none => rw [ha] at h; exact good_callM O C T ih h
  | some r =>
    rw [ha] at h
    obtain ⟨o, m, ap⟩ := r
    obtain ⟨k, h1, k1⟩ := bindI h
    obtain ⟨e, h2, k2⟩ := bindI k1
    obtain ⟨hc, k3⟩ := onlyIf_some k2
    obtain ⟨a, b, hi, hm, e7⟩ := ok2_some k3
    have a1 := and2 hc
    have a2 := and2 a1.1
    have a3 := and2 a2.1
    have e2 : g = .Attribute o m ap := attr_of ha
    rw [e2, one_of h2 a3.2, nil1 a3.1, ← e7]
    exact good_no (eok_mt a1.2 h1 a2.2 (ih _ _ hi).1 ⟨(ih _ _ hm).1, (ih _ _ hm).2.2⟩) (wpT_no rfl) (noStar rfl)
theorem fv_inv {b e : Expr} (h : fvOf b = some e) : ∃ q, b = .FormattedValue e (-1) none q := by
  revert h
  unfold fvOf
  cases fview b with
  | fv x c o p hh =>
    intro h
    obtain ⟨k, e1⟩ := onlyIf_some h
    obtain ⟨k1, k2⟩ := and2 k
    exact ⟨p, by rw [hh, Option.some.inj e1, eq_of_beq k1, Option.isNone_iff_eq_none.mp k2]⟩
  | other => intro h; cases h
theorem good_js {vs : List Expr} (ih : ∀ e me, f e = some me → Good G cx t e me) (h : cJs f vs = some me) : Good G cx t (.JoinedStr vs p) me := by
  cases vs with
  | nil => cases h
  | cons a r => cases r with
    | nil => cases h
    | cons b r =>
      obtain ⟨hr, k⟩ := onlyIf_some h
      cases nil1 hr
      obtain ⟨x, e, hx, hb, rfl⟩ := ok2_some k
      obtain ⟨e', h1, h2⟩ := bindI hb
      obtain ⟨q, rfl⟩ := fv_inv h1
      exact good_no (eok_fst (ih _ _ hx).1 (ih _ _ h2).1) (wpT_no rfl) (noStar rfl)
inductive LcIn (f : CC → Expr → Option ME) (cc : CC) (sc : Scope) (elt : Expr) (gens : List Comprehension) (me : ME) : Prop
  | mk (x : Str) (px : Pos) (it : Expr) (ifs : List Expr) (el i : ME) (co : Option ME) (e1 : gens = [⟨.Name x px, it, ifs, 0⟩]) (e2 : me = .comp el i co) (K : ScOk cc x sc) (hs : ∀ es k p, it ≠ .Set es k p) (h1 : f cc it = some i) (h2 : f (ccC cc x sc) elt = some el) (h3 : cIfs (f (ccC cc x sc)) ifs = some co) : LcIn f cc sc elt gens me
theorem cLC_inv {f : CC → Expr → Option ME} {elt : Expr} {gens : List Comprehension} (h : cLC f cc elt sc gens = some me) : LcIn f cc sc elt gens me := by
  cases gens with
  | nil => cases h
  | cons g r =>
    obtain ⟨hr, k⟩ := onlyIf_some h
    obtain ⟨hr, ha⟩ := and2 hr
    cases nil1 hr
    obtain ⟨tg, it, ifs, as⟩ := g
    have ha : as = 0 := eq_of_beq ha
    subst ha
    clear h
    obtain ⟨x, hx, k⟩ := bindI k
    obtain ⟨px, rfl⟩ := name_of hx
    obtain ⟨hc, k'⟩ := onlyIf_some k
    obtain ⟨hc, hs⟩ := and2 hc
    obtain ⟨i, el, co, h1, h2, h3, rfl⟩ := ok3_some k'
    exact ⟨x, px, it, ifs, el, i, co, rfl, rfl, ScOk.of (and2 (and2 hc).1).1, noSet1 (not1 hs), h1, h2, h3⟩
theorem coOk_of {ifs : List Expr} {co : Option ME} (h : cIfs f ifs = some co) (ht : ∀ c m, f c = some m → TOK G cx t c m) : CoOk G cx t ifs co := by
  cases ifs with
  | nil => cases h; exact trivial
  | cons c r =>
    obtain ⟨hr, k⟩ := onlyIf_some h
    cases nil1 hr
    obtain ⟨c', hc', rfl⟩ := Option.map_eq_some_iff.mp k
    exact ht _ _ hc'

theorem compE_ok : ∀ (n : Nat) (cc : CC) (e : Expr) (me : ME), compE n cc e = some me → ∀ (cx : Cx), cx.Ok G → CcOk G cx cc → ThOk G cx t → Good G cx t e me
  | 0, cc, e, me, h, cx, O, C, T => nomatch (show (none : Option ME) = some me from h)
  | n + 1, cc, e, me, h, cx, O, C, T => by
    have ih := fun e me h => compE_ok n cc e me h cx O C T
    cases e with
    | Constant c k p => exact good_cst h
    | Name x p => exact good_name O C T h
    | BinOp l op r p => exact good_bin ih h
    | UnaryOp op x p => exact good_un ih h
    | BoolOp op es p => exact good_bop ih h
    | Compare l ops rs p => exact good_cmp O ih h
    | Tuple es k p => exact good_tup ih h
    | List es p => exact good_lst ih h
    | Subscript v s p => exact good_sub O C ih h
    | Call g args ks p => exact good_callX O C T ih h
    | JoinedStr vs p => exact good_js ih h
    | ListComp elt gens sc p =>
      obtain ⟨x, px, it, ifs, el, i, co, rfl, rfl, K, hs, h1, h2, h3⟩ := cLC_inv (f := compE n) h
      exact good_no (eok_comp O C T K (ih _ _ h1).1 hs (fun cl C' D O' C'' => (compE_ok n (ccC cc x sc) elt el h2 _ O' C'' (thC_ok T)).1)
        fun cl C' D O' C'' => coOk_of h3 fun c m q => (compE_ok n (ccC cc x sc) c m q _ O' C'' (thC_ok T)).2.1) (wpT_no rfl) (noStar rfl)
    | _ => exact nomatch (show (none : Option ME) = some me from h)
end
end Mine

namespace Mine
open PySem PyProof.Rows PySem.W

theorem nsSet_raw (M : Model) (Γ : Ctx) (E : Value → Pos → Shared → Prop) (p : Pos) (s : Shared) {a : Addr} {m} (hn : s.heap.Ns a m) (name : Str) (v : Value) :
    ∃ h key, ∀ Q : Unit → Pos → Shared → Prop, Sem.wp M Γ (nsSet a name v) Q E p s ↔ Q () p { s with heap := s.heap.update a (Obj.putName name h key v), toks := s.toks + 1 } := by
  obtain ⟨o, es, ep, ho, hd, hk, hm⟩ := hn
  have hany : es.any (·.refKey) = false := by
    rw [Array.any_eq_false']; intro e he; obtain ⟨n, t, h⟩ := hk e he; simp [DictEntry.refKey, h]
  have hs : (s.heap.get? a).isSome = true := by rw [ho]; rfl
  apply Exists.intro
  apply Exists.intro
  intro Q
  simp only [nsSet, strHash, Sem.wp_bind', Sem.wp_cmd_ask, Sem.wp_pure', Sem.wp_cmd_mkText]
  rw [Sem.wp_loadPart_of M Γ E p { s with toks := s.toks + 1 } (o := o) _ ho]
  simp only [hd, aRefKeyMayBeTheName_eq, aRefKeyMayBeTheNameByArray, hany, Bool.and_false, Bool.false_eq_true, if_false, Sem.wp_cmd_updatePart]
  exact ⟨fun q => q.2, fun q => ⟨hs, q⟩⟩

theorem putName_cls (o : Obj) (name : Str) (h : Int) (key v : Value) : (Obj.putName name h key v o).cls = o.cls := by
  obtain ⟨c, d, dt, sl⟩ := o
  rw [Obj.putName_eq]
  unfold Obj.putNameByArray
  cases dt <;> try rfl
  dsimp only
  split <;> rfl

theorem wpAny_nsSetC {M : Model} {A : Around} {E : Value → Shared → Prop} {s : Shared} {a : Addr} {m} {name : Str} {v : Value} {Q : Unit → Shared → Prop} {o : Obj} (hn : s.heap.Ns a m) (ho : s.heap.get? a = some o)
    (h : ∀ h' o', h'.Ns a (fun x => if x = name then some v else m x) → Heap.SameBut a s.heap h' → h'.get? a = some o' → o'.cls = o.cls → Q () { s with heap := h', toks := s.toks + 1 }) :
    wpAny M A (nsSet a name v) Q E s := by
  intro Γ p hΓ
  obtain ⟨hh, key, raw⟩ := nsSet_raw M Γ (fun e _ s' => E e s') p s hn name v
  rw [raw]
  have lib := (raw (fun _ _ s' => s'.heap.Ns a (fun x => if x = name then some v else m x) ∧ Heap.SameBut a s.heap s'.heap)).mp (Sem.wp_nsSet M Γ _ p s hn name v _ fun h' q1 q2 => ⟨q1, q2⟩)
  obtain ⟨l1, l2⟩ := lib
  obtain ⟨o', _, _, e', _⟩ := id l1
  refine h _ o' l1 l2 e' ?_
  have : o' = Obj.putName name hh key v o := by
    have hf : (Obj.putName name hh key v o).isFreed = false := by
      obtain ⟨o2, es, ep, e2, d2, _⟩ := hn
      rw [ho] at e2; cases e2
      obtain ⟨c, d, dt, sl⟩ := o
      subst d2
      rw [Obj.putName_eq]
      unfold Obj.putNameByArray
      dsimp only
      split <;> rfl
    have e3 := Heap.get?_update_self (Obj.putName name hh key v) ho hf
    rw [show (s.heap.update a (Obj.putName name hh key v)).get? a = some o' from e'] at e3
    exact Option.some.inj e3
  rw [this]; exact putName_cls ..
end Mine

namespace Mine
open PySem PyProof.Rows PySem.W

structure FOk (G : Gd) (cx : Cx) : Prop where
  ok : cx.Ok G
  fr : ∃ outer, cx.fr = cx.env :: outer ∧ ∀ b ∈ outer.filterMap (·.frame), (cx.h0.get? b).isSome = true
  frame : cx.env.frame = some cx.env.locals
  bad : ∀ a, cx.bad a → a = cx.env.locals ∨ ∃ x, cx.env.cells.lookup x = some a
  badC : ∀ x c, cx.env.cells.lookup x = some c → cx.bad c
  cinj : ∀ x y c, cx.env.cells.lookup x = some c → cx.env.cells.lookup y = some c → x = y
  cne : ∀ x c, cx.env.cells.lookup x = some c → c ≠ cx.env.locals
  kinds : ∀ (i : Nat) (x : Str), cx.Γ[i]? = some (some x) → cx.env.kindOf x = some .local ∨ (cx.env.kindOf x = some .cell ∧ ∃ c, cx.env.cells.lookup x = some c)

structure Fr (cx : Cx) (h : Heap) : Prop where
  ns : ∃ m, h.Ns cx.env.locals m
  cell : ∀ x c, cx.env.cells.lookup x = some c → ∃ ov, h.IsCell c ov

section
variable {G : Gd} {cx : Cx} {ρ : Rho} {vals : Vals} {s s' : Shared}
theorem Fr.kp {bs h h' : Heap} (k : Kp bs h h') (R : Fr cx h) : Fr cx h' :=
  ⟨let ⟨m, n⟩ := R.ns; ⟨m, k.ns n⟩, fun x c e => let ⟨ov, n⟩ := R.cell x c e; ⟨ov, k.isCell n⟩⟩
theorem Fr.badLt (F : FOk G cx) (R : Fr cx s.heap) : BadLt cx s := fun a q => by
  rcases F.bad a q with rfl | ⟨x, e⟩
  · obtain ⟨m, n⟩ := R.ns; exact Ns.there n
  · obtain ⟨ov, n⟩ := R.cell x a e; exact IsCell.there n
theorem Fr.noTup (F : FOk G cx) {h : Heap} (R : Fr cx h) : ∀ a, cx.bad a → NoTup h a := fun a q => by
  rcases F.bad a q with rfl | ⟨x, e⟩
  · obtain ⟨m, n⟩ := R.ns; exact NoTup.ns n
  · obtain ⟨ov, n⟩ := R.cell x a e; exact NoTup.cell n

theorem Ns.fun {h : Heap} {a : Addr} {m m'} (n : h.Ns a m) (n' : h.Ns a m') : m = m' := by
  obtain ⟨o, es, ep, e, d, _, f⟩ := n
  obtain ⟨o', es', ep', e', d', _, f'⟩ := n'
  rw [e] at e'; cases e'
  rw [d] at d'; cases d'
  funext z; rw [← f z, ← f' z]

theorem set_get {α : Type} (l : List α) (i j : Nat) (v : α) : (l.set i v)[j]? = if i = j then (if j < l.length then some v else none) else l[j]? := by
  rw [List.getElem?_set]
  split <;> simp_all

theorem funFrames_at {h h' base : Heap} {l : List Env} {L : Addr} (e : ∀ b o, b ≠ L → h.get? b = some o → (∀ vs, o.data ≠ .fields vs) → ∃ o', h'.get? b = some o' ∧ o'.data = o.data) (n : ∃ o, h'.get? L = some o ∧ ∀ vs, o.data ≠ .fields vs) (f : h.FunFrames base l) : h'.FunFrames base l := by
  induction l with
  | nil => trivial
  | cons env rest ih =>
    obtain ⟨hk, ⟨A, o, hf, hn, ho, hd⟩, hr⟩ := f
    refine ⟨hk, ?_, ih hr⟩
    by_cases q : A = L
    · subst q
      obtain ⟨o', e', d'⟩ := n
      exact ⟨A, o', hf, hn, e', d'⟩
    · obtain ⟨o', e', d'⟩ := e A o q ho hd
      exact ⟨A, o', hf, hn, e', fun vs => d' ▸ hd vs⟩

theorem ns_nofields {h : Heap} {a : Addr} {m} {o : Obj} (n : h.Ns a m) (e : h.get? a = some o) : ∀ vs, o.data ≠ .fields vs := fun vs q => by
  obtain ⟨o', _, _, e', d, _⟩ := n
  rw [e] at e'; cases e'
  rw [d] at q; cases q

theorem frame_change (F : FOk G cx) (S : St G cx ρ vals s) {T : Addr} {h' : Heap} (hs : Heap.SameBut T s.heap h')
    (hT : (T = cx.env.locals ∧ ∃ m o o', h'.Ns T m ∧ s.heap.get? T = some o ∧ h'.get? T = some o' ∧ o'.cls = o.cls) ∨ ∃ x, cx.env.cells.lookup x = some T) : FsOk h' cx.fr ∧ h'.FunFrames G.base cx.fr := by
  obtain ⟨outer, hfr, hold⟩ := F.fr
  rcases hT with ⟨rfl, m, o, o', n, e, e', c⟩ | ⟨x, ex⟩
  · have nf := ns_nofields n e'
    constructor
    · intro b hb
      by_cases q : b = cx.env.locals
      · subst q
        obtain ⟨o2, e2, c2, _⟩ := S.fsok _ hb
        rw [e] at e2; cases e2
        exact ⟨o', e', c.trans c2, nf⟩
      · obtain ⟨o2, e2, c2, d2⟩ := S.fsok _ hb
        exact ⟨o2, (hs.2 b q).trans e2, c2, d2⟩
    · exact funFrames_at (fun b o q e _ => ⟨o, (hs.2 b q).trans e, rfl⟩) ⟨o', e', nf⟩ S.frames
  · have nb : ∀ b ∈ cx.fr.filterMap (·.frame), b ≠ T := by
      intro b hb q
      subst q
      rw [hfr] at hb
      simp only [List.filterMap_cons, F.frame] at hb
      rcases List.mem_cons.mp hb with rfl | hb
      · exact F.cne x _ ex rfl
      · have := hold b hb
        rw [F.ok.badGe b (F.badC x b ex)] at this
        cases this
    constructor
    · intro b hb
      obtain ⟨o2, e2, c2, d2⟩ := S.fsok _ hb
      exact ⟨o2, (hs.2 b (nb b hb)).trans e2, c2, d2⟩
    · have := S.frames
      revert nb this
      generalize cx.fr = l
      intro nb f
      induction l with
      | nil => trivial
      | cons env rest ih =>
        obtain ⟨hk, ⟨A, o, hf, hn, ho, hd⟩, hr⟩ := f
        refine ⟨hk, ⟨A, o, hf, hn, (hs.2 A (nb A (by simp [List.filterMap_cons, hf]))).trans ho, hd⟩, ih (fun b hb => nb b ?_) hr⟩
        simp only [List.filterMap_cons, hf]
        exact List.mem_cons_of_mem _ hb

theorem store_ok {M : Model} {A : Around} {E : Value → Shared → Prop} (F : FOk G cx) (S : St G cx ρ vals s) (R : Fr cx s.heap) {i : Nat} {x : Str} (hi : cx.Γ[i]? = some (some x)) {v : Value} {Q : Unit → Shared → Prop}
    (h : ∀ h' tk, Kx G.base cx.bad s.heap h' → FsOk h' cx.fr → h'.FunFrames G.base cx.fr → Fr cx h' → (∀ (j : Nat) (y : Str), cx.Γ[j]? = some (some y) → VarAt cx.env h' y ((vals.set i (some v))[j]?.join)) → Q () { s with heap := h', toks := tk }) :
    wpAny M A (storeName cx.env x v) Q E s := by
  have il : i < vals.length := by rw [S.lenv]; exact (List.getElem?_eq_some_iff.mp hi).1
  have at_i : (vals.set i (some v))[i]?.join = some v := by rw [set_get]; simp [il]
  have at_j : ∀ j, j ≠ i → (vals.set i (some v))[j]?.join = vals[j]?.join := fun j q => by rw [set_get, if_neg (Ne.symm q)]
  obtain ⟨m, hn⟩ := R.ns
  rcases F.kinds i x hi with hk | ⟨hk, c, hc⟩
  · rw [storeName_local hk (by rw [F.ok.kind]; rfl)]
    obtain ⟨o, ho⟩ := Ns.there hn
    refine wpAny_nsSetC hn ho fun h' o' n' hs' e' c' => ?_
    obtain ⟨f1, f2⟩ := frame_change F S hs' (.inl ⟨rfl, _, o, o', n', ho, e', c'⟩)
    have k : Kx G.base (· = cx.env.locals) s.heap h' := .but hs'
    refine h h' _ (k.mono fun b q => by rw [q]; exact F.ok.badL) f1 f2 ⟨⟨_, n'⟩, fun y c e => let ⟨ov, q⟩ := R.cell y c e; ⟨ov, k.isCell (F.cne y c e) q⟩⟩ fun j y hj => ?_
    by_cases q : j = i
    · subst q
      have : y = x := by rw [hi] at hj; simpa using hj.symm
      subst this
      rw [at_i]
      unfold VarAt; rw [hk]
      exact ⟨_, n', by simp⟩
    · rw [at_j j q]
      have va := S.vars j y hj
      have hne : y ≠ x := fun e => q (F.ok.names j i x (by rw [← e]; exact hj) hi)
      unfold VarAt at va ⊢
      split at va
      · obtain ⟨m2, n2, e2⟩ := va
        have := Ns.fun n2 hn
        subst this
        exact ⟨_, n', by rw [if_neg hne]; exact e2⟩
      · obtain ⟨c2, l2, e2⟩ := va; exact ⟨c2, l2, k.isCell (F.cne y c2 l2) e2⟩
      · obtain ⟨c2, l2, e2⟩ := va; exact ⟨c2, l2, k.isCell (F.cne y c2 l2) e2⟩
      · trivial
  · obtain ⟨ov, hcell⟩ := R.cell x c hc
    refine wpAny_storeName_cell F.ok.kind hk hc hcell fun h' n' hs' => ?_
    obtain ⟨f1, f2⟩ := frame_change F S hs' (.inr ⟨x, hc⟩)
    have k : Kx G.base (· = c) s.heap h' := .but hs'
    have hLc : cx.env.locals ≠ c := fun e => F.cne x c hc e.symm
    refine h h' s.toks (k.mono fun b q => by rw [q]; exact F.badC x c hc) f1 f2 ⟨⟨m, k.ns hLc hn⟩, fun y c' e => ?_⟩ fun j y hj => ?_
    · by_cases q : c' = c
      · subst q; exact ⟨_, n'⟩
      · obtain ⟨ov', z⟩ := R.cell y c' e; exact ⟨ov', k.isCell q z⟩
    · by_cases q : j = i
      · subst q
        have : y = x := by rw [hi] at hj; simpa using hj.symm
        subst this
        rw [at_i]
        unfold VarAt; rw [hk]
        exact ⟨c, hc, n'⟩
      · rw [at_j j q]
        have va := S.vars j y hj
        have hne : y ≠ x := fun e => q (F.ok.names j i x (by rw [← e]; exact hj) hi)
        unfold VarAt at va ⊢
        split at va
        · obtain ⟨m2, n2, e2⟩ := va; exact ⟨m2, k.ns hLc n2, e2⟩
        · obtain ⟨c2, l2, e2⟩ := va; exact ⟨c2, l2, k.isCell (fun e => hne (F.cinj y x c (e ▸ l2) hc)) e2⟩
        · obtain ⟨c2, l2, e2⟩ := va; exact ⟨c2, l2, k.isCell (fun e => hne (F.cinj y x c (e ▸ l2) hc)) e2⟩
        · trivial
end
end Mine

namespace Mine
open PySem PyProof.Rows PySem.W

structure Tr (G : Gd) (cx : Cx) (ρ : Rho) (vals : Vals) (s : Shared) (ρ' : Rho) (vals' : Vals) (s' : Shared) : Prop where
  keep : Kx G.base (sS cx ρ vals) s.heap s'.heap
  roots : ∀ r, Mu ρ' vals' r → Mu ρ vals r ∨ s.heap.get? r = none

noncomputable def SlotOk (m : Md) (sm : Sm) : Prop := (sm = asSm m ∧ m ≠ .bo) ∨ (m = .ow ∧ sm = .mu)

section
variable {G : Gd} {cx : Cx} {ρ ρ' ρ'' : Rho} {vals vals' vals'' : Vals} {s s' s'' : Shared}

theorem Tr.ext (X : Ext G s s') : Tr G cx ρ vals s ρ vals s' := ⟨X.1.kx, fun _ q => .inl q⟩
theorem Tr.refl : Tr G cx ρ vals s ρ vals s := Tr.ext (Ext.refl ..)
theorem Tr.trans (B : BadLt cx s') (x : Tr G cx ρ vals s ρ' vals' s') (y : Tr G cx ρ' vals' s' ρ'' vals'' s'') : Tr G cx ρ vals s ρ'' vals'' s'' := by
  have sub : ∀ b o, ¬ sS cx ρ vals b → s.heap.get? b = some o → ¬ sS cx ρ' vals' b := fun b o n e q => by
    rcases q with q | q
    · rcases x.roots b q with z | z
      · exact n (.inl z)
      · rw [e] at z; cases z
    · exact n (.inr q)
  refine ⟨⟨fun b o n e => ?_⟩, fun r q => ?_⟩
  · have n' := sub b o n e
    refine ⟨fun c => (y.keep.kp b o n' ((x.keep.kp b o n e).1 c)).1 c, fun d => ?_, ?_⟩
    · obtain ⟨sl, e₁⟩ := (x.keep.kp b o n e).2.1 d
      obtain ⟨sl', e₂⟩ := (y.keep.kp b _ n' e₁).2.1 d
      exact ⟨sl', e₂⟩
    · obtain ⟨o', e₁⟩ := (x.keep.kp b o n e).2.2
      exact (y.keep.kp b _ n' e₁).2.2
  · rcases y.roots r q with z | z
    · exact x.roots r z
    · cases e : s.heap.get? r with
      | none => exact .inr rfl
      | some o =>
        by_cases w : sS cx ρ vals r
        · rcases w with w | w
          · exact .inl w
          · exact (ex_none (B r w) z).elim
        · obtain ⟨o', e'⟩ := (x.keep.kp r o w e).2.2
          rw [z] at e'; cases e'

theorem mu_set {i : Nat} {a : AV} {sm : Sm} {v : Value} {r : Addr} (q : Mu (ρ.set i (some (a, sm))) (vals.set i (some v)) r) : Own sm (some (some v)) r ∨ Mu ρ vals r := by
  obtain ⟨j, w, m, e1, e2⟩ := q
  rw [set_get] at e1 e2
  by_cases h : i = j
  · rw [if_pos h] at e1 e2
    split at e1
    · cases e1
      split at e2
      · exact .inl e2
      · exact .inl (own_any e2)
    · cases e1
  · rw [if_neg h] at e1 e2
    exact .inr ⟨j, w, m, e1, e2⟩

theorem base_bad (F : FOk G cx) {b : Addr} {o : Obj} (e : G.base.get? b = some o) : ¬ cx.bad b := fun q => by
  have := F.ok.badGe b q
  exact ex_none (F.ok.bsz.kp b o e).2.2 this

theorem RootK.noTup {h : Heap} {r : Addr} (x : RootK G h r) : NoTup h r := by
  rcases x with ⟨arr, l⟩ | ⟨ks, vs, l⟩
  · exact NoTup.list l.isList
  · exact NoTup.dic l
theorem RootK.obj {h : Heap} {r : Addr} (x : RootK G h r) : ∃ o, h.get? r = some o ∧ o.cls ≠ .type "frame" ∧ itCls o.cls = false ∧ o.cls ≠ .type "tuple" := by
  rcases x with ⟨arr, n, e⟩ | ⟨ks, vs, q, ⟨kvs, a1, b1, o, es, ep, ho, hc, hd, rr⟩ | ⟨kvs, a1, b1, o, es, ep, ho, hc, hd, rr⟩⟩
  · exact ⟨_, e, (show Value.type "list" ≠ .type "frame" by decide), rfl, (show Value.type "list" ≠ .type "tuple" by decide)⟩
  all_goals exact ⟨o, ho, by rw [hc.1]; decide, by rw [hc.1]; decide, by rw [hc.1]; decide⟩
theorem St.muRoot (S : St G cx ρ vals s) {r : Addr} (q : Mu ρ vals r) : cx.h0.get? r = none ∧ ¬ cx.bad r ∧ RootK G s.heap r := by
  obtain ⟨i, a, m, w1, w2⟩ := q
  obtain ⟨y, ey, sv⟩ := S.bnd i a m w1
  rw [ey] at w2
  exact sv.own w2

theorem SV.keep {ρ₁ : Rho} {vals₁ : Vals} {M : Addr → Prop} {h h' : Heap} {m : Sm} {v : AV} {x : Value} (k : Kx G.base M h h') (nt : ∀ b, M b → NoTup h b) (hs : ∀ b, M b → sS cx ρ₁ vals₁ b) (sS' : ∀ b, sS cx ρ₁ vals₁ b → sS cx ρ vals b ∨ h.get? b = none) (fS' : ∀ b, fS cx ρ₁ vals₁ b → fS cx ρ vals b ∨ h.get? b = none)
    (no : ∀ r, Own m (some (some x)) r → ¬ M r) (sv : SV G cx ρ vals h m v x) : SV G cx ρ₁ vals₁ h' m v x := by
  have hf : ∀ b, M b → fS cx ρ₁ vals₁ b := fun b z => (hs b z).imp id .inl
  cases m
  · exact VR.kx k (fun b z => .inl (hs b z)) nt _ _ (VR.off sS' _ _ sv)
  · exact VR.kx k (fun b z => .inl (hf b z)) nt _ _ (VR.off fS' _ _ sv)
  · obtain ⟨r, rfl, e2, e3, rt⟩ := sv
    exact ⟨r, rfl, e2, e3, Root.kx k (fun b z => .inl (hf b z)) nt (no r rfl) (rt.off fS')⟩

theorem St.updG (F : FOk G cx) (S : St G cx ρ vals s) (R : Fr cx s.heap) {i : Nat} {sm : Sm} {a : AV} {v : Value} (k : Kx G.base cx.bad s.heap s'.heap) (hg : s'.gens = s.gens) (ho : s'.os = s.os) (f1 : FsOk s'.heap cx.fr) (f2 : s'.heap.FunFrames G.base cx.fr)
    (va : ∀ (j : Nat) (y : Str), cx.Γ[j]? = some (some y) → VarAt cx.env s'.heap y ((vals.set i (some v))[j]?.join)) (hi : i < cx.Γ.length) (hr : ∀ r, Own sm (some (some v)) r → s.heap.get? r = none)
    (hsv : SV G cx (ρ.set i (some (a, sm))) (vals.set i (some v)) s'.heap sm a v) :
    St G cx (ρ.set i (some (a, sm))) (vals.set i (some v)) s' ∧ Tr G cx ρ vals s (ρ.set i (some (a, sm))) (vals.set i (some v)) s' := by
  have nt := R.noTup F
  have lr : i < ρ.length := by rw [S.len]; exact hi
  have lv : i < vals.length := by rw [S.lenv]; exact hi
  have mu' : ∀ r, Mu (ρ.set i (some (a, sm))) (vals.set i (some v)) r → Mu ρ vals r ∨ s.heap.get? r = none := fun r q => by
    rcases mu_set q with q | q
    · exact .inr (hr r q)
    · exact .inl q
  have sS' : ∀ b, sS cx (ρ.set i (some (a, sm))) (vals.set i (some v)) b → sS cx ρ vals b ∨ s.heap.get? b = none := fun b q => by
    rcases q with q | q
    · exact (mu' b q).imp .inl id
    · exact .inl (.inr q)
  have fS' : ∀ b, fS cx (ρ.set i (some (a, sm))) (vals.set i (some v)) b → fS cx ρ vals b ∨ s.heap.get? b = none := fun b q => by
    rcases q with q | q
    · exact (mu' b q).imp .inl id
    · exact .inl (.inr q)
  have base_ne : ∀ b o, G.base.get? b = some o → ¬ cx.bad b := fun b o e => base_bad F e
  refine ⟨⟨fun b o e => (k.kp b o (base_ne b o e) (S.stays b o e)).1 (.inr (by rw [e]; rfl)), f2, f1, ((S.ent.kx (M := cx.bad)).trans k).toKp F.ok.badGe, hg.trans S.gens, ho.trans S.os, by rw [List.length_set]; exact S.len, by rw [List.length_set]; exact S.lenv, va, fun j hj => ?_, fun j w mm hj => ?_, fun j j' w w' m m' r e1 e2 e3 e4 => ?_⟩,
    k.mono fun b q => .inr q, mu'⟩
  · trivial
  · rw [set_get] at hj
    by_cases q : i = j
    · rw [if_pos q] at hj
      split at hj
      · cases hj
        exact ⟨v, by rw [set_get, if_pos q, if_pos (by (first | lia | omega))], hsv⟩
      · cases hj
    · rw [if_neg q] at hj
      obtain ⟨x, e, sv⟩ := S.bnd j w mm hj
      exact ⟨x, by rw [set_get, if_neg q]; exact e, sv.keep k nt (fun b z => .inr z) sS' fS' fun r o => (sv.own o).2.1⟩
  · rw [set_get] at e1 e2 e3 e4
    have fresh_r : ∀ {j : Nat} {w : AV} {m : Sm}, ρ[j]? = some (some (w, m)) → Own m vals[j]? r → Own sm (some (some v)) r → False := fun {j w m} q1 q2 z => ex_none (S.mu_there ⟨j, w, m, q1, q2⟩) (hr r z)
    by_cases q : i = j
    · by_cases q' : i = j'
      · (first | lia | omega)
      · rw [if_pos q, if_pos (by (first | lia | omega))] at e1 e2
        rw [if_neg q'] at e3 e4
        cases e1
        exact (fresh_r e3 e4 e2).elim
    · by_cases q' : i = j'
      · rw [if_pos q', if_pos (by (first | lia | omega))] at e3 e4
        rw [if_neg q] at e1 e2
        cases e3
        exact (fresh_r e1 e2 e4).elim
      · rw [if_neg q] at e1 e2
        rw [if_neg q'] at e3 e4
        exact S.inj j j' w w' m m' r e1 e2 e3 e4

theorem asSm_own {m : Md} {x : Option (Option Value)} {r : Addr} (o : Own (asSm m) x r) : False := by cases m <;> exact o
theorem St.upd (F : FOk G cx) (S : St G cx ρ vals s) (R : Fr cx s.heap) {i : Nat} {m : Md} {sm : Sm} {a : AV} {v : Value} (k : Kx G.base cx.bad s.heap s'.heap) (hg : s'.gens = s.gens) (ho : s'.os = s.os) (f1 : FsOk s'.heap cx.fr) (f2 : s'.heap.FunFrames G.base cx.fr)
    (va : ∀ (j : Nat) (y : Str), cx.Γ[j]? = some (some y) → VarAt cx.env s'.heap y ((vals.set i (some v))[j]?.join)) (hi : i < cx.Γ.length) (hv : VM G cx ρ vals s.heap s'.heap m a v) (sl : SlotOk m sm) :
    St G cx (ρ.set i (some (a, sm))) (vals.set i (some v)) s' ∧ Tr G cx ρ vals s (ρ.set i (some (a, sm))) (vals.set i (some v)) s' := by
  have B := R.badLt F
  rcases sl with ⟨rfl, hm⟩ | ⟨rfl, rfl⟩
  · refine S.updG F R k hg ho f1 f2 va hi (fun r o => (asSm_own o).elim) ?_
    have onlyS : ∀ b, Mu (ρ.set i (some (a, asSm m))) (vals.set i (some v)) b → Mu ρ vals b := fun b z => by
      rcases mu_set z with z | z
      · exact (asSm_own z).elim
      · exact z
    by_cases hsh : m = .sh
    · subst hsh
      exact VR.off (fun b e => .inl (e.imp (onlyS b) id)) _ _ (hv.sh S B hm)
    · have : asSm m = .fr := by cases m <;> first | rfl | exact absurd rfl hsh
      rw [this]
      exact VR.off (fun b e => .inl (e.imp (fun z => onlyS b (by rw [this]; exact z)) id)) _ _ (hv.fr S B hsh hm)
  · obtain ⟨r, rfl, n, rt⟩ := hv
    refine S.updG F R k hg ho f1 f2 va hi (fun r' o => ?_) ⟨r, rfl, S.h0_none n, fun z => ex_none (B r z) n, rt.off fun b z => .inl ?_⟩
    · have o : some (some (Value.ref r)) = some (some (Value.ref r')) := o
      cases o; exact n
    · rcases z with z | z
      · rcases mu_set z with z | z
        · have o : some (some (Value.ref r)) = some (some (Value.ref b)) := z
          cases o; exact .inr rfl
        · exact .inl (.inl z)
      · exact .inl (.inr z)

theorem St.mutG (F : FOk G cx) (S : St G cx ρ vals s) (R : Fr cx s.heap) {i : Nat} {a a' : AV} {m m' : Sm} {r : Addr} {x : Value} (k : Kx G.base (· = r) s.heap s'.heap) (hg : s'.gens = s.gens) (ho : s'.os = s.os)
    (h1 : ρ[i]? = some (some (a, m))) (h2 : vals[i]? = some (some x)) (hr : Own m (some (some x)) r) (ow : ∀ y b, Own m' y b ↔ Own m y b) (rt' : RootK G s'.heap r) (hsv : SV G cx ρ vals s'.heap m' a' x) :
    St G cx (ρ.set i (some (a', m'))) vals s' ∧ Fr cx s'.heap ∧ Tr G cx ρ vals s (ρ.set i (some (a', m'))) vals s' := by
  have il : i < ρ.length := (List.getElem?_eq_some_iff.mp h1).1
  have hmu : Mu ρ vals r := ⟨i, a, m, h1, by rw [h2]; exact hr⟩
  obtain ⟨hn0, hnb, rt⟩ := S.muRoot hmu
  have mu : ∀ b, Mu (ρ.set i (some (a', m'))) vals b ↔ Mu ρ vals b := fun b => by
    constructor
    · rintro ⟨j, w, n, q1, q2⟩
      rw [set_get] at q1
      by_cases q : i = j
      · subst q
        rw [if_pos rfl, if_pos il] at q1
        cases q1
        exact ⟨i, a, m, h1, (ow _ _).mp q2⟩
      · rw [if_neg q] at q1; exact ⟨j, w, n, q1, q2⟩
    · rintro ⟨j, w, n, q1, q2⟩
      by_cases q : i = j
      · subst q
        rw [h1] at q1
        cases q1
        exact ⟨i, a', m', by rw [set_get, if_pos rfl, if_pos il], (ow _ _).mpr q2⟩
      · exact ⟨j, w, n, by rw [set_get, if_neg q]; exact q1, q2⟩
  have nt : ∀ b, b = r → NoTup s.heap b := fun b q => by rw [q]; exact rt.noTup
  have sE : sS cx (ρ.set i (some (a', m'))) vals = sS cx ρ vals := by funext b; simp only [sS, mu]
  have fE : fS cx (ρ.set i (some (a', m'))) vals = fS cx ρ vals := by funext b; simp only [fS, mu]
  obtain ⟨ro, re, rc, _, _⟩ := rt.obj
  have nfr : ∀ b ∈ cx.fr.filterMap (·.frame), b ≠ r := fun b hb q => by
    obtain ⟨o, e, c, _⟩ := S.fsok b hb
    rw [q, re] at e; cases e; exact rc c
  have nL : cx.env.locals ≠ r := fun q => hnb (q ▸ F.ok.badL)
  have nC : ∀ x c, cx.env.cells.lookup x = some c → c ≠ r := fun x c e q => hnb (q ▸ F.badC x c e)
  refine ⟨⟨fun b o e => (k.kp b o (fun q => ?_) (S.stays b o e)).1 (.inr (by rw [e]; rfl)), ?_, fun b hb => ?_, ((S.ent.kx (M := (· = r))).trans k).toKp (fun b q => by rw [q]; exact hn0), hg.trans S.gens, ho.trans S.os, by rw [List.length_set]; exact S.len, S.lenv, fun j y hj => ?_, fun j hj => ?_, fun j w mm hj => ?_, fun j j' w w' n n' r' e1 e2 e3 e4 => ?_⟩,
    ⟨let ⟨m, n⟩ := R.ns; ⟨m, k.ns nL n⟩, fun x c e => let ⟨ov, n⟩ := R.cell x c e; ⟨ov, k.isCell (nC x c e) n⟩⟩, k.mono fun b q => .inl (by rw [q]; exact hmu), fun r q => .inl ((mu r).mp q)⟩
  · subst q; exact ex_none (F.ok.bsz.kp b o e).2.2 hn0
  · refine funFrames_at (L := r) (fun b o q e nf => ?_) ?_ S.frames
    · obtain ⟨sl, e'⟩ := (k.kp b o q e).2.1 nf; exact ⟨_, e', rfl⟩
    · obtain ⟨o', e', _⟩ := rt'.obj
      refine ⟨o', e', fun vs q => ?_⟩
      rcases (rt'.noTup o' e').2 with z | z
      · exact z vs q
      · obtain ⟨o2, e2, _, c2, _⟩ := rt'.obj
        rw [e'] at e2; cases e2; rw [c2] at z; cases z
  · obtain ⟨o, e, c, d⟩ := S.fsok b hb
    obtain ⟨sl, e'⟩ := (k.kp b o (nfr b hb) e).2.1 d
    exact ⟨_, e', c, d⟩
  · have va := S.vars j y hj
    unfold VarAt at va ⊢
    split at va
    · obtain ⟨m, n, e⟩ := va; exact ⟨m, k.ns nL n, e⟩
    · obtain ⟨c, l, e⟩ := va; exact ⟨c, l, k.isCell (nC _ _ l) e⟩
    · obtain ⟨c, l, e⟩ := va; exact ⟨c, l, k.isCell (nC _ _ l) e⟩
    · trivial
  · trivial
  · rw [set_get] at hj
    by_cases q : i = j
    · rw [if_pos q, if_pos (by (first | lia | omega))] at hj
      cases hj
      subst q
      refine ⟨x, h2, ?_⟩
      have hs : SV G cx (ρ.set i (some (a', m'))) vals s'.heap m' a' x := by
        unfold SV
        rw [sE, fE]
        exact hsv
      exact hs
    · rw [if_neg q] at hj
      obtain ⟨y, e, sv⟩ := S.bnd j w mm hj
      refine ⟨y, e, sv.keep k nt (fun b z => ?_) (fun b z => .inl (by rw [← sE]; exact z)) (fun b z => .inl (by rw [← fE]; exact z)) fun r2 o z => ?_⟩
      · rw [sE, z]; exact .inl hmu
      · subst z
        exact q (S.inj i j a w m mm r2 h1 (by rw [h2]; exact hr) hj (by rw [e]; exact o))
  · have back : ∀ {j : Nat} {w : AV} {n : Sm}, (ρ.set i (some (a', m')))[j]? = some (some (w, n)) → Own n vals[j]? r' → ∃ w0 n0, ρ[j]? = some (some (w0, n0)) ∧ Own n0 vals[j]? r' := fun {j w n} q o => by
      rw [set_get] at q
      by_cases z : i = j
      · subst z
        rw [if_pos rfl, if_pos il] at q
        cases q
        exact ⟨a, m, h1, (ow _ _).mp o⟩
      · rw [if_neg z] at q; exact ⟨w, n, q, o⟩
    obtain ⟨w1, n1, q1, o1⟩ := back e1 e2
    obtain ⟨w2, n2, q2, o2⟩ := back e3 e4
    exact S.inj j j' w1 w2 n1 n2 r' q1 o1 q2 o2
theorem St.mut (F : FOk G cx) (S : St G cx ρ vals s) (R : Fr cx s.heap) {i : Nat} {a a' : AV} {r : Addr} (k : Kx G.base (· = r) s.heap s'.heap) (hg : s'.gens = s.gens) (ho : s'.os = s.os)
    (h1 : ρ[i]? = some (some (a, .mu))) (h2 : vals[i]? = some (some (.ref r))) (rt' : Root G (fS cx ρ vals) s'.heap a' r) :
    St G cx (ρ.set i (some (a', .mu))) vals s' ∧ Fr cx s'.heap ∧ Tr G cx ρ vals s (ρ.set i (some (a', .mu))) vals s' := by
  obtain ⟨hn0, hnb, _⟩ := S.muRoot (r := r) ⟨i, a, .mu, h1, h2⟩
  exact S.mutG F R k hg ho h1 h2 (show some (some (Value.ref r)) = _ from rfl) (fun _ _ => Iff.rfl) rt'.k ⟨r, rfl, hn0, hnb, rt'⟩

theorem St.frz (S : St G cx ρ vals s) {i : Nat} {a : AV} {m : Sm} (h1 : ρ[i]? = some (some (a, m))) :
    St G cx (ρ.set i (some (a, frzM m))) vals s ∧ Tr G cx ρ vals s (ρ.set i (some (a, frzM m))) vals s := by
  have il : i < ρ.length := (List.getElem?_eq_some_iff.mp h1).1
  have ow : ∀ {y : Option (Option Value)} {b : Addr}, Own (frzM m) y b → Own m y b := fun {y b} o => by cases m <;> first | exact o | exact o.elim
  have back : ∀ {j : Nat} {w : AV} {n : Sm} {b : Addr}, (ρ.set i (some (a, frzM m)))[j]? = some (some (w, n)) → Own n vals[j]? b → ∃ n0, ρ[j]? = some (some (w, n0)) ∧ Own n0 vals[j]? b := fun {j w n b} q1 q2 => by
    rw [set_get] at q1
    by_cases q : i = j
    · subst q
      rw [if_pos rfl, if_pos il] at q1
      cases q1
      exact ⟨m, h1, ow q2⟩
    · rw [if_neg q] at q1; exact ⟨n, q1, q2⟩
  have mu : ∀ b, Mu (ρ.set i (some (a, frzM m))) vals b → Mu ρ vals b := fun b => by
    rintro ⟨j, w, n, q1, q2⟩
    obtain ⟨n0, z1, z2⟩ := back q1 q2
    exact ⟨j, w, n0, z1, z2⟩
  have keep : ∀ {mm : Sm} {w : AV} {x : Value}, SV G cx ρ vals s.heap mm w x → SV G cx (ρ.set i (some (a, frzM m))) vals s.heap mm w x := fun {mm w x} sv =>
    sv.keep (M := fun _ => False) (Kp.refl G.base s.heap).kx (fun b z => z.elim) (fun b z => z.elim) (fun b z => .inl (z.imp (mu b) id)) (fun b z => .inl (z.imp (mu b) id)) fun r o z => z
  refine ⟨⟨S.stays, S.frames, S.fsok, S.ent, S.gens, S.os, by rw [List.length_set]; exact S.len, S.lenv, S.vars, fun j hj => ?_, fun j w mm hj => ?_, fun j j' w w' n n' r' e1 e2 e3 e4 => ?_⟩, (Kp.refl ..).kx, fun r q => .inl (mu r q)⟩
  · trivial
  · rw [set_get] at hj
    by_cases q : i = j
    · subst q
      rw [if_pos rfl, if_pos il] at hj
      cases hj
      obtain ⟨x, e, sv⟩ := S.bnd i a m h1
      refine ⟨x, e, ?_⟩
      by_cases hm : frzM m = m
      · have := keep sv
        rw [hm] at this ⊢
        exact this
      · have hm' : m = .mu := by cases m <;> first | rfl | exact absurd rfl hm
        subst hm'
        obtain ⟨r, e1, e2, e3, rt⟩ := sv
        show VR G (fS cx _ vals) _ _ _
        rw [e1]
        refine (rt.off (S' := fS cx (ρ.set i (some (a, frzM .mu))) vals) fun b z => .inl (z.imp (mu b) id)).vr fun z => ?_
        rcases z with ⟨j, w, n, q1, q2⟩ | z | z
        · rw [set_get] at q1
          by_cases q : i = j
          · rw [if_pos q, if_pos (by (first | lia | omega))] at q1
            cases q1
            exact q2
          · rw [if_neg q] at q1
            exact q (S.inj i j a w .mu n r h1 (by rw [e, e1]; rfl) q1 q2)
        · exact e3 z
        · rw [e2] at z; cases z
    · rw [if_neg q] at hj
      obtain ⟨x, e, sv⟩ := S.bnd j w mm hj
      exact ⟨x, e, keep sv⟩
  · obtain ⟨n1, z1, o1⟩ := back e1 e2
    obtain ⟨n2, z2, o2⟩ := back e3 e4
    exact S.inj j j' w w' n1 n2 r' z1 o1 z2 o2
end
end Mine

namespace Mine
open PySem PyProof.Rows PySem.W

inductive PN (G : Gd) (cx : Cx) (ρ : Rho) (vals : Vals) (s : Shared) (N : Rho → Prop) (s' : Shared) : Prop
  | mk (ρ' : Rho) (vals' : Vals) (h : N ρ') (S : St G cx ρ' vals' s') (F : Fr cx s'.heap) (T : Tr G cx ρ vals s ρ' vals' s') : PN G cx ρ vals s N s'
noncomputable def RMb (G : Gd) (cx : Cx) (h : Heap) (m : Md) (v : AV) (x : Value) : Prop := match m with
  | .fr => VR G (fun a => cx.bad a ∨ (cx.h0.get? a).isSome = true) h v x
  | .ow => ∃ r, x = .ref r ∧ cx.h0.get? r = none ∧ ¬ cx.bad r ∧ Root G (fun a => (cx.bad a ∨ (cx.h0.get? a).isSome = true) ∨ a = r) h v r
  | _ => False
theorem RMb.rm {G : Gd} {cx : Cx} {h : Heap} {m : Md} {v : AV} {x : Value} (q : RMb G cx h m v x) : RM G cx.h0 h m v x := by
  cases m
  · exact q.elim
  · exact VR.off (fun b z => .inl (.inr z)) _ _ q
  · obtain ⟨r, e, n, _, rt⟩ := q
    exact ⟨r, e, n, rt.off fun b z => .inl (z.imp .inr id)⟩
  · exact q.elim
inductive PR (G : Gd) (cx : Cx) (R : AV → Md → Prop) (v : Value) (s' : Shared) : Prop
  | mk (av : AV) (m : Md) (h : R av m) (k : Kp G.base cx.h0 s'.heap) (g : s'.gens = G.gens) (o : s'.os = G.os) (F : Fr cx s'.heap) (q : RMb G cx s'.heap m av v) : PR G cx R v s'
inductive PX (G : Gd) (cx : Cx) (ρ : Rho) (vals : Vals) (s : Shared) (X : Rho → Str → Prop) (e : Value) (s' : Shared) : Prop
  | mk (ρ' : Rho) (vals' : Vals) (p : Shared) (c : Str) (h : X ρ' c) (S : St G cx ρ' vals' p) (F : Fr cx p.heap) (T : Tr G cx ρ vals s ρ' vals' p) (x : XP G p c e s') : PX G cx ρ vals s X e s'
noncomputable def PF (G : Gd) (cx : Cx) (ρ : Rho) (vals : Vals) (s : Shared) (N K : Rho → Prop) (R : AV → Md → Prop) : Flow → Shared → Prop
  | .next, s' => PN G cx ρ vals s N s'
  | .brk, s' => PN G cx ρ vals s K s'
  | .ret v, s' => PR G cx R v s'
  | .cont, _ => False

noncomputable def SOK1 (G : Gd) (cx : Cx) (t : Th) (st : Stmt) (ms : MS) : Prop := ∀ ρ vals s N K R X, St G cx ρ vals s → Fr cx s.heap → wpS t ms ρ N K R X →
  wpAny (model G.prog G.w) cx.A (exec st cx.env) (PF G cx ρ vals s N K R) (PX G cx ρ vals s X) s
noncomputable def SOK (G : Gd) (cx : Cx) (t : Th) (st : Stmt) (ms : List MS) : Prop := ∀ ρ vals s N K R X, St G cx ρ vals s → Fr cx s.heap → wpSs t ms ρ N K R X →
  wpAny (model G.prog G.w) cx.A (exec st cx.env) (PF G cx ρ vals s N K R) (PX G cx ρ vals s X) s
noncomputable def SSOK (G : Gd) (cx : Cx) (t : Th) (st : List Stmt) (ms : List MS) : Prop := ∀ ρ vals s N K R X, St G cx ρ vals s → Fr cx s.heap → wpSs t ms ρ N K R X →
  wpAny (model G.prog G.w) cx.A (execs st cx.env) (PF G cx ρ vals s N K R) (PX G cx ρ vals s X) s

section
variable {G : Gd} {cx : Cx} {t : Th} {ρ ρ₁ : Rho} {vals vals₁ : Vals} {s s₁ : Shared} {N K : Rho → Prop} {R : AV → Md → Prop} {X : Rho → Str → Prop}

theorem PN.trans {s' : Shared} (B : BadLt cx s₁) (x : Tr G cx ρ vals s ρ₁ vals₁ s₁) (y : PN G cx ρ₁ vals₁ s₁ N s') : PN G cx ρ vals s N s' := by
  obtain ⟨ρ', vals', h1, h2, h3, h4⟩ := y
  exact ⟨ρ', vals', h1, h2, h3, x.trans B h4⟩
theorem PF.trans {f : Flow} {s' : Shared} (B : BadLt cx s₁) (x : Tr G cx ρ vals s ρ₁ vals₁ s₁) (y : PF G cx ρ₁ vals₁ s₁ N K R f s') : PF G cx ρ vals s N K R f s' := by
  cases f with
  | next => exact PN.trans B x y
  | brk => exact PN.trans B x y
  | ret v => exact y
  | cont => exact y
theorem PX.trans {e : Value} {s' : Shared} (B : BadLt cx s₁) (x : Tr G cx ρ vals s ρ₁ vals₁ s₁) (y : PX G cx ρ₁ vals₁ s₁ X e s') : PX G cx ρ vals s X e s' := by
  obtain ⟨ρ', vals', p, c, h1, h2, h3, h4, h5⟩ := y
  exact ⟨ρ', vals', p, c, h1, h2, h3, x.trans B h4, h5⟩

theorem wpSs_append : ∀ (a b : List MS) (ρ : Rho) (N K : Rho → Prop) (R : AV → Md → Prop) (X : Rho → Str → Prop), wpSs t (a ++ b) ρ N K R X = wpSs t a ρ (fun ρ' => wpSs t b ρ' N K R X) K R X
  | [], b, ρ, N, K, R, X => rfl
  | m :: a, b, ρ, N, K, R, X => by
    rw [List.cons_append, wpSs_cons, wpSs_cons]
    congr 1
    funext ρ'
    exact wpSs_append a b ρ' N K R X

theorem ssok_nil : SSOK G cx t [] [] := fun ρ vals s N K R X S F h => by
  rw [wpSs_nil] at h
  exact wpAny_execs_nil ⟨ρ, vals, h, S, F, Tr.refl⟩
theorem ssok_cons (FO : FOk G cx) {st : Stmt} {sts : List Stmt} {a b : List MS} (h1 : SOK G cx t st a) (h2 : SSOK G cx t sts b) : SSOK G cx t (st :: sts) (a ++ b) := fun ρ vals s N K R X S F h => by
  rw [wpSs_append] at h
  refine wpAny_execs_cons (wpAny_mono (h1 ρ vals s _ K R X S F h) (fun f s1 hf => ?_) fun e s1 hx => hx)
  cases f with
  | next =>
    obtain ⟨ρ1, vals1, g1, S1, F1, T1⟩ := hf
    exact wpAny_mono (h2 ρ1 vals1 s1 N K R X S1 F1 g1) (fun f s2 h => h.trans (F1.badLt FO) T1) fun e s2 h => h.trans (F1.badLt FO) T1
  | brk => exact hf
  | ret v => exact hf
  | cont => exact hf

theorem sok_one {st : Stmt} {m : MS} (h : SOK1 G cx t st m) : SOK G cx t st [m] := fun ρ vals s N K R X S F hw => by
  refine h ρ vals s N K R X S F ?_
  rw [wpSs_cons] at hw
  have : (fun ρ' => wpSs t [] ρ' N K R X) = N := rfl
  rwa [this] at hw

theorem frz_run (FO : FOk G cx) : ∀ (fs ms : List MS) (ρ : Rho), (∀ m ∈ fs, ∃ i, m = .frz i) → St G cx ρ vals s → Fr cx s.heap → wpSs t (fs ++ ms) ρ N K R X → ∃ ρ', St G cx ρ' vals s ∧ Tr G cx ρ vals s ρ' vals s ∧ wpSs t ms ρ' N K R X
  | [], ms, ρ, _, S, F, h => ⟨ρ, S, Tr.refl, h⟩
  | m :: fs, ms, ρ, hm, S, F, h => by
    obtain ⟨i, rfl⟩ := hm m (.head _)
    rw [List.cons_append, wpSs_cons, wpS_frz] at h
    obtain ⟨⟨v, sm⟩, e, h⟩ := h
    obtain ⟨S1, T1⟩ := S.frz (join_some e)
    obtain ⟨ρ', S2, T2, h2⟩ := frz_run FO fs ms _ (fun m q => hm m (.tail _ q)) S1 F h
    exact ⟨ρ', S2, T1.trans (F.badLt FO) T2, h2⟩
theorem sok_frz (FO : FOk G cx) {st : Stmt} {fs : List MS} {m : MS} (hf : ∀ m ∈ fs, ∃ i, m = .frz i) (h : SOK1 G cx t st m) : SOK G cx t st (fs ++ [m]) := fun ρ vals s N K R X S F hw => by
  obtain ⟨ρ', S', T', hw'⟩ := frz_run FO fs [m] ρ hf S F hw
  exact wpAny_mono (sok_one h ρ' vals s N K R X S' F hw') (fun f s2 h => h.trans (F.badLt FO) T') fun e s2 h => h.trans (F.badLt FO) T'

theorem px_of {X' : Str → Prop} {e : Value} {s' : Shared} (S : St G cx ρ vals s) (F : Fr cx s.heap) (hX : ∀ c, X' c → X ρ c) (h : ∃ c, X' c ∧ XP G s c e s') : PX G cx ρ vals s X e s' := by
  obtain ⟨c, h1, h2⟩ := h
  exact ⟨ρ, vals, s, c, hX c h1, S, F, Tr.refl, h2⟩

theorem bind_ok (FO : FOk G cx) (S : St G cx ρ vals s) (F : Fr cx s.heap) (E1 : Ext G s s₁) {i : Nat} {x : Str} (hi : cx.Γ[i]? = some (some x)) {m : Md} {sm : Sm} {a : AV} {v : Value} (hv : VM G cx ρ vals s.heap s₁.heap m a v) (sl : SlotOk m sm) {E : Value → Shared → Prop} {Q : Unit → Shared → Prop} {A : Around}
    (h : ∀ s', St G cx (ρ.set i (some (a, sm))) (vals.set i (some v)) s' → Fr cx s'.heap → Tr G cx ρ vals s (ρ.set i (some (a, sm))) (vals.set i (some v)) s' → Q () s') :
    wpAny (model G.prog G.w) A (storeName cx.env x v) Q E s₁ := by
  have S1 := S.ext E1
  have F1 := F.kp E1.1
  refine store_ok FO S1 F1 hi fun h' tk k f1 f2 f3 va => ?_
  have B := F.badLt FO
  have nt1 := F1.noTup FO
  have hv' : VM G cx ρ vals s.heap h' m a v := by
    cases m
    · exact VR.kx k (fun b z => .inl (.inr z)) nt1 _ _ hv
    · exact VR.kx k (fun b z => .inl (.inr (.inl z))) nt1 _ _ hv
    · obtain ⟨r, e, n, rt⟩ := hv
      exact ⟨r, e, n, Root.kx k (fun b z => .inl (.inl (.inr (.inl z)))) nt1 (fun z => ex_none (B r z) n) rt⟩
    · rcases sl with ⟨_, z⟩ | ⟨z, _⟩
      · exact absurd rfl z
      · cases z
  obtain ⟨S2, T2⟩ := S.upd (s' := { s₁ with heap := h', toks := tk }) FO F ((E1.1.kx).trans k) E1.2.1 E1.2.2 f1 f2 va (List.getElem?_eq_some_iff.mp hi).1 hv' sl
  exact h _ S2 f3 T2

theorem asSm_ok {m : Md} (h : m ≠ .bo) : SlotOk m (asSm m) := .inl ⟨rfl, h⟩
theorem ow_ok : SlotOk .ow .mu := .inr ⟨rfl, rfl⟩


theorem sok_asg (FO : FOk G cx) {x : Str} {p pos : Pos} {e : Expr} {me : ME} {i : Nat} (hi : cx.Γ[i]? = some (some x)) (he : EOK G cx t e me) (hs : swapsWith e (some (.Name x p)) pos.line cx.env = pure false) : SOK1 G cx t (.Assign [.Name x p] e pos) (.asg i me) := fun ρ vals s N K R X S F hw => by
  rw [wpS_asg] at hw
  refine wpAny_Assign_Name (he.seq S (F.badLt FO) (Ext.refl ..) hw (fun a m v s1 h1 e1 _ q1 => ?_) fun c ev s1 h x => px_of S F (fun c q => q) ⟨c, h, x⟩) hs
  exact bind_ok FO S F e1 hi q1 (asSm_ok h1.1) fun s' S' F' T' => ⟨_, _, h1.2, S', F', T'⟩
theorem sok_asm (FO : FOk G cx) {x : Str} {p pos : Pos} {e : Expr} {me : ME} {i : Nat} (hi : cx.Γ[i]? = some (some x)) (he : EOK G cx t e me) (hs : swapsWith e (some (.Name x p)) pos.line cx.env = pure false) : SOK1 G cx t (.Assign [.Name x p] e pos) (.asm i me) := fun ρ vals s N K R X S F hw => by
  rw [wpS_asm] at hw
  refine wpAny_Assign_Name (he.seq S (F.badLt FO) (Ext.refl ..) hw (fun a m v s1 h1 e1 _ q1 => ?_) fun c ev s1 h x => px_of S F (fun c q => q) ⟨c, h, x⟩) hs
  obtain ⟨rfl, hn⟩ := h1
  exact bind_ok FO S F e1 hi q1 ow_ok fun s' S' F' T' => ⟨_, _, hn, S', F', T'⟩

theorem sok_ite (FO : FOk G cx) {c : Expr} {mc : ME} {a b : List Stmt} {ma mb : List MS} {pos : Pos} (hc : TOK G cx t c mc) (ha : SSOK G cx t a ma) (hb : SSOK G cx t b mb) : SOK1 G cx t (.If c a b pos) (.ite mc ma mb) := fun ρ vals s N K R X S F hw => by
  rw [wpS_ite] at hw
  refine wpAny_If (hc.seq S (F.badLt FO) (Ext.refl ..) hw (fun v s1 h1 e1 => ?_) fun c ev s1 h x => px_of S F (fun c q => q) ⟨c, h, x⟩)
  have S1 := S.ext e1
  have F1 := F.kp e1.1
  have T1 : Tr G cx ρ vals s ρ vals s1 := Tr.ext e1
  cases v with
  | true => exact wpAny_mono (ha ρ vals s1 N K R X S1 F1 h1) (fun f s2 h => h.trans (F1.badLt FO) T1) fun e s2 h => h.trans (F1.badLt FO) T1
  | false => exact wpAny_mono (hb ρ vals s1 N K R X S1 F1 h1) (fun f s2 h => h.trans (F1.badLt FO) T1) fun e s2 h => h.trans (F1.badLt FO) T1

theorem sok_pas {pos : Pos} : SOK1 G cx t (.Pass pos) .pas := fun ρ vals s N K R X S F hw => by
  rw [wpS_pas] at hw
  exact wpAny_Pass ⟨ρ, vals, hw, S, F, Tr.refl⟩
theorem sok_brk {pos : Pos} : SOK1 G cx t (.Break pos) .brk := fun ρ vals s N K R X S F hw => by
  rw [wpS_brk] at hw
  exact wpAny_Break ⟨ρ, vals, hw, S, F, Tr.refl⟩

theorem VM.leave (FO : FOk G cx) (S : St G cx ρ vals s) (F : Fr cx s.heap) (E1 : Ext G s s₁) {m : Md} {a : AV} {v : Value} (hv : VM G cx ρ vals s.heap s₁.heap m a v) (hm : Mine.okF m a = true) : RMb G cx s₁.heap (if m = .ow then .ow else .fr) a v := by
  by_cases h : m = .ow
  · subst h
    rw [if_pos rfl]
    obtain ⟨r, e, n, rt⟩ := hv
    exact ⟨r, e, S.h0_none n, fun z => ex_none (F.badLt FO r z) n, rt.off fun b z => .inl (z.imp .inr id)⟩
  · rw [if_neg h]
    exact VR.off (fun b z => .inl (.inr z)) _ _ (hv.okF S (F.badLt FO) hm)

theorem sok_ret (FO : FOk G cx) {e : Expr} {me : ME} {pos : Pos} (he : EOK G cx t e me) : SOK1 G cx t (.Return (some e) pos) (.ret me) := fun ρ vals s N K R X S F hw => by
  rw [wpS_ret] at hw
  refine wpAny_Return_some (he.seq S (F.badLt FO) (Ext.refl ..) hw (fun a m v s1 h1 e1 _ q1 => ?_) fun c ev s1 h x => px_of S F (fun c q => q) ⟨c, h, x⟩)
  have S1 := S.ext e1
  exact ⟨a, _, h1.2.2, S1.ent, S1.gens, S1.os, F.kp e1.1, VM.leave FO S F e1 q1 h1.2.1⟩

theorem sok_retm {cc : CC} (FO : FOk G cx) (C : CcOk G cx cc) {x : Str} {p pos : Pos} {i : Nat} (hv : cc.isVar x = true) (hd : (x == Str.ofString "__debug__") = false) (hc : (x == Str.ofString "__classdict__") = false) (hi : idx cc.Γ x = some i) : SOK1 G cx t (.Return (some (.Name x p)) pos) (.retm i) := fun ρ vals s N K R X S F hw => by
  rw [wpS_retm] at hw
  obtain ⟨a, ea, hr⟩ := hw
  have hs := getMu_at ea
  obtain ⟨y, ey, r, e', n0, nb, rt⟩ := S.bnd i a .mu hs
  subst e'
  refine wpAny_Return_some (var_val FO.ok C S hv hd hc hi ey ⟨a, .ow, hr, S.ent, S.gens, S.os, F, r, rfl, n0, nb, rt.off fun b z => .inl ?_⟩)
  rcases z with z | rfl
  · exact .inr z
  · exact .inl ⟨i, a, .mu, hs, ey⟩
end
end Mine

namespace Mine
open PySem PyProof.Rows PySem.W

section
variable {G : Gd} {cx : Cx} {t : Th} {ρ ρ₁ ρ₃ : Rho} {vals vals₁ vals₃ : Vals} {s s₁ s₃ : Shared} {N K : Rho → Prop} {R : AV → Md → Prop} {X : Rho → Str → Prop}

theorem cameBack_ok {M : Model} {A : Around} {env : Env} {E : Value → Shared → Prop} {p : Shared} {ea : Addr} {c : Str} (k : Kp G.base p.heap s.heap) (x : ExcTr G p.heap s.heap ea c) (h : ∀ h', Kp G.base p.heap h' → ExcTr G p.heap h' ea c → E (.ref ea) { s with heap := h' }) :
    cameBackBy M A env E (.ref ea) s := by
  obtain ⟨_, hen, oe, vs, a0, T, oT, ts, fl, he, hc, hd, h0, h1, r⟩ := id x
  unfold cameBackBy
  refine wpAny_bind (wpAny_field he hd h1 ?_)
  rw [if_neg (show ¬ ((Value.ref T == Value.none) = true) from by simp)]
  refine setFlight_ok k x h

theorem px_noted {A : Around} {e : Value} {s' : Shared} (hA : A.frames = some cx.fr) (FO : FOk G cx) (h : PX G cx ρ vals s X e s') :
    notedBy (model G.prog G.w) A cx.env (fun e s' => cameBackBy (model G.prog G.w) cx.A cx.env (PX G cx ρ vals s X) e s') e s' := by
  obtain ⟨ρ', vals', p, c, h1, S, F, T, ea, rfl, E1, x⟩ := h
  obtain ⟨outer, hfr, _⟩ := FO.fr
  have S1 := S.ext E1
  have f1 := S1.frames
  have f2 := S1.fsok
  rw [hfr] at f1 f2 hA
  refine noteFrame_ok hA f1 f2 FO.frame E1.1 x fun h' k' x' => ?_
  exact cameBack_ok (s := { s' with heap := h' }) k' x' fun h'' k'' x'' => ⟨ρ', vals', p, c, h1, S, F, T, ea, rfl, ⟨k'', E1.2.1, E1.2.2⟩, x''.ok⟩

inductive FInv (G : Gd) (cx : Cx) (ρ : Rho) (vals : Vals) (s1 : Shared) (len : Nat) (lp : Nat → Rho → Prop) (J : Nat → Heap → Prop) (n : Nat) (s3 : Shared) : Prop
  | mk (k : Nat) (ρ3 : Rho) (vals3 : Vals) (e : n = len - k) (hk : k ≤ len) (hlp : lp k ρ3) (S3 : St G cx ρ3 vals3 s3) (F3 : Fr cx s3.heap) (T3 : Tr G cx ρ vals s1 ρ3 vals3 s3) (hj : J k s3.heap) : FInv G cx ρ vals s1 len lp J n s3
theorem St.other (FO : FOk G cx) (S : St G cx ρ vals s) (F : Fr cx s.heap) {I : Addr} {h' : Heap} {tk : Nat} (k : Kx G.base (· = I) s.heap h') (hI : ∃ o, s.heap.get? I = some o ∧ o.cls ≠ .type "frame") (h0 : cx.h0.get? I = none) (hb : ¬ cx.bad I)
    (hsv : ∀ (j : Nat) (w : AV) (mm : Sm) (x : Value), ρ[j]? = some (some (w, mm)) → vals[j]? = some (some x) → SV G cx ρ vals s.heap mm w x → SV G cx ρ vals h' mm w x) :
    St G cx ρ vals { s with heap := h', toks := tk } ∧ Fr cx h' := by
  have nL : cx.env.locals ≠ I := fun q => hb (q ▸ FO.ok.badL)
  have nC : ∀ x c, cx.env.cells.lookup x = some c → c ≠ I := fun x c e q => hb (q ▸ FO.badC x c e)
  have nfr : ∀ b ∈ cx.fr.filterMap (·.frame), b ≠ I := fun b hb q => by
    obtain ⟨o, e, c, _⟩ := S.fsok b hb
    obtain ⟨o', e', c'⟩ := hI
    rw [q, e'] at e; cases e
    exact c' c
  refine ⟨⟨fun b o e => (k.kp b o (fun q => ?_) (S.stays b o e)).1 (.inr (by rw [e]; rfl)), ?_, fun b hb => ?_, ((S.ent.kx (M := (· = I))).trans k).toKp (fun b q => by rw [q]; exact h0), S.gens, S.os, S.len, S.lenv, fun j y hj => ?_, S.unb, fun j w mm hj => ?_, S.inj⟩,
    ⟨let ⟨m, n⟩ := F.ns; ⟨m, k.ns nL n⟩, fun x c e => let ⟨ov, n⟩ := F.cell x c e; ⟨ov, k.isCell (nC x c e) n⟩⟩⟩
  · subst q; exact ex_none (FO.ok.bsz.kp b o e).2.2 h0
  · have := S.frames
    revert nfr this
    generalize cx.fr = l
    intro nb f
    induction l with
    | nil => trivial
    | cons env rest ih =>
      obtain ⟨hk, ⟨A, o, hf, hn, ho, hd⟩, hr⟩ := f
      have hne : A ≠ I := nb A (by simp [hf])
      obtain ⟨sl, e'⟩ := (k.kp A o hne ho).2.1 hd
      refine ⟨hk, ⟨A, _, hf, hn, e', hd⟩, ih (fun b hb => nb b ?_) hr⟩
      simp only [List.filterMap_cons, hf]
      exact List.mem_cons_of_mem _ hb
  · obtain ⟨o, e, c, d⟩ := S.fsok b hb
    obtain ⟨sl, e'⟩ := (k.kp b o (nfr b hb) e).2.1 d
    exact ⟨_, e', c, d⟩
  · have va := S.vars j y hj
    unfold VarAt at va ⊢
    split at va
    · obtain ⟨m, n, e⟩ := va; exact ⟨m, k.ns nL n, e⟩
    · obtain ⟨c, l, e⟩ := va; exact ⟨c, l, k.isCell (nC _ _ l) e⟩
    · obtain ⟨c, l, e⟩ := va; exact ⟨c, l, k.isCell (nC _ _ l) e⟩
    · trivial
  · obtain ⟨x, e, sv⟩ := S.bnd j w mm hj
    exact ⟨x, e, hsv j w mm x hj e sv⟩
theorem St.iter (FO : FOk G cx) (S : St G cx ρ vals s) (F : Fr cx s.heap) {I : Addr} {h' : Heap} {tk : Nat} (k : Kx G.base (· = I) s.heap h') (hI : ∃ o, s.heap.get? I = some o ∧ itCls o.cls = true) (h0 : cx.h0.get? I = none) (hb : ¬ cx.bad I) :
    St G cx ρ vals { s with heap := h', toks := tk } ∧ Fr cx h' := by
  have nt : ∀ b, b = I → NoTup s.heap b := fun b q => by rw [q]; exact NoTup.iter hI
  refine S.other FO F k (hI.imp fun o ⟨e, c⟩ => ⟨e, fun q => by rw [q] at c; simp [itCls] at c⟩) h0 hb fun j w mm x _ _ sv => ?_
  have sc : ∀ (S' : Addr → Prop) b, b = I → S' b ∨ ∃ o, s.heap.get? b = some o ∧ itCls o.cls = true := fun S' b q => by rw [q]; exact .inr hI
  have nI : ∀ {r : Addr}, RootK G s.heap r → r ≠ I := fun {r} rt q => by
    obtain ⟨o, e, _, c, _⟩ := rt.obj
    obtain ⟨o', e', c'⟩ := hI
    rw [q, e'] at e; cases e
    rw [c] at c'; cases c'
  cases mm
  · exact VR.kx k (sc _) nt _ _ sv
  · exact VR.kx k (sc _) nt _ _ sv
  · obtain ⟨r, e1, e2, e3, rt⟩ := sv
    exact ⟨r, e1, e2, e3, Root.kx k (sc _) nt (nI rt.k) rt⟩
theorem Tr.iter {I : Addr} {h' : Heap} {tk : Nat} (T : Tr G cx ρ vals s₁ ρ₃ vals₃ s₃) (k : Kx G.base (· = I) s₃.heap h') (n : s₁.heap.get? I = none) : Tr G cx ρ vals s₁ ρ₃ vals₃ { s₃ with heap := h', toks := tk } := by
  refine ⟨⟨fun b o m e => ?_⟩, T.roots⟩
  have hb : b ≠ I := fun q => by rw [q, n] at e; cases e
  obtain ⟨a1, a2, a3⟩ := T.keep.kp b o m e
  refine ⟨fun c => (k.kp b o hb (a1 c)).1 c, fun d => ?_, ?_⟩
  · obtain ⟨sl, e'⟩ := a2 d
    obtain ⟨sl', e''⟩ := (k.kp b _ hb e').2.1 d
    exact ⟨sl', e''⟩
  · obtain ⟨o', e'⟩ := a3
    exact (k.kp b _ hb e').2.2

theorem walked_off (FO : FOk G cx) (S : St G cx ρ vals s) (F : Fr cx s.heap) (E1 : Ext G s s₁) {vi : AV} {mi : Md} {x : Value} {xs : List AV} (q : VM G cx ρ vals s.heap s₁.heap mi vi x) (hm : mi ≠ .bo) (e : items vi = some xs) {b : Addr} (hb : x = .ref b)
    (hc : ∃ o, s₁.heap.get? b = some o ∧ o.cls ≠ .type "frame" ∧ (o.cls = .type "tuple" ∨ o.cls = .type "list")) : ¬ sS cx ρ vals b := by
  have B := F.badLt FO
  subst hb
  cases vi <;> try (cases e; done)
  · obtain ⟨_, _, u, z⟩ := q.read
    cases z
  · have r := q.sh S B hm
    obtain ⟨_, a, vs, z, l, _⟩ := r
    cases z
    obtain ⟨o, ho, hcl, n, hd⟩ := l
    intro w
    rcases w with w | w
    · obtain ⟨_, _, rt⟩ := (S.ext E1).muRoot w
      obtain ⟨o', e', _, _, c'⟩ := rt.obj
      rw [ho] at e'; cases e'
      exact c' hcl
    · exact ((F.kp E1.1).noTup FO b w o ho).1 hcl _ _ hd
  · have r := q.sh S B hm
    obtain ⟨_, a, vs, z, n, _⟩ := r
    cases z; exact n
  · obtain ⟨a, z, _, _, t, u, v, ho⟩ := q.read
    cases z
    obtain ⟨o, e, _, c⟩ := hc
    rw [show s₁.heap.get? b = _ from ho] at e
    cases e
    rcases c with c | c <;> simp at c

theorem sS_noTup (FO : FOk G cx) (S : St G cx ρ vals s) (F : Fr cx s.heap) : ∀ b, sS cx ρ vals b → NoTup s.heap b := fun b q => by
  rcases q with q | q
  · obtain ⟨_, _, rt⟩ := S.muRoot q
    exact rt.noTup
  · exact F.noTup FO b q

theorem sok_for (FO : FOk G cx) (T : ThOk G cx t) {x : Str} {px pos : Pos} {it : Expr} {mit : ME} {b : List Stmt} {mb : List MS} {i : Nat} (hi : cx.Γ[i]? = some (some x)) (hit : EOK G cx t it mit) (hns : ∀ es k p, it ≠ .Set es k p) (hb : SSOK G cx t b mb) :
    SOK1 G cx t (.For (.Name x px) it b [] pos) (.for i mit mb) := fun ρ vals s N K R X S F hw => by
  rw [wpS_for] at hw
  obtain ⟨hl, hw⟩ := hw
  have B := F.badLt FO
  refine wpAny_For (hit.seq S B (Ext.refl ..) hw (fun vi mi xv s1 h1 e1 _ q1 => ?_) fun c ev s1 h x => px_of S F (fun c q => q) ⟨c, h, x⟩) (noSet_iter hns _)
  obtain ⟨hm, xs, ex, hz, hc⟩ := h1
  refine iter_ok (T.loops hl) q1 ex hz fun s2 I fp P J e2 ito j0 hlive hfp => ?_
  have S1 := S.ext e1
  have F1 := F.kp e1.1
  have B1 := F1.badLt FO
  have T1 : Tr G cx ρ vals s ρ vals s1 := Tr.ext e1
  have nI : ¬ cx.bad I := fun q => ex_none (B1 I q) ito.new
  have h0I := S1.h0_none ito.new
  have old : ∀ b ∈ fp, b ≠ I → (∃ o, s1.heap.get? b = some o ∧ o.cls ≠ .type "frame") ∧ ¬ sS cx ρ vals b := fun b hb hne => by
    rcases ito.foot b hb with q | q
    · exact absurd q hne
    · exact ⟨let ⟨o, e, c, _⟩ := q; ⟨o, e, c⟩, walked_off FO S F e1 q1 hm ex (hfp b hb hne) q⟩
  have foot : ∀ {k : Nat} {ρ3 : Rho} {vals3 : Vals} {s3 : Shared} {ρ4 : Rho} {vals4 : Vals} {s4 : Shared}, St G cx ρ3 vals3 s3 → Tr G cx ρ vals s1 ρ3 vals3 s3 → J k s3.heap → Tr G cx ρ3 vals3 s3 ρ4 vals4 s4 → J k s4.heap := fun {k ρ3 vals3 s3 ρ4 vals4 s4} S3 T3 j T4 => by
    refine ito.W.frame _ _ _ j fun b hb o e => ?_
    by_cases hne : b = I
    · subst hne
      obtain ⟨o', e', c'⟩ := ito.live _ _ j
      rw [e] at e'; cases e'
      refine (T4.keep.kp b o (fun q => ?_) e).1 (.inl (itCls_ne c'))
      rcases q with q | q
      · obtain ⟨_, _, rt⟩ := S3.muRoot q
        obtain ⟨o2, e2, _, c2, _⟩ := rt.obj
        rw [e] at e2; cases e2
        rw [c2] at c'; cases c'
      · exact nI q
    · obtain ⟨⟨o', e', c'⟩, ns⟩ := old b hb hne
      have e3 := (T3.keep.kp b o' ns e').1 (.inl c')
      rw [e] at e3; cases e3
      refine (T4.keep.kp b o (fun q => ?_) e).1 (.inl c')
      rcases q with q | q
      · rcases T3.roots b q with z | z
        · exact ns (.inl z)
        · rw [e'] at z; cases z
      · exact ns (.inr q)
  let Inv : Nat → Shared → Prop := FInv G cx ρ vals s1 xs.length (fun k ρ3 => loopF i (asSm (elMd mi)) (fun ρ' k => wpSs t mb ρ' k N R X) (xs.drop k) ρ3 N) J
  refine codeAny_forLoop Inv (fun n s3 hI => ?_) xs.length ⟨0, ρ, vals, rfl, Nat.zero_le _, hc, S1.ext e2, F1.kp e2.1, Tr.ext e2, j0⟩
  obtain ⟨k, ρ3, vals3, rfl, hk, hlp, S3, F3, T3, hj⟩ := hI
  replace hlp : loopF _ _ _ _ _ _ := hlp
  have hIl := ito.live _ _ hj
  by_cases hlt : k < xs.length
  · refine ito.W.item k s3 _ _ hlt hj fun v h' tk hP hj' hkeep => ?_
    have kI : Kx G.base (· = I) s3.heap h' := .of fun b o hb e => hkeep b o (by simpa using hb) e
    obtain ⟨S4, F4⟩ := S3.iter (tk := tk) FO F3 kI hIl h0I nI
    have T4 : Tr G cx ρ vals s1 ρ3 vals3 { s3 with heap := h', toks := tk } := T3.iter kI ito.new
    obtain ⟨a, ea, va⟩ := ito.vals k v hP hlt
    have hd : xs.drop k = a :: xs.drop (k + 1) := by
      rw [List.drop_eq_getElem_cons hlt]
      congr 1
      exact (List.getElem?_eq_some_iff.mp ea).2
    rw [hd] at hlp
    have hlp := (loopF_cons ..).mp hlp
    have va4 : VM G cx ρ3 vals3 h' h' (elMd mi) a v := by
      have nt := sS_noTup FO S1 F1
      by_cases hsh : mi = .sh
      · subst hsh
        have v1 : VR G (fun b => sS cx ρ vals b ∨ sS cx ρ3 vals3 b) s1.heap a v := VR.off (fun b q => by
          rcases q with q | q | q
          · exact .inl q
          · exact (T4.roots b q).imp .inl id
          · exact .inl (.inr q)) _ _ va
        have v2 := VR.kx T4.keep (fun b q => .inl (.inl q)) nt _ _ v1
        exact VR.off (fun b q => .inl (.inr q)) _ _ v2
      · have hel : elMd mi = .fr := by cases mi <;> simp_all [elMd]
        have hes : elS cx ρ vals mi = fS cx ρ vals := by unfold elS; rw [if_neg hsh]
        rw [hes] at va
        rw [hel]
        have v1 : VR G (fun b => fS cx ρ vals b ∨ fS cx ρ3 vals3 b) s1.heap a v := VR.off (fun b q => by
          rcases q with q | q | q
          · exact .inl q
          · exact (T4.roots b q).imp .inl id
          · exact .inl (.inr q)) _ _ va
        have v2 := VR.kx T4.keep (fun b q => .inl (.inl (fS_sS q))) nt _ _ v1
        exact VR.off (fun b q => .inl (.inr q)) _ _ v2
    refine wpAny_assign_Name ?_
    refine bind_ok (s := { s3 with heap := h', toks := tk }) FO S4 F4 (Ext.refl ..) hi va4 (asSm_ok (by cases mi <;> simp [elMd])) fun s5 S5 F5 T5 => ?_
    refine wpAny_mono (hb _ _ s5 _ N R X S5 F5 hlp) (fun f s6 h6 => ?_) fun e s6 h6 => px_noted FO.ok.frames FO (PX.trans B1 T1 (PX.trans (F4.badLt (s := { s3 with heap := h', toks := tk }) FO) T4 (PX.trans (F5.badLt FO) T5 h6)))
    have h6' := h6.trans (F5.badLt FO) T5
    cases f with
    | next =>
      obtain ⟨ρ6, vals6, g1, S6, F6, T6⟩ := h6'
      exact ⟨xs.length - (k + 1), by (first | lia | omega), k + 1, ρ6, vals6, rfl, hlt, g1, S6, F6, T4.trans (F4.badLt (s := { s3 with heap := h', toks := tk }) FO) T6, foot S4 T4 hj' T6⟩
    | brk => exact PN.trans B1 T1 (PN.trans (F4.badLt (s := { s3 with heap := h', toks := tk }) FO) T4 h6')
    | ret v => exact h6'
    | cont => exact h6'.elim
  · have hk' : k = xs.length := by (first | lia | omega)
    subst hk'
    refine ito.W.done s3 _ _ hj fun h' tk hkeep => ?_
    have kI : Kx G.base (· = I) s3.heap h' := .of fun b o hb e => hkeep b o (by simpa using hb) e
    obtain ⟨S4, F4⟩ := S3.iter (tk := tk) FO F3 kI hIl h0I nI
    have T4 : Tr G cx ρ vals s1 ρ3 vals3 { s3 with heap := h', toks := tk } := T3.iter kI ito.new
    have hN : N ρ3 := by rw [List.drop_length] at hlp; exact hlp
    exact wpAny_execs_nil (PN.trans B1 T1 ⟨ρ3, vals3, hN, S4, F4, T4⟩)
end
end Mine

namespace Mine
open PySem PyProof.Rows PySem.W

section
variable {G : Gd} {cx : Cx} {cc : CC} {t : Th} {ρ ρ₁ ρ₃ : Rho} {vals vals₁ vals₃ : Vals} {s s₁ s₃ : Shared} {N K : Rho → Prop} {R : AV → Md → Prop} {X : Rho → Str → Prop}


theorem frames_kx {bs : Heap} {M : Addr → Prop} {h h' : Heap} {l : List Env} (k : Kx bs M h h') (nb : ∀ b ∈ l.filterMap (·.frame), ¬ M b) (f : FsOk h l) (g : h.FunFrames G.base l) : FsOk h' l ∧ h'.FunFrames G.base l := by
  refine ⟨fun b hb => ?_, ?_⟩
  · obtain ⟨o, e, c, d⟩ := f b hb
    obtain ⟨sl, e'⟩ := (k.kp b o (nb b hb) e).2.1 d
    exact ⟨_, e', c, d⟩
  · clear f
    induction l with
    | nil => trivial
    | cons env rest ih =>
      obtain ⟨hk, ⟨A, o, hf, hn, ho, hd⟩, hr⟩ := g
      obtain ⟨sl, e'⟩ := (k.kp A o (nb A (by simp [hf])) ho).2.1 hd
      refine ⟨hk, ⟨A, _, hf, hn, e', hd⟩, ih (fun b hb => nb b ?_) hr⟩
      simp only [List.filterMap_cons, hf]
      exact List.mem_cons_of_mem _ hb

theorem sok_comp_used {x y : Str} {sc : Scope} {elt iter : Expr} {px py pos spos : Pos} {ifs : List Expr} {mel mit : ME} {mco : Option ME} {i : Nat} (FO : FOk G cx) (Cc : CcOk G cx cc) (T : ThOk G cx t) (KS : ScOk cc x sc) (hit : EOK G cx t iter mit) (hs : ∀ es k p, iter ≠ .Set es k p)
    (hel : ∀ cl C D, (cxC cx x sc cl C D).Ok G → CcOk G (cxC cx x sc cl C D) (ccC cc x sc) → EOK G (cxC cx x sc cl C D) t elt mel)
    (hco : ∀ cl C D, (cxC cx x sc cl C D).Ok G → CcOk G (cxC cx x sc cl C D) (ccC cc x sc) → CoOk G (cxC cx x sc cl C D) t ifs mco)
    (hi : cx.Γ[i]? = some (some y)) (hsw : swapsWith (.ListComp elt [⟨.Name x px, iter, ifs, 0⟩] sc pos) (some (.Name y py)) spos.line cx.env = pure true)
    (S : St G cx ρ vals s) (F : Fr cx s.heap) {X' : Str → Prop} (hX : ∀ c, X' c → X ρ c) {Qe : AV → Md → Prop} (hw : wpE t (.comp mel mit mco) ρ Qe X') (hQe : ∀ v m, Qe v m → ∃ sm, SlotOk m sm ∧ N (ρ.set i (some (v, sm)))) :
    wpAny (model G.prog G.w) cx.A (exec (.Assign [.Name y py] (.ListComp elt [⟨.Name x px, iter, ifs, 0⟩] sc pos) spos) cx.env) (PF G cx ρ vals s N K R) (PX G cx ρ vals s X) s := by
  rw [wpE_comp] at hw
  obtain ⟨hl, hw⟩ := hw
  have O := FO.ok
  have B := F.badLt FO
  obtain ⟨cl, hclos, hcl⟩ := sc_closure Cc KS
  rw [exec_Assign_Name_used _ _ _ _ hsw]
  refine wpAny_bind (wpAny_standAt (wpAny_bind ?_))
  show wpAny _ cx.A (do let _ ← comprehension (.ListComp elt [⟨.Name x px, iter, ifs, 0⟩] sc pos) sc cx.env _ (newList []) false (eval iter cx.env) (some (assign (.Name y py) cx.env))) _ _ s
  refine wpAny_bind (wpAny_mono (wpAny_comprehension_free (use := some (assign (.Name y py) cx.env)) (Q := fun _ s' => PN G cx ρ vals s N s') rfl (noSet_iter hs _) hclos KS.kind KS.locs
    (hit.seq S B (Ext.refl ..) hw (fun vi mi xv s1 h1 e1 _ q1 => ?_) fun c ev s1 h x => px_of S F hX ⟨c, h, x⟩)) (fun _ s' hq => wpAny_pure (wpAny_pure hq)) fun _ _ e => e)
  obtain ⟨xs, ex, hz, hc⟩ := h1
  refine iter_ok (T.loops hl) q1 ex hz fun s2 I fp P J e2 it j0 _ _ => ?_
  refine comp_core (RR := fun acc C => compPost (model G.prog G.w) cx.A (PX G cx ρ vals s X) (some (assign (.Name y py) cx.env)) (fun _ s' => PN G cx ρ vals s N s') acc C) O Cc KS (hel cl) (hco cl) S B e1 e2 it j0 hcl hz hc ?_ ?_
  rotate_left
  · intro D C s' m c ea hY nC hn hXs x
    exact ⟨m, hn, fun h' hs' cenv _ => passOn_ok (s := { s' with heap := h' }) (((hXs.1.kx (M := (· = C))).trans (.but hs')).toKp fun b q => by rw [q]; exact nC) (x.but hn hs') fun h'' k'' x'' => px_of S F hX ⟨c, hY, ea, rfl, ⟨k'', hXs.2.1, hXs.2.2⟩, x''.ok⟩⟩
  intro D C s' m ys vs f hq nD nC hDC hn hL hX' hzy hV
  obtain ⟨sm, sl, hN⟩ := hQe _ _ hq
  show wpAny _ cx.A (assign (.Name y py) cx.env (.ref D)) _ _ _
  have F' := F.kp hX'.1
  have nbC : ¬ cx.bad C := fun q => ex_none (B C q) nC
  have nbD : ¬ cx.bad D := fun q => ex_none (B D q) nD
  refine wpAny_assign_Name (store_ok FO (S.ext hX') F' hi fun h1 tk k f1 f2 f3 va => ?_)
  refine ⟨m, k.ns nbC hn, fun h2 hs2 => ?_⟩
  have k2 : Kx G.base (· = C) h1 h2 := .but hs2
  have kk : Kx G.base (fun b => cx.bad b ∨ b = C) s'.heap h2 := (k.mono fun b q => .inl q).trans (k2.mono fun b q => .inr q)
  have ks : Kx G.base cx.bad s.heap h2 := ((hX'.1.kx).trans kk).new fun b q => q.imp id fun z => by rw [z]; exact nC
  have nfr : ∀ b ∈ cx.fr.filterMap (·.frame), b ≠ C := fun b hb q => by
    obtain ⟨o, e, _⟩ := S.fsok b hb
    rw [q, nC] at e; cases e
  obtain ⟨g1, g2⟩ := frames_kx k2 nfr f1 f2
  have nL : cx.env.locals ≠ C := fun q => nbC (q ▸ O.badL)
  have nCe : ∀ x c, cx.env.cells.lookup x = some c → c ≠ C := fun x c e q => nbC (q ▸ FO.badC x c e)
  have va2 : ∀ (j : Nat) (z : Str), cx.Γ[j]? = some (some z) → VarAt cx.env h2 z ((vals.set i (some (.ref D)))[j]?.join) := fun j z hj => by
    have va := va j z hj
    unfold VarAt at va ⊢
    split at va
    · obtain ⟨m, n, e⟩ := va; exact ⟨m, k2.ns nL n, e⟩
    · obtain ⟨c, l, e⟩ := va; exact ⟨c, l, k2.isCell (nCe _ _ l) e⟩
    · obtain ⟨c, l, e⟩ := va; exact ⟨c, l, k2.isCell (nCe _ _ l) e⟩
    · trivial
  have F2 : Fr cx h2 := ⟨let ⟨m, n⟩ := f3.ns; ⟨m, k2.ns nL n⟩, fun x c e => let ⟨ov, n⟩ := f3.cell x c e; ⟨ov, k2.isCell (nCe x c e) n⟩⟩
  have ntb : ∀ b, (cx.bad b ∨ b = C) → NoTup s'.heap b := fun b q => by
    rcases q with q | rfl
    · exact F'.noTup FO b q
    · exact NoTup.ns hn
  have hL2 : h2.PlainList D vs.toArray := kk.plain (fun q => q.elim nbD hDC) hL
  have hV2 : VRs G (accS cx ρ vals C D f) h2 ys vs := VRs.kx kk (fun b q => .inl (by
    rcases q with q | rfl
    · left
      cases f
      · exact .inr q
      · exact .inr (.inl q)
    · exact .inr (.inl rfl))) ntb _ _ hV
  have hvm : VM G cx ρ vals s.heap h2 (if f then .ow else .sh) (.lst ys) (.ref D) := by
    cases f with
    | true => exact ⟨D, rfl, nD, hzy, vs, hL2, VRs.off (fun b e => .inl (e.elim .inl fun q => .inr (.inr q))) _ _ hV2⟩
    | false => exact ⟨hzy, D, vs, rfl, not_sS_size S B nD, .of hL2, VRs.off (fun b e => .inl (.inl e)) _ _ hV2⟩
  obtain ⟨S3, T3⟩ := S.upd (s' := { s' with heap := h2, toks := tk }) FO F ks hX'.2.1 hX'.2.2 g1 g2 va2 (List.getElem?_eq_some_iff.mp hi).1 hvm sl
  exact ⟨_, _, hN, S3, F2, T3⟩

theorem unp_run (FO : FOk G cx) {m : Md} (hm : m = .sh ∨ m = .fr) (is : List Nat) : ∀ (es : List Expr) (xs : List AV) (vs : List Value) (ρ : Rho) (vals : Vals) (s : Shared), es.length = is.length → (∀ (j : Nat) (e : Expr) (i : Nat), es[j]? = some e → is[j]? = some i → ∃ x p, e = Expr.Name x p ∧ cx.Γ[i]? = some (some x)) → xs.length = is.length →
    St G cx ρ vals s → Fr cx s.heap → VRs G (elS cx ρ vals m) s.heap xs vs → N (setAll is xs (asSm m) ρ) → ∀ {E : Value → Shared → Prop},
    wpAny (model G.prog G.w) cx.A (assignInOrder ((assignEach es cx.env).map (·.2)) vs) (fun _ s' => PN G cx ρ vals s N s') E s := by
  induction is with
  | nil =>
    intro es xs vs ρ vals s h1 h2 h3 S F r hN E
    have : es = [] := List.length_eq_zero_iff.mp h1
    subst this
    have : xs = [] := List.length_eq_zero_iff.mp h3
    subst this
    exact wpAny_pure ⟨ρ, vals, hN, S, F, Tr.refl⟩
  | cons i is ih =>
    intro es xs vs ρ vals s h1 h2 h3 S F r hN E
    cases es with
    | nil => simp at h1
    | cons e es =>
    cases xs with
    | nil => simp at h3
    | cons x xs =>
    cases vs with
    | nil => exact r.elim
    | cons v vs =>
    obtain ⟨r1, r2⟩ := r
    obtain ⟨nm, p, rfl, hi⟩ := h2 0 e i rfl rfl
    have B := F.badLt FO
    show wpAny _ _ (do holding vs (assign (.Name nm p) cx.env v); assignInOrder ((assignEach es cx.env).map (·.2)) vs) _ _ s
    refine wpAny_bind (wpAny_holding (wpAny_assign_Name ?_))
    have hv : VM G cx ρ vals s.heap s.heap m x v := by
      rcases hm with rfl | rfl
      · exact r1
      · exact r1
    refine bind_ok FO S F (Ext.refl ..) hi hv (asSm_ok (by rcases hm with rfl | rfl <;> simp)) fun s1 S1 F1 T1 => ?_
    have r2' : VRs G (elS cx (ρ.set i (some (x, asSm m))) (vals.set i (some v)) m) s1.heap xs vs := by
      have nt := sS_noTup FO S F
      have mu : ∀ b, Mu (ρ.set i (some (x, asSm m))) (vals.set i (some v)) b → Mu ρ vals b := fun b q => by
        rcases mu_set q with z | z
        · exact (asSm_own z).elim
        · exact z
      rcases hm with rfl | rfl
      · exact VRs.off (fun b q => .inl (q.imp (mu b) id)) _ _ (VRs.kx T1.keep (fun b q => .inl q) nt _ _ r2)
      · exact VRs.off (fun b q => .inl (q.imp (mu b) id)) _ _ (VRs.kx T1.keep (fun b q => .inl (fS_sS q)) nt _ _ r2)
    refine wpAny_mono (ih es xs vs _ _ s1 (by simpa using h1) (fun j e i a b => h2 (j + 1) e i (by simpa using a) (by simpa using b)) (by simpa using h3) S1 F1 r2' hN (E := E)) (fun _ s2 h => h.trans (F1.badLt FO) T1) fun _ _ h => h

theorem assignEach_len {env : Env} : ∀ (es : List Expr), (assignEach es env).length = es.length
  | [] => rfl
  | e :: es => by cases e <;> exact congrArg Nat.succ (assignEach_len es)
theorem assignEach_star {env : Env} : ∀ (es : List Expr), (∀ e ∈ es, ∃ x p, e = .Name x p) → (assignEach es env).findIdx? (·.1) = none
  | [], _ => rfl
  | e :: es, h => by
    obtain ⟨x, p, rfl⟩ := h e (.head _)
    have ih := assignEach_star (env := env) es fun e m => h e (.tail _ m)
    show ((false, assign (.Name x p) env) :: assignEach es env).findIdx? (·.1) = none
    rw [List.findIdx?_cons, ih]; rfl

theorem sok_unp (FO : FOk G cx) (T : ThOk G cx t) {ts : List Expr} {k : Nat} {tp pos : Pos} {e : Expr} {me : ME} {is : List Nat} (he : EOK G cx t e me) (hd : isDisplay e = false) (hl : ts.length = is.length)
    (hn : ∀ (j : Nat) (e : Expr) (i : Nat), ts[j]? = some e → is[j]? = some i → ∃ x p, e = .Name x p ∧ cx.Γ[i]? = some (some x)) : SOK1 G cx t (.Assign [.Tuple ts k tp] e pos) (.unp is me) := fun ρ vals s N K R X S F hw => by
  rw [wpS_unp] at hw
  obtain ⟨hlo, hw⟩ := hw
  have B := F.badLt FO
  refine Assign_Tuple (he.seq S B (Ext.refl ..) hw (fun a m v s1 h1 e1 _ q1 => ?_) fun c ev s1 h x => px_of S F (fun c q => q) ⟨c, h, x⟩) (by cases e <;> rfl) (by cases e <;> first | rfl | exact (Bool.false_ne_true hd.symm).elim)
  obtain ⟨hm, h1⟩ := h1
  cases a <;> try exact h1.elim
  rename_i xs
  obtain ⟨hx, hN⟩ := h1
  obtain ⟨ta, vs, rfl, z1, l, r⟩ := q1.tup
  have hlv := r.length
  have hnm : ∀ e ∈ ts, ∃ x p, e = .Name x p := fun e hm => by
    obtain ⟨j, hj, hje⟩ := List.getElem_of_mem hm
    obtain ⟨x, p, h, _⟩ := hn j e (is[j]'(by (first | lia | omega))) (by rw [List.getElem?_eq_getElem hj, hje]) (List.getElem?_eq_getElem _)
    exact ⟨x, p, h⟩
  refine wpAny_assign_Tuple (T.loops hlo) l (by rw [assignEach_len, List.size_toArray]; (first | lia | omega)) (assignEach_star ts hnm) fun h' hext => ?_
  have kx : Kp G.base s1.heap h' := Kp.of_keeps fun b o e => hext b o (Nat.ne_of_lt (Heap.lt_size e)) e
  have e2 : Ext G s { s1 with heap := h' } := e1.trans (Ext.heap (t := s1.toks) kx)
  have S2 := S.ext e2
  have F2 := F.kp e2.1
  have mm : ∃ m', (m' = .sh ∨ m' = .fr) ∧ elS cx ρ vals m = elS cx ρ vals m' ∧ asSm m = asSm m' := by
    cases m
    · exact ⟨.sh, .inl rfl, rfl, rfl⟩
    · exact ⟨.fr, .inr rfl, rfl, rfl⟩
    · exact ⟨.fr, .inr rfl, by simp [elS], rfl⟩
    · exact absurd rfl hm
  obtain ⟨m', hm', q1', q2'⟩ := mm
  rw [q1'] at r
  rw [q2'] at hN
  refine wpAny_mono (unp_run FO hm' is ts xs vs ρ vals { s1 with heap := h' } hl hn hx S2 F2 (VRs.kp kx _ _ r) hN) (fun _ s3 h => ?_) fun _ _ h => h
  exact PN.trans (F2.badLt (s := { s1 with heap := h' }) FO) (Tr.ext e2) h

theorem sok_ex (FO : FOk G cx) {f : Expr} {as : List Expr} {ks : List Keyword} {cp pos : Pos} {me : ME} (he : EOK G cx t (.Call f as ks cp) me) (hi : interactive cx.env = false) : SOK1 G cx t (.Expr (.Call f as ks cp) pos) (.ex me) := fun ρ vals s N K R X S F hw => by
  rw [wpS_ex] at hw
  refine wpAny_Expr_any (he.seq S (F.badLt FO) (Ext.refl ..) hw (fun a m v s1 h1 e1 _ q1 => ?_) fun c ev s1 h x => px_of S F (fun c q => q) ⟨c, h, x⟩) hi rfl
  exact ⟨ρ, vals, h1, S.ext e1, F.kp e1.1, Tr.ext e1⟩
end
end Mine

namespace Mine
open PySem PyProof.Rows PySem.W

section
variable {G : Gd} {cx : Cx} {cc : CC} {t : Th} {ρ : Rho} {vals : Vals} {s s₁ : Shared} {N K : Rho → Prop} {R : AV → Md → Prop} {X : Rho → Str → Prop}

theorem setItem_ok {A : Around} {E : Value → Shared → Prop} {S : Addr → Prop} {r : Addr} {w k v w' : AV} {xk xv : Value} (hr : S r) (rt : Root G S s.heap w r) (hk : VR G (fun _ => False) s.heap k xk) (hv : VR G S s.heap v xv) (e : store w k v = some w') {Q : Unit → Shared → Prop}
    (h : ∀ h' tk, Kx G.base (· = r) s.heap h' → Root G S h' w' r → Q () { s with heap := h', toks := tk }) : wpAny (model G.prog G.w) A (setItem (.ref r) xk xv) Q E s := by
  have nt := rt.k.noTup
  cases w <;> try (cases e; done)
  · rename_i xs
    cases k <;> try (cases e; done)
    rename_i i
    have e : (if 0 ≤ i ∧ i < xs.length then some (AV.lst (xs.set i.toNat v)) else none) = some w' := e
    split at e
    · rename_i hb
      cases e
      obtain ⟨u, rfl⟩ := hk
      obtain ⟨z, vs, l, q⟩ := rt
      have hlen := q.length
      have zz : (top : Nat) = 16777216 := rfl
      obtain ⟨n, l⟩ := l
      refine ki_setAt (n := n) l hb.1 (by (first | lia | omega)) (by rw [List.size_toArray]; (first | lia | omega)) ?_
      have kx : Kx G.base (· = r) s.heap (s.heap.update r (Obj.mapSeq (·.setIfInBounds i.toNat xv))) := .but (Heap.SameBut.update ..)
      refine h _ s.toks kx ⟨by simpa using z, vs.set i.toNat xv, ?_, ?_⟩
      · have : vs.toArray.setIfInBounds i.toNat xv = (vs.set i.toNat xv).toArray := by simp
        rw [← this]; exact ⟨_, IsL.update l _⟩
      · exact VRs.kx kx (fun b q => .inl (by rw [q]; exact hr)) (fun b q => by rw [q]; exact nt) _ _ (VRs.set hv _ q)
    · cases e

theorem sok_sto (FO : FOk G cx) (C : CcOk G cx cc) {x : Str} {p tp pos : Pos} {k e : Expr} {mk me : ME} {i : Nat} (hv : cc.isVar x = true) (hd : (x == Str.ofString "__debug__") = false) (hc : (x == Str.ofString "__classdict__") = false) (hi : idx cc.Γ x = some i)
    (hk : EOK G cx t k mk) (he : EOK G cx t e me) (hs : swapsWith e (some (.Subscript (.Name x p) k tp)) pos.line cx.env = pure false) : SOK1 G cx t (.Assign [.Subscript (.Name x p) k tp] e pos) (.sto i mk me) := fun ρ vals s N K R X S F hw => by
  rw [wpS_sto] at hw
  obtain ⟨w, ew, hw⟩ := hw
  have hsl := getMu_at ew
  obtain ⟨y, eov, _⟩ := S.bnd i w .mu hsl
  have B := F.badLt FO
  refine wpAny_Assign_Subscript (he.seq S B (Ext.refl ..) hw (fun a m v s1 h1 e1 _ q1 => ?_) fun c ev s1 h x => px_of S F (fun c q => q) ⟨c, h, x⟩) hs
  obtain ⟨hm, hok, h1⟩ := h1
  have S1 := S.ext e1
  refine var_val FO.ok C S1 hv hd hc hi eov ?_
  refine hk.seq S B e1 h1 (fun kv km xk s2 h2 e2 e12 q2 => ?_) fun c ev s1 h x => px_of S F (fun c q => q) ⟨c, h, x⟩
  obtain ⟨w', es, hN⟩ := h2
  have S2 := S.ext e2
  have F2 := F.kp e2.1
  obtain ⟨y', ey, r, er, n0, nb, rt⟩ := S2.bnd i w .mu hsl
  rw [eov] at ey; cases ey; subst er
  refine setItem_ok (S := fS cx ρ vals) (.inl ⟨i, w, .mu, hsl, eov⟩) rt q2.read ((q1.kp e12.1).okF S B hok) es fun h' tk kx rt' => ?_
  obtain ⟨S3, F3, T3⟩ := S2.mut (s' := { s2 with heap := h', toks := tk }) FO F2 kx rfl rfl hsl eov rt'
  exact ⟨_, _, hN, S3, F3, Tr.trans (F2.badLt FO) (Tr.ext e2) T3⟩
end
end Mine

namespace Mine
open PySem PyProof.Rows PySem.W

section
variable {G : Gd} {cx : Cx} {cc : CC} {t : Th} {ρ : Rho} {vals : Vals} {s : Shared} {N K : Rho → Prop} {R : AV → Md → Prop} {X : Rho → Str → Prop}

theorem sok_sat (FO : FOk G cx) {o e : Expr} {n : Str} {p pos : Pos} {me : ME} (he : EOK G cx t e me) (hs : swapsWith e (some (.Attribute o n p)) pos.line cx.env = pure false) : SOK1 G cx t (.Assign [.Attribute o n p] e pos) (.sat me) := fun ρ vals s N K R X S F hw => by
  rw [wpS_sat] at hw
  exact plainObj_wpAny_Assign_Attribute (he.seq S (F.badLt FO) (Ext.refl ..) hw (fun a m v s1 h1 e1 _ q1 => h1.elim) fun c ev s1 h x => px_of S F (fun c q => q) ⟨c, h, x⟩) hs

theorem sok_app (FO : FOk G cx) (C : CcOk G cx cc) {x : Str} {p ap cp pos : Pos} {e : Expr} {me : ME} {i : Nat} (hv : cc.isVar x = true) (hd : (x == Str.ofString "__debug__") = false) (hc : (x == Str.ofString "__classdict__") = false) (hi : idx cc.Γ x = some i)
    (hl : (ap.endLine == cp.line) = true) (he : AOK G cx t e me) (hin : interactive cx.env = false) : SOK1 G cx t (.Expr (.Call (.Attribute (.Name x p) (Str.ofString "append") ap) [e] [] cp) pos) (.app i me) := fun ρ vals s N K R X S F hw => by
  rw [wpS_app] at hw
  obtain ⟨w, ew, xs, exs, hw⟩ := hw
  have hx := asLst_some exs
  subst hx
  have hsl := getMu_at ew
  obtain ⟨y, eov, r, er, n0, nb, rt⟩ := S.bnd i _ .mu hsl
  subst er
  have B := F.badLt FO
  obtain ⟨z, vs, ⟨n, l⟩, rr⟩ := id rt
  have ll : ∀ {h : Heap}, Kp G.base s.heap h → IsL h r vs.toArray n := fun k => k.exact l (show Value.type "list" ≠ .type "frame" by decide)
  refine wpAny_Expr_any (wpAny_Call_method1_late (name := Str.ofString "append") rfl hl (by rw [starEach_plain he.2]; rfl) (var_val FO.ok C S hv hd hc hi eov ?_)) hin rfl
  refine ⟨"list", "list.append", PySem.F.plainAttrs_list, PySem.F.slot_list_append, PySem.F.type_list_append, ⟨_, l, rfl⟩, fun a e => by cases e; exact ⟨_, l, rfl⟩, ?_⟩
  refine P.append_list (he.1.seq S B (Ext.refl ..) hw (fun a m v s1 h1 e1 _ q1 => ?_) fun c ev s1 h x => px_of S F (fun c q => q) ⟨c, h, x⟩)
  obtain ⟨hm, hok, hlt, hN⟩ := h1
  have S1 := S.ext e1
  have F1 := F.kp e1.1
  have l1 := ll e1.1
  have hlen := rr.length
  have zz : (top : Nat) = sizeLine := top_line
  refine ⟨_, n, by rw [List.size_toArray, ← hlen, ← zz]; (first | lia | omega), l1, ?_⟩
  have kx : Kx G.base (· = r) s1.heap (s1.heap.update r (Obj.mapSeq fun xs => xs.push v)) := .but (Heap.SameBut.update ..)
  have nt := NoTup.list (IsL.isList l1)
  have rt' : Root G (fS cx ρ vals) (s1.heap.update r (Obj.mapSeq fun xs => xs.push v)) (.lst (xs ++ [a])) r := by
    refine ⟨by rw [List.length_append]; exact hlt, vs ++ [v], ?_, ?_⟩
    · have := IsL.update l1 fun xs => xs.push v
      rw [List.push_toArray] at this
      exact ⟨_, this⟩
    · exact VRs.kx kx (fun b q => .inl (by rw [q]; exact .inl ⟨i, _, .mu, hsl, eov⟩)) (fun b q => by rw [q]; exact nt) _ _ (VRs.append (VRs.kp e1.1 _ _ rr) ⟨q1.okF S B hok, trivial⟩)
  obtain ⟨S3, F3, T3⟩ := S1.mut (s' := { s1 with heap := s1.heap.update r (Obj.mapSeq fun xs => xs.push v) }) FO F1 kx rfl rfl hsl eov rt'
  exact ⟨_, _, hN, S3, F3, Tr.trans (F1.badLt FO) (Tr.ext e1) T3⟩
end
end Mine

namespace Mine
open PySem PyProof.Rows PySem.W

noncomputable def Cx.mkd (cx : Cx) (e : Value) : Cx := { cx with A := cx.A.mark (some e) }

section
variable {G : Gd} {cx : Cx} {cc : CC} {t : Th} {ρ ρ' : Rho} {vals vals' : Vals} {s s' : Shared} {N K : Rho → Prop} {R : AV → Md → Prop} {X : Rho → Str → Prop} {ev : Value}

theorem Cx.Ok.mkd (O : cx.Ok G) (e : Value) : (cx.mkd e).Ok G := ⟨O.bsz, O.badGe, O.frames, O.kind, O.glob, O.blt, O.room, O.units, O.names, O.badL, O.top⟩
theorem FOk.mkd (F : FOk G cx) (e : Value) : FOk G (cx.mkd e) := ⟨F.ok.mkd e, F.fr, F.frame, F.bad, F.badC, F.cinj, F.cne, F.kinds⟩
theorem CcOk.mkd (C : CcOk G cx cc) (e : Value) : CcOk G (cx.mkd e) cc := ⟨C.fns, C.bis, C.cls, C.Γ, C.kinds, C.cells⟩
theorem ThOk.mkd (T : ThOk G cx t) (e : Value) : ThOk G (cx.mkd e) t.inH := ⟨T.data, T.callH, T.callH, nofun, T.bis, T.isi, T.sub, T.lbis⟩
theorem St.mkd (S : St G cx ρ vals s) (e : Value) : St G (cx.mkd e) ρ vals s := ⟨S.stays, S.frames, S.fsok, S.ent, S.gens, S.os, S.len, S.lenv, S.vars, S.unb, S.bnd, S.inj⟩
theorem St.unm (S : St G (cx.mkd ev) ρ vals s) : St G cx ρ vals s := ⟨S.stays, S.frames, S.fsok, S.ent, S.gens, S.os, S.len, S.lenv, S.vars, S.unb, S.bnd, S.inj⟩
theorem Fr.mkd {h : Heap} (F : Fr cx h) (e : Value) : Fr (cx.mkd e) h := ⟨F.ns, F.cell⟩
theorem Fr.unm {h : Heap} (F : Fr (cx.mkd ev) h) : Fr cx h := ⟨F.ns, F.cell⟩
theorem Tr.unm (T : Tr G (cx.mkd ev) ρ vals s ρ' vals' s') : Tr G cx ρ vals s ρ' vals' s' := ⟨T.keep, T.roots⟩
theorem PN.unm (h : PN G (cx.mkd ev) ρ vals s N s') : PN G cx ρ vals s N s' := let ⟨a, b, c, d, e, f⟩ := h; ⟨a, b, c, d.unm, e.unm, f.unm⟩
theorem PR.unm {v : Value} (h : PR G (cx.mkd ev) R v s') : PR G cx R v s' := let ⟨a, b, c, d, e, f, g, i⟩ := h; ⟨a, b, c, d, e, f, g.unm, i⟩
theorem PF.unm {f : Flow} (h : PF G (cx.mkd ev) ρ vals s N K R f s') : PF G cx ρ vals s N K R f s' := by
  cases f with
  | next => exact PN.unm h
  | brk => exact PN.unm h
  | ret v => exact PR.unm h
  | cont => exact h

theorem sok_rai (FO : FOk G cx) (C : CcOk G cx cc) (T : ThOk G cx t) {c m : Str} {np cpos pos p : Pos} {k : Nat} (hg : cc.isGlob c = true) (hd : (c == Str.ofString "__debug__") = false) (hr : Raisable G c) :
    SOK1 G cx t (.Raise (some (.Call (.Name c np) [.Constant (.str m) k p] [] cpos)) none pos) (.rai c) := fun ρ vals s N K R X S F hw => by
  rw [wpS_rai] at hw
  obtain ⟨hl, hx⟩ := hw
  obtain ⟨Ca, B, newId, initId, bmB, O, FB, hcls⟩ := hr
  obtain ⟨tl, Nn, nm, q, bs, hdct, sn, sub, ab, col, dd, k0, k1, k2, k3, k5, mN, hC, hN, hni, TL⟩ := O.obj
  refine wpAny_Raise_call_subT (C := Ca) (nm := nm) (q := q) (N := Nn) (bs := bs) (bm := tl) (hdct := hdct) (sn := sn) (sub := sub) (ab := ab) (col := col) (dd := dd) (k0 := k0) (k1 := k1) (k2 := k2) (k3 := k3) (k5 := k5)
    FB (mN := mN) (TL.hasType FB.hasBase) (T.loops hl) rfl hni (name_ok FO.ok C (S.base FO.ok) hg hd (.inl O.bound) ⟨rfl, ?_⟩)
  refine Calls.evalArgs_plain (spliced_more (wpAny_Constant_str (spliced_none ⟨rfl, (by decide : (1 : Nat) ≤ sizeLine), S.stays _ _ hC, hN.keeps S.stays, TL.keeps S.stays, fun h' e hm => ?_⟩)))
  obtain ⟨tt, he, _, _⟩ := hm.there
  refine ⟨ρ, vals, s, c, hx, S, F, Tr.refl, e, rfl, ⟨Kp.of_keeps hm.keeps, rfl, rfl⟩, fun o q => by rw [he] at q; cases q; rfl, ?_, _, _, _, he, hcls, rfl, rfl, .no rfl⟩
  cases z : (still G s.heap).get? e with
  | none => rfl
  | some o => have := (still_get z).1; rw [hm.new] at this; cases this

theorem set_none {i j : Nat} {w : AV} {m : Sm} (e : (ρ.set i none)[j]? = some (some (w, m))) : i ≠ j ∧ ρ[j]? = some (some (w, m)) := by
  rw [set_get] at e
  by_cases q : i = j
  · rw [if_pos q] at e; split at e <;> simp at e
  · rw [if_neg q] at e; exact ⟨q, e⟩

theorem St.del (F : FOk G cx) (S : St G cx ρ vals s) (R : Fr cx s.heap) {i : Nat} {ov : Option Value} (k : Kx G.base cx.bad s.heap s'.heap) (hg : s'.gens = s.gens) (ho : s'.os = s.os) (f1 : FsOk s'.heap cx.fr) (f2 : s'.heap.FunFrames G.base cx.fr)
    (va : ∀ (j : Nat) (y : Str), cx.Γ[j]? = some (some y) → VarAt cx.env s'.heap y ((vals.set i ov)[j]?.join)) :
    St G cx (ρ.set i none) (vals.set i ov) s' ∧ Tr G cx ρ vals s (ρ.set i none) (vals.set i ov) s' := by
  have mu' : ∀ r, Mu (ρ.set i none) (vals.set i ov) r → Mu ρ vals r := fun r ⟨j, w, m, e1, e2⟩ => by
    obtain ⟨q, e1⟩ := set_none e1
    rw [set_get, if_neg q] at e2
    exact ⟨j, w, m, e1, e2⟩
  have nt := R.noTup F
  refine ⟨⟨fun b o e => (k.kp b o (base_bad F e) (S.stays b o e)).1 (.inr (by rw [e]; rfl)), f2, f1, ((S.ent.kx (M := cx.bad)).trans k).toKp F.ok.badGe, hg.trans S.gens, ho.trans S.os, by rw [List.length_set]; exact S.len, by rw [List.length_set]; exact S.lenv, va, fun _ _ => trivial,
    fun j w mm hj => ?_, fun j j' w w' n n' r' e1 e2 e3 e4 => ?_⟩, k.mono fun b q => .inr q, fun r q => .inl (mu' r q)⟩
  · obtain ⟨q, hj⟩ := set_none hj
    obtain ⟨x, e, sv⟩ := S.bnd j w mm hj
    exact ⟨x, by rw [set_get, if_neg q]; exact e, sv.keep k nt (fun b z => .inr z) (fun b z => .inl (z.imp (mu' b) id)) (fun b z => .inl (z.imp (mu' b) id)) fun r o => (sv.own o).2.1⟩
  · obtain ⟨q, e1⟩ := set_none e1
    obtain ⟨q', e3⟩ := set_none e3
    rw [set_get, if_neg q] at e2
    rw [set_get, if_neg q'] at e4
    exact S.inj j j' w w' n n' r' e1 e2 e3 e4

theorem dropName_cls (o : Obj) (name : Str) : (Obj.dropName name o).cls = o.cls := by
  obtain ⟨c, d, dt, sl⟩ := o
  rw [Obj.dropName_eq]
  unfold Obj.dropNameByArray
  cases dt <;> try rfl
  dsimp only
  split <;> rfl

theorem wpAny_nsDelC {M : Model} {A : Around} {E : Value → Shared → Prop} {a : Addr} {m} {name : Str} {Q : Bool → Shared → Prop} {o : Obj} (hn : s.heap.Ns a m) (ho : s.heap.get? a = some o) (hm : (m name).isSome = true)
    (h : ∀ h' o' v, h'.Ns a (fun x => if x = name then v else m x) → Heap.SameBut a s.heap h' → h'.get? a = some o' → o'.cls = o.cls → Q true { s with heap := h' }) :
    wpAny M A (nsDel a name) Q E s := by
  obtain ⟨o2, es, ep, ho2, hd, hk, hmm⟩ := id hn
  rw [ho] at ho2; cases ho2
  have hany : (es.any fun x => x.key.isStr name) = true := by
    rw [← hmm name] at hm
    unfold nsFind findBy at hm
    rw [Option.isSome_map, Array.find?_isSome] at hm
    obtain ⟨x, hx, hp⟩ := hm
    rw [Array.any_eq_true]
    obtain ⟨i, hi, rfl⟩ := Array.mem_iff_getElem.mp hx
    exact ⟨i, hi, hp⟩
  have hhas : nsHas name o = pure true := by
    rw [nsHas_eq]; unfold nsHasByArray; rw [hd]
    dsimp only
    rw [if_pos hany]
  have lib : wpAny M A (nsDel a name) (fun b s' => b = true ∧ ∃ v, s'.heap.Ns a (fun x => if x = name then v else m x) ∧ Heap.SameBut a s.heap s'.heap) E s := wpAny_nsDel_keeps hn fun h' v n sb => ⟨hm, v, n, sb⟩
  intro Γ p hΓ
  have raw : ∀ Q : Bool → Pos → Shared → Prop, Sem.wp M Γ (nsDel a name) Q (fun e _ s' => E e s') p s ↔ Q true p { s with heap := s.heap.update a (Obj.dropName name) } := fun Q => by
    have hs : (s.heap.get? a).isSome = true := by rw [ho]; rfl
    simp only [nsDel, Sem.wp_bind']
    rw [Sem.wp_loadPart_of M Γ _ p s (o := o) _ ho, hhas]
    simp only [Sem.wp_pure', if_true, Sem.wp_bind', Sem.wp_cmd_updatePart]
    exact ⟨fun q => q.2, fun q => ⟨hs, q⟩⟩
  obtain ⟨_, v, l1, l2⟩ := (raw _).mp (lib Γ p hΓ)
  refine (raw _).mpr ?_
  obtain ⟨o', _, _, e', _⟩ := id l1
  refine h _ o' v l1 l2 e' ?_
  have hf : (Obj.dropName name o).isFreed = false := by
    obtain ⟨c, d, dt, sl⟩ := o
    subst hd
    rw [Obj.dropName_eq]
    unfold Obj.dropNameByArray
    dsimp only
    split <;> rfl
  have e3 := Heap.get?_update_self (Obj.dropName name) ho hf
  rw [show (s.heap.update a (Obj.dropName name)).get? a = some o' from e'] at e3
  cases e3
  exact dropName_cls ..

theorem goes_ok (FO : FOk G cx) (S : St G cx ρ vals s) (F : Fr cx s.heap) {i : Nat} {x : Str} (hi : cx.Γ[i]? = some (some x)) (hl : cx.env.kindOf x = some .local) {pos : Pos} {A : Around} {E : Value → Shared → Prop} {Q : Unit → Shared → Prop}
    (h : ∀ s' ov, St G cx (ρ.set i none) (vals.set i ov) s' → Fr cx s'.heap → Tr G cx ρ vals s (ρ.set i none) (vals.set i ov) s' → Q () s') :
    wpAny (model G.prog G.w) A (do bindName cx.env x .none; unbindBehindTheSuite cx.env x pos) Q E s := by
  refine wpAny_bind (wpAny_bindName (bind_ok FO S F (Ext.refl ..) hi (m := .fr) (a := .none) (v := .none) rfl (asSm_ok nofun) fun s1 S1 F1 T1 => ?_))
  have il : i < vals.length := by rw [S.lenv]; exact (List.getElem?_eq_some_iff.mp hi).1
  have hp : (cx.env.scope.kind == .class || (cx.env.scope.kind == .module && cx.env.locals != cx.env.globals)) = false := by rw [FO.ok.kind]; rfl
  unfold unbindBehindTheSuite
  refine wpAny_onRaise ?_
  unfold unbindName
  refine wpAny_bind (wpAny_point (wpAny_bind ?_))
  unfold deleteName
  simp only [hl, hp]
  rw [if_neg (by decide)]
  obtain ⟨m, hn, hm⟩ : ∃ m, s1.heap.Ns cx.env.locals m ∧ m x = some .none := by
    have z := S1.vars i x hi
    unfold VarAt at z
    rw [hl] at z
    obtain ⟨m, hn, e⟩ := z
    refine ⟨m, hn, e.trans ?_⟩
    rw [set_get, if_pos rfl, if_pos il]; rfl
  obtain ⟨o, ho⟩ := Ns.there hn
  refine wpAny_bind (wpAny_nsDelC hn ho (by rw [hm]; rfl) fun h' o' v n' hs' e' c' => ?_)
  simp only [Bool.not_true, Bool.false_eq_true, if_false]
  refine wpAny_pure (wpAny_point ?_)
  obtain ⟨f1, f2⟩ := frame_change FO S1 hs' (.inl ⟨rfl, _, o, o', n', ho, e', c'⟩)
  have k : Kx G.base (· = cx.env.locals) s1.heap h' := .but hs'
  have F2 : Fr cx h' := ⟨⟨_, n'⟩, fun y c e => let ⟨ov, q⟩ := F1.cell y c e; ⟨ov, k.isCell (FO.cne y c e) q⟩⟩
  have va : ∀ (j : Nat) (y : Str), cx.Γ[j]? = some (some y) → VarAt cx.env h' y (((vals.set i (some Value.none)).set i v)[j]?.join) := by
    intro j y hj
    rw [List.set_set, set_get]
    by_cases q : i = j
    · subst q
      have : y = x := by rw [hi] at hj; simpa using hj.symm
      subst this
      rw [if_pos rfl, if_pos il]
      unfold VarAt
      rw [hl]
      exact ⟨_, n', by simp⟩
    · rw [if_neg q]
      have va := S1.vars j y hj
      rw [set_get, if_neg q] at va
      have hne : y ≠ x := fun e => q (FO.ok.names i j x hi (by rw [← e]; exact hj))
      unfold VarAt at va ⊢
      split at va
      · obtain ⟨m2, n2, e2⟩ := va
        have := Ns.fun n2 hn
        subst this
        exact ⟨_, n', by rw [if_neg hne]; exact e2⟩
      · obtain ⟨c2, l2, e2⟩ := va; exact ⟨c2, l2, k.isCell (FO.cne y c2 l2) e2⟩
      · obtain ⟨c2, l2, e2⟩ := va; exact ⟨c2, l2, k.isCell (FO.cne y c2 l2) e2⟩
      · trivial
  obtain ⟨S2, T2⟩ := S1.del (i := i) (ov := v) (s' := { s1 with heap := h' }) FO F1 (k.mono fun b q => by rw [q]; exact FO.ok.badL) rfl rfl f1 f2 va
  rw [List.set_set, List.set_set] at S2 T2
  exact h _ v S2 F2 (T1.trans (F1.badLt FO) T2)

theorem goes_ret (FO : FOk G cx) {x : Str} (hl : cx.env.kindOf x = some .local) {pos : Pos} {A : Around} {E : Value → Shared → Prop} {Q : Unit → Shared → Prop} {v : Value} (h : PR G cx R v s) (hq : ∀ s', PR G cx R v s' → Q () s') :
    wpAny (model G.prog G.w) A (do bindName cx.env x .none; unbindBehindTheSuite cx.env x pos) Q E s := by
  obtain ⟨av, m, q, kp, e1, e2, F, rm⟩ := h
  obtain ⟨mm, hn⟩ := F.ns
  refine wpAny_nameGoes hl hn (by rw [FO.ok.kind]; rfl) fun h' m' n' hs' => hq _ ?_
  have k : Kx G.base (· = cx.env.locals) s.heap h' := .but hs'
  have bad : ∀ b, b = cx.env.locals → cx.bad b := fun b z => by rw [z]; exact FO.ok.badL
  have nt : ∀ b, b = cx.env.locals → NoTup s.heap b := fun b z => by rw [z]; exact NoTup.ns hn
  refine ⟨av, m, q, ((kp.kx (M := (· = cx.env.locals))).trans k).toKp fun b z => FO.ok.badGe b (bad b z), e1, e2, ⟨⟨m', n'⟩, fun y c e => let ⟨ov, z⟩ := F.cell y c e; ⟨ov, k.isCell (FO.cne y c e) z⟩⟩, ?_⟩
  cases m
  · exact rm.elim
  · exact VR.kx k (fun b z => .inl (.inl (bad b z))) nt _ _ rm
  · obtain ⟨r, a1, a2, a3, rt⟩ := rm
    exact ⟨r, a1, a2, a3, Root.kx k (fun b z => .inl (.inl (.inl (bad b z)))) nt (fun z => a3 (bad r z)) rt⟩
  · exact rm.elim

noncomputable def SlOk (cx : Cx) : Option Str → Option Nat → Prop
  | none, none => True
  | some x, some i => cx.Γ[i]? = some (some x) ∧ cx.env.kindOf x = some .local
  | _, _ => False
inductive HOK (G : Gd) (cx : Cx) (t : Th) (cc : CC) (h : ExceptHandler) (m : Str × Option Nat × List MS) : Prop
  | mk (np : Pos) (nm : Option Str) (b₀ : Stmt) (body : List Stmt) (pos : Pos) (e : h = .ExceptHandler (some (.Name m.1 np)) nm (b₀ :: body) pos) (hg : cc.isGlob m.1 = true) (hd : (m.1 == Str.ofString "__debug__") = false) (hsl : SlOk cx nm m.2.1) (hb : ∀ e, SSOK G (cx.mkd e) t.inH (b₀ :: body) m.2.2) : HOK G cx t cc h m
inductive AllH (P : ExceptHandler → Str × Option Nat × List MS → Prop) : List ExceptHandler → List (Str × Option Nat × List MS) → Prop
  | nil : AllH P [] []
  | cons {h : ExceptHandler} {m : Str × Option Nat × List MS} {hs : List ExceptHandler} {ms : List (Str × Option Nat × List MS)} : P h m → AllH P hs ms → AllH P (h :: hs) (m :: ms)

theorem handlers_ok (FO : FOk G cx) (C : CcOk G cx cc) (T : ThOk G cx t) {p : Shared} {ea : Addr} {c : Str} (S : St G cx ρ vals p) (F : Fr cx p.heap) {hs : List ExceptHandler} {mhs : List (Str × Option Nat × List MS)} (hh : AllH (HOK G cx t cc) hs mhs) :
    ∀ (s3 : Shared), Ext G p s3 → ExcTr G p.heap s3.heap ea c → wpH t mhs c ρ N K R (X ρ c) → wpAny (model G.prog G.w) cx.A (handleBy (.ref ea) cx.env hs) (PF G cx ρ vals p N K R) (PX G cx ρ vals p X) s3 := by
  induction hh with
  | nil =>
    intro s3 e3 x3 hw
    rw [wpH_nil] at hw
    exact wpAny_handleBy_nil (passOn_ok e3.1 x3 fun h' k' x' => ⟨ρ, vals, p, c, hw, S, F, Tr.refl, ea, rfl, ⟨k', e3.2.1, e3.2.2⟩, x'.ok⟩)
  | @cons h m hs ms hm _ ih =>
    intro s3 e3 x3 hw
    obtain ⟨C', sl, mb⟩ := m
    obtain ⟨np, nm, b₀, body, pos, rfl, hg, hd, hsl, hb⟩ := hm
    have S3 := S.ext e3
    have F3 := F.kp e3.1
    have hw' : need (t.sub c C') fun y => if y then (match sl with
      | none => wpSs t.inH mb ρ N K R (fun _ _ => False)
      | some i => wpSs t.inH mb (ρ.set i (some (.exc c, .sh))) (fun ρ' => N (ρ'.set i none)) (fun ρ' => K (ρ'.set i none)) R (fun _ _ => False))
      else wpH t ms c ρ N K R (X ρ c) := by
      cases sl <;> exact hw
    obtain ⟨y, hsub, hw'⟩ := hw'
    obtain ⟨Fv, hFv, hmat⟩ := T.sub c C' y hsub
    obtain ⟨_, hen, oe, vs, a0, T0, oT, ts, fl, he, hc, hdd, r⟩ := id x3
    refine wpAny_handleBy_cons (codeAny_handlers_test (name_ok (FO.ok.mkd (.ref ea)) (C.mkd (.ref ea)) (S3.base FO.ok) hg hd hFv (hmat _ s3 ea oe _ _ (S3.base FO.ok) he hc ?_))) (by intro q; cases q)
    cases y with
    | false => exact ih s3 e3 x3 hw'
    | true =>
      cases nm with
      | none =>
        cases sl with
        | some _ => exact hsl.elim
        | none =>
          refine codeAny_handlers_suite (setFlight_ok e3.1 x3 fun h' k' x' => ?_)
          have e4 : Ext G p { s3 with heap := h' } := ⟨k', e3.2.1, e3.2.2⟩
          have F4 : Fr cx h' := F.kp k'
          refine wpAny_mono (hb (.ref ea) ρ vals { s3 with heap := h' } N K R (fun _ _ => False) ((S.ext e4).mkd _) (F4.mkd _) hw') (fun f s5 h5 => ?_) fun e s5 h5 => ?_
          · exact (PF.unm h5).trans (F4.badLt FO) (Tr.ext e4)
          · obtain ⟨_, _, _, _, q, _⟩ := h5; exact q.elim
      | some n =>
        cases sl with
        | none => exact hsl.elim
        | some i =>
          obtain ⟨hi, hl⟩ := hsl
          refine codeAny_handlers_suite_as (setFlight_ok e3.1 x3 fun h' k' x' => ?_)
          have e4 : Ext G p { s3 with heap := h' } := ⟨k', e3.2.1, e3.2.2⟩
          have F4 : Fr cx h' := F.kp k'
          have S4 := S.ext e4
          obtain ⟨dn', _, oe', vs', _, _, _, _, _, he', hc', hd', _⟩ := id x'
          have hv : VM G cx ρ vals h' h' .sh (.exc c) (.ref ea) := ⟨ea, oe', rfl, he', hc', dn' _ he', vs', hd'⟩
          refine bind_ok (A := cx.A.mark (some (.ref ea))) FO S4 F4 (Ext.refl ..) hi hv (asSm_ok nofun) fun s5 S5 F5 T5 => ?_
          have T5' : Tr G cx ρ vals p (ρ.set i (some (.exc c, .sh))) (vals.set i (some (.ref ea))) s5 := (Tr.ext e4).trans (F4.badLt FO) T5
          refine wpAny_mono (hb (.ref ea) _ _ s5 _ _ R (fun _ _ => False) (S5.mkd _) (F5.mkd _) hw') (fun f s6 h6 => ?_) fun e s6 h6 => ?_
          · have h6 := (PF.unm h6).trans (F5.badLt FO) T5'
            cases f with
            | next =>
              obtain ⟨ρ6, vals6, q6, S6, F6, T6⟩ := h6
              exact goes_ok FO S6 F6 hi hl fun s7 ov S7 F7 T7 => ⟨_, _, q6, S7, F7, T6.trans (F6.badLt FO) T7⟩
            | brk =>
              obtain ⟨ρ6, vals6, q6, S6, F6, T6⟩ := h6
              exact goes_ok FO S6 F6 hi hl fun s7 ov S7 F7 T7 => ⟨_, _, q6, S7, F7, T6.trans (F6.badLt FO) T7⟩
            | ret v => exact goes_ret FO hl h6 fun s7 h7 => h7
            | cont => exact h6.elim
          · obtain ⟨_, _, _, _, q, _⟩ := h6; exact q.elim

theorem sok_tri (FO : FOk G cx) (C : CcOk G cx cc) (T : ThOk G cx t) {b : List Stmt} {mb : List MS} {pos : Pos} (hb : SSOK G cx t b mb) {hs : List ExceptHandler} {mhs : List (Str × Option Nat × List MS)} (hh : AllH (HOK G cx t cc) hs mhs) (hne : hs ≠ []) :
    SOK1 G cx t (.Try b hs [] [] pos) (.tri mb mhs) := fun ρ vals s N K R X S F hw => by
  rw [wpS_tri] at hw
  cases hs with
  | nil => exact absurd rfl hne
  | cons h0 hs =>
    refine wpAny_Try_except (wpAny_mono (hb ρ vals s N K R _ S F hw) (fun f s1 h1 => ?_) fun e s1 h1 => ?_)
    · cases f with
      | next => exact wpAny_execs_nil h1
      | _ => exact h1
    · obtain ⟨ρ', vals', p, c, hq, Sp, Fp, Tp, ea, rfl, E1, x⟩ := h1
      obtain ⟨outer, hfr, _⟩ := FO.fr
      have S1 := Sp.ext E1
      have f1 := S1.frames
      have f2 := S1.fsok
      have hA := FO.ok.frames
      rw [hfr] at f1 f2 hA
      refine noteFrame_ok hA f1 f2 FO.frame E1.1 x fun h' k' x' => ?_
      refine setFlight_ok (s := { s1 with heap := h' }) k' x' fun h'' k'' x'' => ?_
      refine wpAny_mono (handlers_ok FO C T Sp Fp hh { s1 with heap := h'' } ⟨k'', E1.2.1, E1.2.2⟩ x'' hq) (fun f s4 h4 => h4.trans (Fp.badLt FO) Tp) fun e s4 h4 => h4.trans (Fp.badLt FO) Tp
end
end Mine

namespace Mine
open PySem PyProof.Rows PySem.W

section
variable {G : Gd} {t : Th}

inductive LcOk (G : Gd) (t : Th) (cc : CC) (elt : Expr) (gens : List Comprehension) (sc : Scope) (me : ME) (cx : Cx) : Prop
  | mk (x : Str) (px : Pos) (it : Expr) (ifs : List Expr) (el i : ME) (co : Option ME) (e1 : gens = [⟨.Name x px, it, ifs, 0⟩]) (e2 : me = .comp el i co) (K : ScOk cc x sc) (hi : EOK G cx t it i) (hs : ∀ es k p, it ≠ .Set es k p)
    (hel : ∀ cl C D, (cxC cx x sc cl C D).Ok G → CcOk G (cxC cx x sc cl C D) (ccC cc x sc) → EOK G (cxC cx x sc cl C D) t elt el)
    (hco : ∀ cl C D, (cxC cx x sc cl C D).Ok G → CcOk G (cxC cx x sc cl C D) (ccC cc x sc) → CoOk G (cxC cx x sc cl C D) t ifs co) : LcOk G t cc elt gens sc me cx
theorem compE_comp {n : Nat} {cc : CC} {elt : Expr} {gens : List Comprehension} {sc : Scope} {pos : Pos} {me : ME} {cx : Cx} (h : compE n cc (.ListComp elt gens sc pos) = some me) (O : cx.Ok G) (C : CcOk G cx cc) (T : ThOk G cx t) : LcOk G t cc elt gens sc me cx := by
  cases n with
  | zero => exact nomatch (show (none : Option ME) = some me from h)
  | succ n =>
    obtain ⟨x, px, it, ifs, el, i, co, e1, e2, K, hs, h1, h2, h3⟩ := cLC_inv (f := compE n) h
    exact ⟨x, px, it, ifs, el, i, co, e1, e2, K, (compE_ok n cc it i h1 cx O C T).1, hs, fun cl C' D O' C'' => (compE_ok n (ccC cc x sc) elt el h2 _ O' C'' (thC_ok T)).1,
      fun cl C' D O' C'' => coOk_of h3 fun c m q => (compE_ok n (ccC cc x sc) c m q _ O' C'' (thC_ok T)).2.1⟩

theorem compE_noSet {n : Nat} {cc : CC} {me : ME} {a b c d} : compE n cc (.SetComp a b c d) ≠ some me := by
  cases n <;> exact fun h => nomatch (show (none : Option ME) = some me from h)
theorem compE_noDict {n : Nat} {cc : CC} {me : ME} {a b c d f} : compE n cc (.DictComp a b c d f) ≠ some me := by
  cases n <;> exact fun h => nomatch (show (none : Option ME) = some me from h)

theorem noSwapAttr {e a : Expr} {b : Str} {c : Pos} {n : Nat} {env : Env} : swapsWith e (some (.Attribute a b c)) n env = pure false := by cases e <;> rfl
theorem noSwapSub {e a b : Expr} {c : Pos} {n : Nat} {env : Env} : swapsWith e (some (.Subscript a b c)) n env = pure false := by cases e <;> rfl

theorem sok_name {n : Nat} {cc : CC} {cx : Cx} {x : Str} {p pos : Pos} {e : Expr} {me : ME} {i : Nat} (FO : FOk G cx) (C : CcOk G cx cc) (T : ThOk G cx t) (hi : cx.Γ[i]? = some (some x)) (he : compE n cc e = some me) (mu : Bool) :
    SOK1 G cx t (.Assign [.Name x p] e pos) (cond mu (.asm i me) (.asg i me)) := by
  have hE := (compE_ok n cc e me he cx FO.ok C T).1
  by_cases hsw : swapsWith e (some (.Name x p)) pos.line cx.env = pure false
  · cases mu
    · exact sok_asg FO hi hE hsw
    · exact sok_asm FO hi hE hsw
  · cases e
    case ListComp elt gens sc cp =>
      obtain ⟨y, px, it, ifs, el, ii, co, rfl, rfl, KS, hit, hns, hel, hco⟩ := compE_comp he FO.ok C T
      have hsw' : swapsWith (.ListComp elt [⟨.Name y px, it, ifs, 0⟩] sc cp) (some (.Name x p)) pos.line cx.env = pure true := by
        have e : ∃ b, swapsWith (.ListComp elt [⟨.Name y px, it, ifs, 0⟩] sc cp) (some (.Name x p)) pos.line cx.env = pure b := ⟨_, rfl⟩
        obtain ⟨b, e⟩ := e
        cases b
        · exact absurd e hsw
        · exact e
      intro ρ vals s N K R X S F hw
      cases mu
      · rw [cond_false, wpS_asg] at hw
        exact sok_comp_used FO C T KS hit hns hel hco hi hsw' S F (fun c q => q) hw fun v m q => ⟨_, asSm_ok q.1, q.2⟩
      · rw [cond_true, wpS_asm] at hw
        exact sok_comp_used FO C T KS hit hns hel hco hi hsw' S F (fun c q => q) hw fun v m q => ⟨_, by rw [q.1]; exact ow_ok, q.2⟩
    case SetComp => exact absurd he compE_noSet
    case DictComp => exact absurd he compE_noDict
    all_goals exact absurd rfl hsw

theorem frzs_all {cc : CC} : ∀ {xs : List Str} {fs : List MS}, frzs cc xs = some fs → ∀ m ∈ fs, ∃ i, m = .frz i
  | [], fs, h => by cases h; intro m hm; cases hm
  | x :: xs, fs, h => by
    obtain ⟨y, hy, h⟩ := bindI (show ((idx cc.Γ x).map MS.frz).bind _ = some fs from h)
    obtain ⟨i, hi, rfl⟩ := Option.map_eq_some_iff.mp hy
    obtain ⟨ys, hys, rfl⟩ := Option.map_eq_some_iff.mp h
    intro m hm
    rcases List.mem_cons.mp hm with rfl | hm
    · exact ⟨i, rfl⟩
    · exact frzs_all (xs := xs) hys m hm

theorem slot_at {cc : CC} {cx : Cx} {x : Str} {i : Nat} (C : CcOk G cx cc) (h : cc.slotOf x = some i) : cx.Γ[i]? = some (some x) ∧ idx cc.Γ x = some i ∧ cc.isVar x = true ∧ (x == Str.ofString "__debug__") = false := by
  unfold CC.slotOf at h
  split at h
  · rename_i hb
    refine ⟨by rw [C.Γ]; exact idx_get h, h, ?_, ?_⟩
    · unfold CC.bindable at hb
      simp only [Bool.and_eq_true] at hb
      unfold CC.isVar
      split at hb <;> simp_all
    · unfold CC.bindable at hb
      simp only [Bool.and_eq_true, bne_iff_ne, ne_eq] at hb
      simpa using hb.2
  · cases h


section
variable {cc : CC} {cx : Cx} {p : Pos} {f : Expr → Option ME} {ms : List MS}

theorem callP_of {e g : Expr} {as : List Expr} {ks : List Keyword} {p : Pos} (h : asCallP e = some (g, as, ks, p)) : e = .Call g as ks p := by
  revert h
  unfold asCallP
  cases eview e with
  | call g a k p hh => intro h; cases h; exact hh
  | _ => intro h; cases h
theorem mCall_inv {e : Expr} {q : Str × Str × List Expr} (h : mCall e = some q) : ∃ p1 ap p, e = .Call (.Attribute (.Name q.1 p1) q.2.1 ap) q.2.2 [] p ∧ (ap.endLine == p.line) = true := by
  obtain ⟨⟨g, as, ks, p⟩, h1, k1⟩ := bindI h
  obtain ⟨⟨o, m, ap⟩, h2, k2⟩ := bindI k1
  obtain ⟨y, h3, k3⟩ := bindI k2
  obtain ⟨hc, k4⟩ := onlyIf_some k3
  obtain ⟨p1, rfl⟩ := name_of h3
  cases k4
  have hk : ks = [] := nil1 (and2 hc).1
  have e1 := callP_of h1
  have e2 : g = .Attribute (.Name y p1) m ap := attr_of h2
  subst hk e2
  exact ⟨p1, ap, p, e1, (and2 hc).2⟩
theorem tup_of {e : Expr} {es : List Expr} (h : asTup e = some es) : ∃ k p, e = .Tuple es k p := by
  revert h
  unfold asTup
  cases eview e with
  | tup es k p hh => intro h; cases h; exact ⟨k, p, hh⟩
  | _ => intro h; cases h
theorem subs_of {e a b : Expr} (h : asSubs e = some (a, b)) : ∃ p, e = .Subscript a b p := by
  revert h
  unfold asSubs
  cases eview e with
  | subs a b p hh => intro h; cases h; exact ⟨p, hh⟩
  | _ => intro h; cases h

structure SCx (G : Gd) (cx : Cx) (t : Th) (cc : CC) (f : Expr → Option ME) : Prop where
  FO : FOk G cx
  C : CcOk G cx cc
  T : ThOk G cx t
  hcd : idx cc.Γ (Str.ofString "__classdict__") = none
  E : ∃ n, f = compE n cc

theorem SCx.good (Y : SCx G cx t cc f) {e : Expr} {me : ME} (h : f e = some me) : Good G cx t e me := by
  obtain ⟨n, e⟩ := Y.E
  subst e
  exact compE_ok n cc _ _ h cx Y.FO.ok Y.C Y.T
theorem SCx.notCd (Y : SCx G cx t cc f) {x : Str} {i : Nat} (h : idx cc.Γ x = some i) : (x == Str.ofString "__classdict__") = false := by
  cases q : x == Str.ofString "__classdict__" with
  | false => rfl
  | true => rw [beq_iff_eq.mp q, Y.hcd] at h; cases h

theorem cs_ret (Y : SCx G cx t cc f) {e : Expr} (h : cRet cc f e = some ms) : SOK G cx t (.Return (some e) p) ms := by
  unfold cRet at h
  cases hn : nameOf e with
  | none =>
    rw [hn] at h
    obtain ⟨a, fs, ha, hf, rfl⟩ := ok2_some h
    exact sok_frz Y.FO (frzs_all hf) (sok_ret Y.FO (Y.good ha).1)
  | some x =>
    rw [hn] at h
    have h : cRetN cc f e x = some ms := h
    unfold cRetN at h
    cases hm : cc.mv.contains x with
    | true =>
      rw [hm] at h
      obtain ⟨i, hi, rfl⟩ := Option.map_eq_some_iff.mp h
      obtain ⟨_, h2, h3, h4⟩ := slot_at Y.C hi
      obtain ⟨q, rfl⟩ := name_of hn
      exact sok_one (sok_retm Y.FO Y.C h3 h4 (Y.notCd h2) h2)
    | false =>
      rw [hm] at h
      obtain ⟨a, ha, rfl⟩ := Option.map_eq_some_iff.mp h
      exact sok_one (sok_ret Y.FO (Y.good ha).1)

theorem strC_some {c : Const} (h : strC c = true) : ∃ m, c = .str m := by
  cases c <;> first | exact ⟨_, rfl⟩ | cases h

theorem cs_rai (Y : SCx G cx t cc f) {e : Expr} (h : cRai cc e = some ms) : SOK G cx t (.Raise (some e) none p) ms := by
  obtain ⟨⟨g, as, ks⟩, h1, k⟩ := bindI h
  obtain ⟨q, e1⟩ := call_of h1
  obtain ⟨c, h2, k⟩ := bindI k
  obtain ⟨q', e2⟩ := name_of h2
  obtain ⟨a, h3, k⟩ := bindI k
  obtain ⟨c', h4, k⟩ := bindI k
  obtain ⟨kk, pp, e3⟩ := cst_of h4
  obtain ⟨hc, k'⟩ := onlyIf_some k
  have a1 := and2 hc
  have a2 := and2 a1.1
  have a3 := and2 a2.1
  have a4 := and2 a3.1
  have a5 := and2 a4.1
  obtain ⟨F, _, hr⟩ := Y.C.cls c a2.2
  obtain ⟨m, e4⟩ := strC_some a4.2
  have e2 : g = .Name c q' := e2
  have e5 : as = [a] := one_of h3 a5.1
  have e6 : ks = [] := nil1 a5.2
  have e7 : [MS.rai c] = ms := Option.some.inj k'
  rw [e1, e2, e5, e3, e4, e6, ← e7]
  exact sok_one (sok_rai Y.FO Y.C Y.T a3.2 (bne1 a1.2) hr)

theorem cs_hd (C : CcOk G cx cc) {f : List Stmt → Option (List MS)} (hb : ∀ b ms, f b = some ms → ∀ e, SSOK G (cx.mkd e) t.inH b ms) : ∀ {hs : List ExceptHandler} {mhs : List (Str × Option Nat × List MS)}, compHs cc f hs = some mhs → AllH (HOK G cx t cc) hs mhs
  | [], mhs, h => by cases h; exact .nil
  | .ExceptHandler ty nm body p :: hs, mhs, h => by
    obtain ⟨m, r, h1, h2, rfl⟩ := ok2_some (show ok2 (cHt cc f ty nm body) (compHs cc f hs) (· :: ·) = some mhs from h)
    refine .cons ?_ (cs_hd C hb h2)
    cases ty with
    | none => cases h1
    | some e =>
      obtain ⟨c, hc', k⟩ := bindI (show (nameOf e).bind _ = some m from h1)
      obtain ⟨q, rfl⟩ := name_of hc'
      obtain ⟨hc, k⟩ := onlyIf_some k
      obtain ⟨hc, _⟩ := and2 hc
      obtain ⟨hc, hn⟩ := and2 hc
      obtain ⟨hg, hd⟩ := and2 hc
      obtain ⟨sl, b, g1, g2, rfl⟩ := ok2_some k
      cases body with
      | nil => cases hn
      | cons b0 body =>
        refine ⟨q, nm, b0, body, p, rfl, hg, bne1 hd, ?_, hb _ _ g2⟩
        cases nm with
        | none => cases g1; exact trivial
        | some x =>
          obtain ⟨hx, g1⟩ := onlyIf_some (show onlyIf _ _ = some sl from g1)
          obtain ⟨i, hi, rfl⟩ := Option.map_eq_some_iff.mp g1
          obtain ⟨h1, _⟩ := slot_at C hi
          refine ⟨h1, ?_⟩
          rcases C.kinds x _ (eq_of_beq (and2 hx).2) with z | ⟨z, _⟩
          · exact z
          · cases z

theorem cs_names (C : CcOk G cx cc) : ∀ (ts : List Expr) (is : List Nat), mapMO (fun t => (nameOf t).bind fun x => onlyIf (!cc.mv.contains x) (cc.slotOf x)) ts = some is → ts.length = is.length ∧
    ∀ (j : Nat) (e : Expr) (i : Nat), ts[j]? = some e → is[j]? = some i → ∃ x p, e = Expr.Name x p ∧ cx.Γ[i]? = some (some x) := by
  intro ts
  induction ts with
  | nil => intro is h; cases h; exact ⟨rfl, fun j e i h => by simp at h⟩
  | cons e ts ih =>
    intro is h
    obtain ⟨y, hy, h⟩ := bindI h
    obtain ⟨ys, hys, rfl⟩ := Option.map_eq_some_iff.mp h
    obtain ⟨l, r⟩ := ih _ hys
    refine ⟨by rw [List.length_cons, List.length_cons, l], fun j e' i q1 q2 => ?_⟩
    cases j with
    | zero =>
      cases q1
      cases q2
      obtain ⟨x, hx, hy⟩ := bindI hy
      obtain ⟨q, rfl⟩ := name_of hx
      exact ⟨_, _, rfl, (slot_at C (onlyIf_some hy).2).1⟩
    | succ j => exact r j e' i q1 q2

theorem cs_asgP (Y : SCx G cx t cc f) {x : Str} {e : Expr} {q : Pos} (h : cAsgP cc f x e = some ms) : SOK G cx t (.Assign [.Name x q] e p) ms := by
  obtain ⟨i, a, fs, hi, ha, hf, rfl⟩ := ok3_some h
  obtain ⟨n, rfl⟩ := Y.E
  exact sok_frz Y.FO (frzs_all hf) (sok_name Y.FO Y.C Y.T (slot_at Y.C hi).1 ha _)
theorem cs_asg (Y : SCx G cx t cc f) {e tg : Expr} (h : cAsg cc f e tg = some ms) : SOK G cx t (.Assign [tg] e p) ms := by
  unfold cAsg at h
  cases hn : nameOf tg with
  | some x =>
    rw [hn] at h
    obtain ⟨q, rfl⟩ := name_of hn
    exact cs_asgP Y h
  | none =>
    rw [hn] at h
    cases ht : asTup tg with
    | some ts =>
      rw [ht] at h
      obtain ⟨_, _, rfl⟩ := tup_of ht
      obtain ⟨hd, k⟩ := onlyIf_some h
      obtain ⟨is, a, his, ha, rfl⟩ := ok2_some k
      obtain ⟨l, r⟩ := cs_names Y.C _ _ his
      exact sok_one (sok_unp Y.FO Y.T (Y.good ha).1 (not1 hd) l r)
    | none =>
      rw [ht] at h
      cases hta : asAttr tg with
      | some q =>
        rw [hta] at h
        obtain ⟨o, m, q'⟩ := q
        have := attr_of hta
        subst this
        obtain ⟨a, ha, rfl⟩ := Option.map_eq_some_iff.mp h
        exact sok_one (sok_sat Y.FO (Y.good ha).1 noSwapAttr)
      | none =>
      rw [hta] at h
      obtain ⟨⟨o, k⟩, h1, h2⟩ := bindI h
      obtain ⟨_, rfl⟩ := subs_of h1
      obtain ⟨x, h3, h2⟩ := bindI h2
      obtain ⟨_, rfl⟩ := name_of h3
      obtain ⟨_, h2⟩ := onlyIf_some h2
      obtain ⟨i, b, a, fs, hi, hb, ha, hf, rfl⟩ := ok4_some h2
      obtain ⟨_, z2, z3, z4⟩ := slot_at Y.C hi
      exact sok_frz Y.FO (frzs_all hf) (sok_sto Y.FO Y.C z3 z4 (Y.notCd z2) z2 (Y.good hb).1 (Y.good ha).1 noSwapSub)

theorem cs_exp0 (Y : SCx G cx t cc f) {e : Expr} (h : cExp0 f e = some ms) : SOK G cx t (.Expr e p) ms := by
  obtain ⟨hc, k⟩ := onlyIf_some h
  obtain ⟨a, ha, rfl⟩ := Option.map_eq_some_iff.mp k
  obtain ⟨⟨g, as, ks⟩, hc⟩ := Option.isSome_iff_exists.mp hc
  obtain ⟨q, rfl⟩ := call_of hc
  refine sok_one (sok_ex Y.FO (Y.good ha).1 ?_)
  unfold interactive
  rw [Y.FO.ok.kind]; rfl
theorem cs_app (Y : SCx G cx t cc f) {x m : Str} {args : List Expr} {p1 ap cp : Pos} (hl : (ap.endLine == cp.line) = true) (h : cApp cc f x m args = some ms) : SOK G cx t (.Expr (.Call (.Attribute (.Name x p1) m ap) args [] cp) p) ms := by
  obtain ⟨e, h1, k⟩ := bindI h
  obtain ⟨hc0, k'⟩ := onlyIf_some k
  obtain ⟨hc1, _⟩ := and2 hc0
  obtain ⟨hc2, hm⟩ := and2 hc1
  obtain ⟨i, a, fs, hi, ha, hf, rfl⟩ := ok3_some k'
  have hm := eq_of_beq hm
  subst hm
  obtain ⟨_, h2, h3, h4⟩ := slot_at Y.C hi
  cases args with
  | nil => cases h1
  | cons e' r =>
    cases h1
    cases nil1 hc2
    refine sok_frz Y.FO (frzs_all hf) (sok_app Y.FO Y.C h3 h4 (Y.notCd h2) h2 hl ⟨(Y.good ha).1, (Y.good ha).2.2⟩ ?_)
    unfold interactive
    rw [Y.FO.ok.kind]; rfl
theorem cs_meth0 (Y : SCx G cx t cc f) {x m : Str} {args : List Expr} {p1 ap cp : Pos} (hl : (ap.endLine == cp.line) = true) (h : cMeth0 cc f x m args = some ms) : SOK G cx t (.Expr (.Call (.Attribute (.Name x p1) m ap) args [] cp) p) ms := cs_app Y hl h
theorem cs_meth (Y : SCx G cx t cc f) {x m : Str} {args : List Expr} {p1 ap cp : Pos} (hl : (ap.endLine == cp.line) = true) (h : cMeth cc f x m args = some ms) : SOK G cx t (.Expr (.Call (.Attribute (.Name x p1) m ap) args [] cp) p) ms := cs_meth0 Y hl h
theorem cs_exp (Y : SCx G cx t cc f) {e : Expr} (h : cExp cc f e = some ms) : SOK G cx t (.Expr e p) ms := by
  unfold cExp at h
  cases hm : mCall e with
  | none => rw [hm] at h; exact cs_exp0 Y h
  | some q =>
    rw [hm] at h
    obtain ⟨p1, ap, cp, rfl, hl⟩ := mCall_inv hm
    exact cs_meth Y hl h
end

theorem compS_ok {cc : CC} (n : Nat) : ∀ {cx : Cx} {t : Th}, FOk G cx → CcOk G cx cc → ThOk G cx t → idx cc.Γ (Str.ofString "__classdict__") = none →
    (∀ (st : Stmt) (ms : List MS), compS n cc st = some ms → SOK G cx t st ms) ∧ (∀ (sts : List Stmt) (ms : List MS), compSs (compS n cc) sts = some ms → SSOK G cx t sts ms) := by
  have lists : ∀ {cx : Cx} {t : Th} (_ : FOk G cx) n, (∀ (st : Stmt) (ms : List MS), compS n cc st = some ms → SOK G cx t st ms) → ∀ (sts : List Stmt) (ms : List MS), compSs (compS n cc) sts = some ms → SSOK G cx t sts ms := by
    intro cx t FO n h sts
    induction sts with
    | nil => intro ms e; cases e; exact ssok_nil
    | cons st sts ih =>
      intro ms e
      cases ha : compS n cc st with
      | some a =>
        rw [compSs_some ha] at e
        obtain ⟨b, hb, rfl⟩ := Option.map_eq_some_iff.mp e
        exact ssok_cons FO (h _ _ ha) (ih _ hb)
      | none =>
        rw [compSs_none ha] at e
        cases e
        exact fun ρ vals s N K R X S F hw => hw.elim
  induction n with
  | zero =>
    intro cx t FO C T hcd
    have : ∀ (st : Stmt) (ms : List MS), compS 0 cc st = some ms → SOK G cx t st ms := fun st ms h => nomatch (show (none : Option (List MS)) = some ms from h)
    exact ⟨this, lists FO 0 this⟩
  | succ n ih =>
    intro cx t FO C T hcd
    have ihs := (ih FO C T hcd).2
    have Y : SCx G cx t cc (compE n cc) := ⟨FO, C, T, hcd, n, rfl⟩
    suffices h : ∀ (st : Stmt) (ms : List MS), compS (n + 1) cc st = some ms → SOK G cx t st ms from ⟨h, lists FO (n + 1) h⟩
    intro st ms h
    cases st with
    | Pass p => cases h; exact sok_one sok_pas
    | Break p => cases h; exact sok_one sok_brk
    | Return o p => cases o with
      | none => exact nomatch (show (none : Option (List MS)) = some ms from h)
      | some e => exact cs_ret Y h
    | Raise o c p =>
      obtain ⟨hc, h⟩ := onlyIf_some (show onlyIf c.isNone (o.bind (cRai cc)) = some ms from h)
      cases c with
      | some _ => cases hc
      | none => cases o with
        | none => exact nomatch (show (none : Option (List MS)) = some ms from h)
        | some e => exact cs_rai Y h
    | Assign ts e p => cases ts with
      | nil => exact nomatch (show (none : Option (List MS)) = some ms from h)
      | cons tg r =>
        obtain ⟨hr, k⟩ := onlyIf_some (show onlyIf r.isEmpty (cAsg cc (compE n cc) e tg) = some ms from h)
        cases nil1 hr
        exact cs_asg Y k
    | Expr e p => exact cs_exp Y h
    | If c a b p =>
      obtain ⟨c', a', b', hc, ha, hb, rfl⟩ := ok3_some (show ok3 (compE n cc c) (compSs (compS n cc) a) (compSs (compS n cc) b) _ = some ms from h)
      exact sok_one (sok_ite FO (Y.good hc).2.1 (ihs _ _ ha) (ihs _ _ hb))
    | For x it b o p =>
      obtain ⟨x', hx, k⟩ := bindI (show (nameOf x).bind _ = some ms from h)
      obtain ⟨q, rfl⟩ := name_of hx
      obtain ⟨ho, k'⟩ := onlyIf_some k
      obtain ⟨ho, _⟩ := and2 ho
      obtain ⟨ho, hio⟩ := and2 ho
      cases nil1 ho
      obtain ⟨i, a, b', fs, hi, ha, hb, hf, rfl⟩ := ok4_some k'
      refine sok_frz FO (frzs_all hf) (sok_for FO T (slot_at C hi).1 (Y.good ha).1 ?_ (ihs _ _ hb))
      intro es k p q
      subst q
      cases hio
    | Try b hs o fi p =>
      obtain ⟨ho, k⟩ := onlyIf_some (show onlyIf (o.isEmpty && fi.isEmpty && !hs.isEmpty) (ok2 (compSs (compS n cc) b) (compHs cc (compSs (compS n cc)) hs) _) = some ms from h)
      obtain ⟨ho, hne⟩ := and2 ho
      cases nil1 (and2 ho).1
      cases nil1 (and2 ho).2
      obtain ⟨b', hs', hb, hh, rfl⟩ := ok2_some k
      refine sok_one (sok_tri FO C T (ihs _ _ hb) (cs_hd C (fun b ms q e => (ih (FO.mkd e) (C.mkd e) (T.mkd e) hcd).2 b ms q) hh) fun q => ?_)
      subst q
      cases hne
    | _ => exact nomatch (show (none : Option (List MS)) = some ms from h)
end
noncomputable def CompK (gt : GT) (ps : List Str) (sc : Scope) (body : List Stmt) (ms : List MS) : Prop := ∀ (G : Gd) (cx : Cx) (t : Th), FOk G cx → CcOk G cx (ccOf gt ps sc body) → ThOk G cx t → idx (ccOf gt ps sc body).Γ (Str.ofString "__classdict__") = none → SSOK G cx t body ms
theorem compK_of {gt : GT} {ps : List Str} {sc : Scope} {body : List Stmt} {ms : List MS} (h : compF gt ps sc body = some ms) : CompK gt ps sc body ms := fun _ _ _ FO C T c => (compS_ok 40 FO C T c).2 body ms h
end Mine

namespace Mine
open PySem PyProof.Rows PySem.W
end Mine

namespace Mine
open PySem PyProof.Rows PySem.W

structure GtOk (G : Gd) (gt : GT) : Prop where
  fns : ∀ f, gt.fns.contains f = true → ∃ a, G.mg f = some (.ref a) ∧ Callee G a
  bis : ∀ f, gt.bis.contains f = true → ∃ F, BiAt G f F
  cls : ∀ f, gt.cls.contains f = true → ∃ F, NameAt G f F ∧ Raisable G f

structure ThG (G : Gd) (d : Nat) (t : Th) : Prop where
  data : ∀ n v, t.data n = some v → ∃ x, G.mg n = some x ∧ VR G (fun a => G.base.get? a = none) G.base v x
  call : ∀ f args Q X, t.call f args Q X → SemCall G d t.loops f args Q X
  callH : ∀ f args Q X, t.callH f args Q X → SemCall G d false f args Q X
  bis : BiOk G t.bis
  isi : ∀ v f b, isinst t v f = some b → BiAt G (Str.ofString "isinstance") (.builtin "isinstance") ∧ ∃ F, NameAt G f F ∧
    ∀ (A : Around) (s : Shared) (x : Value) (E : Value → Shared → Prop), A.units + 20 < cLine → Kp G.base G.base s.heap → VR G (fun _ => False) s.heap v x →
      wpAny (model G.prog G.w) A (PySem.call (.builtin "isinstance") [x, F]) (fun r s' => r = .bool b ∧ Ext G s s') E s
  sub : SubOk G t
  lbis : LBiOk G t.lbis
theorem ThG.ok {G : Gd} {d : Nat} {t : Th} {cx : Cx} (h : ThG G d t) (hd : cx.d = d) (hl : t.loops = true → cx.A.handled = none) : ThOk G cx t :=
  ⟨h.data, fun f a Q X q => hd ▸ h.call f a Q X q, fun f a Q X q => hd ▸ h.callH f a Q X q, hl, h.bis, h.isi, h.sub, h.lbis⟩

inductive FnAt (G : Gd) (a : Addr) (ps : List Str) (sc : Scope) (body : List Stmt) : Prop
  | mk (o : Obj) (fd : FuncData) (g2 : G.base.get? a = some o) (g3 : o.data = .func fd) (g4 : fd.body = .stmts body) (g5 : fd.scope = sc) (g6 : fd.globals = mainGlobals) (g7 : fd.builtins = builtinsNs) (g8 : fd.closure = []) (g9 : G.base.CodeRec fd.code fd.qualname)
    (g10 : ∀ xs : List Value, xs.length = ps.length → bindArgs fd ⟨xs, []⟩ = pure (ps.zip xs)) : FnAt G a ps sc body

noncomputable def fnCheck (gt : GT) (ps : List Str) (sc : Scope) (body : List Stmt) : Bool :=
  let cc := ccOf gt ps sc body
  sc.kind == .function && !sc.isGenerator && !sc.isCoroutine && (idx cc.Γ (Str.ofString "__classdict__")).isNone &&
  (cc.Γ.all fun o => match o with
    | some x => sc.names.lookup x == some .local || sc.names.lookup x == some .cell
    | none => false) &&
  decide (cc.Γ.Nodup)

theorem cells_lookup {x : Str} : ∀ (names : List (Str × NameKind)) (n : Nat) (acc : List (Str × Addr)), (x, NameKind.cell) ∈ names ∨ (acc.lookup x).isSome = true → ((cellsFrom n names acc).lookup x).isSome = true
  | [], _, acc, h => by
    unfold cellsFrom
    rcases h with h | h
    · simp at h
    · exact h
  | (y, k) :: r, n, acc, h => by
    unfold cellsFrom
    split
    · rename_i hk
      refine cells_lookup r _ _ ?_
      rcases h with h | h
      · rcases List.mem_cons.mp h with q | q
        · right; cases q; simp
        · exact .inl q
      · right
        rw [List.lookup_cons]
        split <;> simp_all
    · rename_i hk
      refine cells_lookup r _ _ ?_
      rcases h with h | h
      · rcases List.mem_cons.mp h with q | q
        · cases q; simp at hk
        · exact .inl q
      · exact .inr h

section
variable {G : Gd}

noncomputable def setV : Nat → List Value → Vals → Vals
  | _, [], v => v
  | i, x :: xs, v => setV (i + 1) xs (v.set i (some x))
theorem bind_params {cx : Cx} (FO : FOk G cx) {M : Model} {A : Around} {E : Value → Shared → Prop} (f : Str × Value → PUnit → Sem (ForInStep PUnit)) (hf : ∀ n v u, f (n, v) u = (do storeName cx.env n v; pure (.yield ⟨⟩))) :
    ∀ (ps : List Str) (xs : List Value) (as : List AV) (i : Nat) (ρ : Rho) (vals : Vals) (s : Shared) (Q : PUnit → Shared → Prop), ps.length = xs.length → (∀ (j : Nat) (p : Str), ps[j]? = some p → cx.Γ[i + j]? = some (some p)) →
      VRs G cx.bad s.heap as xs → (∀ r, ¬ Mu ρ vals r) → St G cx ρ vals s → Fr cx s.heap → (∀ vals' s', vals' = setV i xs vals → St G cx (setFrom i as ρ) vals' s' → Fr cx s'.heap → Q ⟨⟩ s') → wpAny M A (forIn (ps.zip xs) ⟨⟩ f) Q E s := by
  intro ps
  induction ps with
  | nil =>
    intro xs as i ρ vals s Q hl hΓ hv hm S F h
    have : xs = [] := List.length_eq_zero_iff.mp hl.symm
    subst this
    have : as = [] := List.length_eq_zero_iff.mp hv.length
    subst this
    rw [List.zip_nil_left, List.forIn_nil]
    exact wpAny_pure (h vals s rfl S F)
  | cons p ps ih =>
    intro xs as i ρ vals s Q hl hΓ hv hm S F h
    cases xs with
    | nil => simp at hl
    | cons x xs =>
    cases as with
    | nil => exact hv.elim
    | cons a as =>
    obtain ⟨v1, v2⟩ := hv
    rw [List.zip_cons_cons, List.forIn_cons, hf]
    have hi : cx.Γ[i]? = some (some p) := by simpa using hΓ 0 p rfl
    have nt := F.noTup FO
    refine wpAny_bind (wpAny_bind (store_ok FO S F hi fun h' tk k f1 f2 f3 va => wpAny_pure ?_))
    have hvm : VM G cx ρ vals s.heap h' .sh a x := VR.off (fun b q => by
      rcases q with q | q
      · exact (hm b q).elim
      · exact .inl q) _ _ (VR.kx k (fun b q => .inl q) nt _ _ v1)
    obtain ⟨S2, T2⟩ := S.upd (s' := { s with heap := h', toks := tk }) (m := .sh) (sm := .sh) FO F k rfl rfl f1 f2 va (List.getElem?_eq_some_iff.mp hi).1 hvm (.inl ⟨rfl, by simp⟩)
    refine ih xs as (i + 1) _ _ _ Q (by simpa using hl) (fun j q hj => by rw [show i + 1 + j = i + (j + 1) by (first | lia | omega)]; exact hΓ (j + 1) q (by simpa using hj)) (VRs.kx k (fun b q => .inl q) nt _ _ v2) (fun r q => ?_) S2 f3 fun vals' s' e S' F' => h vals' s' e S' F'
    rcases mu_set q with z | z
    · exact z.elim
    · exact hm r z

theorem enter {gt : GT} {a : Addr} {ps : List Str} {sc : Scope} {body : List Stmt} {d : Nat} {args : List AV} {A : Around} {fr : List Env} {s : Shared} {xs : List Value} {R : Result → Shared → Prop} (Fn : FnAt G a ps sc body) (gok : GtOk G gt) (hchk : fnCheck gt ps sc body = true) (hlen : args.length = ps.length)
    (hfr : A.frames = some fr) (hroom : A.depth + (d + 1) < recursionLimit) (hunits : A.units + 10 * (d + 1) + 20 < cLine) (hbase : Kp G.base G.base s.heap) (hff : s.heap.FunFrames G.base fr) (hfs : FsOk s.heap fr) (hgens : s.gens = G.gens) (hos : s.os = G.os) (hargs : VRs G (fun _ => False) s.heap args xs)
    (h : ∀ (cx : Cx) (s2 : Shared), cx.A = A.deeper cx.env → cx.d = d → cx.h0 = s.heap → cx.fr = cx.env :: fr → FOk G cx → CcOk G cx (ccOf gt ps sc body) → idx (ccOf gt ps sc body).Γ (Str.ofString "__classdict__") = none →
      St G cx (rho0 (ccOf gt ps sc body).Γ.length args) (setV 0 xs (List.replicate (ccOf gt ps sc body).Γ.length none)) s2 → Fr cx s2.heap →
      wpAny (model G.prog G.w) cx.A (execs body cx.env) (fun f s' => R (.ok (.ret (match f with | .ret v => v | _ => .none))) s') (fun e s' => wpAny (model G.prog G.w) cx.A (leaving cx.env e) (fun _ s'' => R (.error e) s'') (fun e' s'' => R (.error e') s'') s') s2) :
    codeAny (model G.prog G.w) A (.call (.ref a) ⟨xs, []⟩) R s := by
  obtain ⟨o, fd, g2, g3, g4, g5, g6, g7, g8, g9, g10⟩ := Fn
  subst g5
  unfold fnCheck at hchk
  simp only [Bool.and_eq_true, beq_iff_eq, Bool.not_eq_true', List.all_eq_true, decide_eq_true_eq, Option.isNone_iff_eq_none] at hchk
  obtain ⟨⟨⟨⟨⟨c1, c2⟩, c3⟩, c4⟩, c5⟩, c6⟩ := hchk
  generalize hcc : ccOf gt ps fd.scope body = cc at *
  have hxs : xs.length = ps.length := by rw [← hargs.length]; exact hlen
  have stays : G.base.StaysIn s.heap := fun b o e => (hbase.kp b o e).1 (.inr (by rw [e]; rfl))
  have hcd : s.heap.CodeRec fd.code fd.qualname := g9.keeps stays
  refine codeAny_call_function (by (first | lia | omega)) (stays _ _ g2) g3 c3 c2 g4 hcd ?_
  rw [g10 xs hxs, g8]
  refine wpAny_pure ?_
  simp only [newFunctionEnv, Option.isSome_none, Bool.false_eq_true, if_false]
  refine wpAny_bind (wpAny_alloc ?_)
  refine wpAny_bind (wpAny_layCells _ (fun name kind cells => by cases hkc : kind == NameKind.cell <;> simp [hkc]) _ _ _ _ ?_)
  have cok := cellsFrom_ok fd.scope.names (s.heap.push { cls := .type "frame", data := .dict #[] }) (s.heap.objs.size + 1) [] ⟨fun _ _ hm => (nomatch hm), List.Pairwise.nil⟩ (by rw [Heap.size_push]; exact Nat.le_refl _)
  rw [Heap.size_push] at cok
  rw [show ({ s with heap := s.heap.push { cls := .type "frame", data := .dict #[] } } : Shared).heap.objs.size = s.heap.objs.size + 1 from Heap.size_push ..]
  generalize hL : s.heap.objs.size = L at *
  generalize hcs : cellsFrom (L + 1) fd.scope.names [] = cs at *
  let env : Env := newEnv fd.scope L fd.globals cs (fd.qualname ++ ".<locals>.") (some a) fd.code none fd.builtins
  let cx : Cx := { A := A.deeper env, env := env, fr := env :: fr, h0 := s.heap, Γ := cc.Γ, bad := fun b => b = L ∨ ∃ x, cs.lookup x = some b, d := d }
  have nL : s.heap.get? L = none := by rw [← hL]; exact get?_none_of_ge (Nat.le_refl _)
  have nge : ∀ b, L ≤ b → s.heap.get? b = none := fun b hb => get?_none_of_ge (by rw [hL]; exact hb)
  have ccell : ∀ x c, cs.lookup x = some c → L + 1 ≤ c := fun x c e => (cok.empty x c (mem_of_lookup e)).2
  have FO : FOk G cx := by
    refine ⟨⟨hbase, fun b hb => ?_, Around.frames_deeper hfr, c1, g6, g7, ?_, ?_, fun i j x hi hj => ?_, .inl rfl, env, fr, L, rfl, rfl, rfl⟩, ⟨fr, rfl, fun b hb => ?_⟩, rfl, fun b hb => hb, fun x c e => .inr ⟨x, e⟩, fun x y c e1 e2 => name_of_addr cok.apart (mem_of_lookup e1) (mem_of_lookup e2), fun x c e q => ?_, fun i x hi => ?_⟩
    · rcases hb with rfl | ⟨x, e⟩
      · exact nL
      · exact nge b (Nat.le_of_succ_le (ccell x b e))
    · show A.depth + 1 + d < _; (first | lia | omega)
    · show A.units + 3 + 10 * d + 20 < _; (first | lia | omega)
    · have hl := (List.getElem?_eq_some_iff.mp hi).1
      exact (List.getElem?_inj hl c6).mp (hi.trans hj.symm)
    · obtain ⟨o, e, _⟩ := hfs b hb; show (s.heap.get? b).isSome = true; rw [e]; rfl
    · have := ccell x c e
      rw [q] at this
      exact Nat.lt_irrefl _ this
    · have := c5 (some x) (List.mem_of_getElem? hi)
      simp only [Bool.or_eq_true, beq_iff_eq] at this
      rcases this with h | h
      · exact .inl h
      · refine .inr ⟨h, ?_⟩
        have := cells_lookup fd.scope.names (L + 1) [] (.inl (mem_of_lookup h))
        rw [hcs] at this
        exact Option.isSome_iff_exists.mp this
  have ns1 : (pushCells (s.heap.push { cls := .type "frame", data := .dict #[] }) fd.scope.names).Ns L (fun _ => none) := by
    rw [← hL]; exact (Heap.Ns.new s.heap (.type "frame")).keeps (pushCells_keeps _ _)
  have frL : ∃ o, (pushCells (s.heap.push { cls := .type "frame", data := .dict #[] }) fd.scope.names).get? L = some o ∧ o.cls = .type "frame" ∧ ∀ vs, o.data ≠ .fields vs := by
    refine ⟨_, pushCells_keeps _ _ _ _ (by rw [← hL]; exact Heap.get?_push_size _ rfl), rfl, by simp⟩
  have keep1 : ∀ b o, s.heap.get? b = some o → (pushCells (s.heap.push { cls := .type "frame", data := .dict #[] }) fd.scope.names).get? b = some o := fun b o e => pushCells_keeps _ _ b o (Heap.get?_push_of_some _ e)
  have kp1 : Kp G.base s.heap (pushCells (s.heap.push { cls := .type "frame", data := .dict #[] }) fd.scope.names) := Kp.of_keeps keep1
  have bL : G.base.get? L = none := by
    cases q : G.base.get? L with
    | none => rfl
    | some o => exact (ex_none (hbase.kp L o q).2.2 nL).elim
  have F1 : Fr cx (pushCells (s.heap.push { cls := .type "frame", data := .dict #[] }) fd.scope.names) := ⟨⟨_, ns1⟩, fun x c e => ⟨none, (cok.empty x c (mem_of_lookup e)).1⟩⟩
  have S1 : St G cx (List.replicate cc.Γ.length none) (List.replicate cc.Γ.length none) { s with heap := pushCells (s.heap.push { cls := .type "frame", data := .dict #[] }) fd.scope.names } := by
    refine ⟨kp1.stays stays, ?_, fun b hb => ?_, kp1, hgens, hos, by simp [cx], by simp [cx], fun i x hi => ?_, fun i hi => ?_, fun i v m hi => ?_, fun i j v w m n r hi => ?_⟩
    · exact Heap.FunFrames.cons (by show fd.scope.kind ≠ _; rw [c1]; simp) rfl ns1 bL (kp1.funFrames hff)
    · rcases List.mem_cons.mp (show b ∈ L :: fr.filterMap (·.frame) from hb) with rfl | hb
      · exact frL
      · obtain ⟨o, e, c⟩ := hfs b hb; exact ⟨o, keep1 b o e, c⟩
    · have hn : (List.replicate cc.Γ.length (none : Option Value))[i]?.join = none := by
        rw [List.getElem?_replicate]; split <;> rfl
      rw [hn]
      unfold VarAt
      split
      · exact ⟨_, ns1, rfl⟩
      · rename_i hk
        rcases FO.kinds i x hi with h | ⟨_, c, h⟩
        · rw [h] at hk; cases hk
        · exact ⟨c, h, (cok.empty x c (mem_of_lookup h)).1⟩
      · rename_i hk
        rcases FO.kinds i x hi with h | ⟨_, c, h⟩
        · rw [h] at hk; cases hk
        · exact ⟨c, h, (cok.empty x c (mem_of_lookup h)).1⟩
      · trivial
    · trivial
    · rw [List.getElem?_replicate] at hi; split at hi <;> simp at hi
    · rw [List.getElem?_replicate] at hi; split at hi <;> simp at hi
  have hpar : ∀ (j : Nat) (p : Str), ps[j]? = some p → cx.Γ[0 + j]? = some (some p) := fun j p hj => by
    show cc.Γ[0 + j]? = _
    rw [← hcc]
    show (ps.map some ++ _)[0 + j]? = _
    rw [Nat.zero_add, List.getElem?_append_left (by simpa using (List.getElem?_eq_some_iff.mp hj).1), List.getElem?_map, hj]; rfl
  have hargs1 : VRs G cx.bad (pushCells (s.heap.push { cls := .type "frame", data := .dict #[] }) fd.scope.names) args xs := VRs.kp kp1 _ _ (VRs.off (fun b q => .inr (FO.ok.badGe b q)) _ _ hargs)
  refine wpAny_bind (bind_params (cx := cx) FO _ (fun _ _ _ => rfl) ps xs args 0 _ _ _ _ hxs.symm hpar hargs1 (fun r q => ?_) S1 F1 fun vals2 s2 ev S2 F2 => wpAny_pure ⟨?_, codeAny_func ?_⟩)
  · obtain ⟨i, w, m, e, _⟩ := q
    rw [List.getElem?_replicate] at e; split at e <;> simp at e
  · exact G.nolimit.keeps S2.stays
  · have C : CcOk G cx cc := by
      subst hcc
      refine ⟨gok.fns, gok.bis, gok.cls, rfl, fun x k h => .inl h, fun x h => ?_⟩
      have := cells_lookup fd.scope.names (L + 1) [] (.inl (mem_of_lookup h))
      rw [hcs] at this
      exact Option.isSome_iff_exists.mp this
    subst ev
    exact h cx s2 rfl rfl rfl rfl FO C c4 S2 F2
theorem call_ok {gt : GT} {a : Addr} {ps : List Str} {sc : Scope} {body : List Stmt} {ms : List MS} {d : Nat} {t : Th} {args : List AV} {Q : AV → Md → Prop} {X : Str → Prop} (Fn : FnAt G a ps sc body) (gok : GtOk G gt) (hcomp : CompK gt ps sc body ms) (hchk : fnCheck gt ps sc body = true)
    (ht : ThG G d t) (hlen : args.length = ps.length) (hw : wpSs t ms (rho0 (ccOf gt ps sc body).Γ.length args) (fun _ => Q .none .fr) (fun _ => False) Q (fun _ c => X c)) : SemAt G (d + 1) t.loops a args Q X := by
  intro A fr s xs hfr hroom hunits hhd hbase hff hfs hgens hos hargs
  refine enter Fn gok hchk hlen hfr hroom hunits hbase hff hfs hgens hos hargs fun cx s2 eA ed e0 efr FO C c4 S2 F2 => ?_
  have T : ThOk G cx t := ht.ok ed fun h => by rw [eA]; exact hhd h
  have main := hcomp G cx t FO C T c4
  refine wpAny_mono (main _ _ s2 _ _ _ _ S2 F2 hw) (fun fl s3 h3 => ?_) fun e s3 h3 => ?_
  · cases fl with
    | next =>
      obtain ⟨ρ3, vals3, q, S3, _, _⟩ := h3
      have k := S3.ent
      rw [e0] at k
      exact ⟨.none, .fr, q, ⟨k, S3.gens.trans hgens.symm, S3.os.trans hos.symm⟩, rfl⟩
    | brk => obtain ⟨_, _, q, _⟩ := h3; exact q.elim
    | cont => exact h3.elim
    | ret v =>
      obtain ⟨av, m, q, k, e1, e2, _, rm⟩ := h3
      have rm := rm.rm
      rw [e0] at k rm
      exact ⟨av, m, q, ⟨k, e1.trans hgens.symm, e2.trans hos.symm⟩, rm⟩
  · obtain ⟨ρ', vals', p, c, hX, Sp, Fp, Tp, x⟩ := h3
    have k := Sp.ent
    rw [e0] at k
    have E1 : Ext G s p := ⟨k, Sp.gens.trans hgens.symm, Sp.os.trans hos.symm⟩
    obtain ⟨ea, rfl, E2, exc⟩ := x.pre E1
    have S3 := Sp.ext ⟨(by obtain ⟨_, _, E', _⟩ := x; exact E'.1), (by obtain ⟨_, _, E', _⟩ := x; exact E'.2.1), (by obtain ⟨_, _, E', _⟩ := x; exact E'.2.2)⟩
    exact leaving_ok (p := s) (by rw [FO.ok.frames, efr]) (by rw [← efr]; exact S3.frames) (by rw [← efr]; exact S3.fsok) FO.frame E2.1 exc fun h' k' x' => ⟨c, hX, ea, rfl, ⟨k', E2.2.1, E2.2.2⟩, x'.ok⟩
end
end Mine

namespace Mine
open PySem PyProof.Rows PySem.W

noncomputable def NoG (G : Gd) (l : List Str) : Prop := ∀ f ∈ l, G.mg f = none

section
variable {G : Gd}
theorem top_small {n : Nat} (h : n ≤ top) : (n : Int) < 2 ^ 63 := by have : top = 16777216 := rfl; (first | lia | omega)

theorem list_copy {A : Around} {cx : Cx} {ρ : Rho} {vals : Vals} {s0 s : Shared} {E : Value → Shared → Prop} {a : Addr} {o : Obj} {xs : List AV} {vs : List Value} {v : AV} {m : Md} {n : Nat} {T : String} (S : St G cx ρ vals s0) (Bd : BadLt cx s0) (X : Ext G s0 s) (hv : v = .lst xs ∨ v = .tup xs) (hT : T = "list" ∨ T = "tuple") (ho : s.heap.get? a = some o) (hc : o.cls = .type T) (hd : o.data = .seq vs.toArray n)
    (z : xs.length ≤ top) (r : VRs G (elS cx ρ vals m) s.heap xs vs) :
    wpAny (model G.prog G.w) A (PySem.call (.type "list") [.ref a]) (fun v' s' => Ext G s s' ∧ VM G cx ρ vals s0.heap s'.heap (cpMd v m) (.lst xs) v') E s := by
  have hl := r.length
  refine call_list_seq a hT ho hc hd (fun h' c' keeps hnew => ?_) (by rw [← top_line, List.size_toArray, ← hl]; exact z)
  have kp : Kp G.base s.heap h' := Kp.of_keeps keeps
  have nS := fresh_size X
  refine ⟨Ext.heap (t := s.toks) kp, ?_⟩
  unfold cpMd
  by_cases hf : frE m v = true
  · rw [if_pos hf]
    refine ⟨_, rfl, nS, z, vs, ⟨_, hnew⟩, VRs.kp kp _ _ (VRs.off (fun b q => ?_) _ _ (elS_fr hv hf r))⟩
    rcases q with q | q
    · exact .inl q
    · exact .inr (by rw [q]; exact get?_none_of_ge (Nat.le_refl _))
  · rw [if_neg hf]
    exact ⟨z, _, vs, rfl, not_sS_size S Bd nS, .of ⟨_, hnew⟩, VRs.kp kp _ _ (elS_sh r)⟩

noncomputable def BiOk1 (G : Gd) (F : Value) (g : List (AV × Md) → Option (AV × Md)) : Prop := ∀ vs r, g vs = some r → ∀ (A : Around) (cx : Cx) (ρ : Rho) (vals : Vals) (s0 s : Shared) (xs : List Value) (E : Value → Shared → Prop), A.units + 20 < cLine → cx.Ok G →
    St G cx ρ vals s0 → BadLt cx s0 → Ext G s0 s → VMs G cx ρ vals s0.heap s.heap vs xs →
    wpAny (model G.prog G.w) A (call F xs) (fun v s' => Ext G s s' ∧ VM G cx ρ vals s0.heap s'.heap r.2 r.1 v) E s

theorem VMs.cons_inv {cx : Cx} {ρ : Rho} {vals : Vals} {pre h : Heap} {p : AV × Md} {ps : List (AV × Md)} {xs : List Value} (q : VMs G cx ρ vals pre h (p :: ps) xs) : ∃ x xs', xs = x :: xs' ∧ VM G cx ρ vals pre h p.2 p.1 x ∧ VMs G cx ρ vals pre h ps xs' := by
  cases xs with
  | nil => exact q.elim
  | cons x xs' => exact ⟨x, xs', rfl, q.1, q.2⟩
theorem VMs.nil_inv {cx : Cx} {ρ : Rho} {vals : Vals} {pre h : Heap} {xs : List Value} (q : VMs G cx ρ vals pre h [] xs) : xs = [] := by
  cases xs with
  | nil => rfl
  | cons x xs' => exact q.elim

theorem len_ok : BiOk1 G (.builtin "len") lenB := by
  intro vs r h A cx ρ vals s0 s xs E hu O S Bd X hv
  obtain ⟨v, m, rfl, h⟩ := one_some h
  obtain ⟨n, hn, rfl⟩ := Option.map_eq_some_iff.mp h
  obtain ⟨x, xs', rfl, hx, hv⟩ := hv.cons_inv
  cases hv.nil_inv
  cases v with
  | lst ys =>
    cases hn
    obtain ⟨a, ws, rfl, z1, l, q⟩ := hx.lst
    exact Calls.call_len_list l (by rw [List.size_toArray, ← q.length]; exact top_small z1) ⟨(Ext.toks ..), _, by rw [List.size_toArray, ← q.length]⟩
  | tup ys =>
    cases hn
    obtain ⟨a, ws, rfl, z1, l, q⟩ := hx.tup
    exact PyProof.Rows.len_tuple l (by rw [List.size_toArray, ← q.length]; exact top_small z1) ⟨(Ext.toks ..), _, by rw [List.size_toArray, ← q.length]⟩
  | str y =>
    cases hn
    obtain ⟨z1, _, u, rfl⟩ := hx.read
    exact len_str (by have := top_small z1; (first | lia | omega)) ⟨(Ext.toks ..), _, rfl⟩
  | _ => cases hn

theorem range_ok : BiOk1 G (.type "range") rangeF := by
  intro vs r h A cx ρ vals s0 s xs E hu O S Bd X hv
  cases vs with
  | nil => cases h
  | cons p l =>
    obtain ⟨x, xs', rfl, hx, hv1⟩ := hv.cons_inv
    obtain ⟨v, m⟩ := p
    cases l with
    | nil =>
      cases hv1.nil_inv
      obtain ⟨n, hn, h'⟩ := bindI h
      cases asInt_some hn
      split at h' <;> cases h'
      rename_i hb
      obtain ⟨u, rfl⟩ := hx.read
      exact call_range_1 ⟨Ext.heap (Kp.push ..), _, rfl, by decide, hb, _, _, _, IsRange.new ..⟩
    | cons q l =>
      obtain ⟨hl, h'⟩ := onlyIf_some h
      cases l with
      | cons _ _ => cases hl
      | nil =>
        obtain ⟨w, m'⟩ := q
        obtain ⟨y, xs'', rfl, hy, hv2⟩ := hv1.cons_inv
        cases hv2.nil_inv
        obtain ⟨i, j, h1, h2, h''⟩ := i2_some h'
        cases h1
        cases h2
        split at h'' <;> cases h''
        rename_i hb
        obtain ⟨u, rfl⟩ := hx.read
        obtain ⟨u', rfl⟩ := hy.read
        exact call_range_2 ⟨Ext.heap (Kp.push ..), _, rfl, hb.1, hb.2, _, _, _, IsRange.new ..⟩

theorem list_ok : BiOk1 G (.type "list") listB := by
  intro vs r h A cx ρ vals s0 s xs E hu O S Bd X hv
  obtain ⟨v, m, rfl, h⟩ := one_some h
  obtain ⟨n, hn, rfl⟩ := Option.map_eq_some_iff.mp h
  obtain ⟨x, xs', rfl, hx, hv⟩ := hv.cons_inv
  cases hv.nil_inv
  cases v with
  | lst ys =>
    cases hn
    obtain ⟨a, ws, rfl, z1, ⟨o, ho, hc, n, hd⟩, q⟩ := hx.lst
    exact list_copy S Bd X (.inl rfl) (.inl rfl) ho hc hd z1 q
  | tup ys =>
    cases hn
    obtain ⟨a, ws, rfl, z1, ⟨o, ho, hc, n, hd⟩, q⟩ := hx.tup
    exact list_copy S Bd X (.inr rfl) (.inr rfl) ho hc hd z1 q
  | _ => cases hn

theorem tuple_ok : BiOk1 G (.type "tuple") tupB := by
  intro vs r h A cx ρ vals s0 s xs E hu O S Bd X hv
  obtain ⟨v, m, rfl, h⟩ := one_some h
  obtain ⟨n, hn, rfl⟩ := Option.map_eq_some_iff.mp h
  obtain ⟨x, xs', rfl, hx, hv⟩ := hv.cons_inv
  cases hv.nil_inv
  have part : ∀ {ys : List AV} {ws : List Value}, (v = .lst ys ∨ v = .tup ys) → VRs G (elS cx ρ vals m) s.heap ys ws → if frE m v then VRs G (fS cx ρ vals) s.heap ys ws else VRs G (sS cx ρ vals) s.heap ys ws := fun hv q => by
    split
    · rename_i hf; exact elS_fr hv hf q
    · exact elS_sh q
  cases v with
  | lst ys =>
    cases hn
    obtain ⟨a, ws, rfl, z1, l, q⟩ := hx.lst
    refine call_tuple_list l (fun h' hk => ?_) (by rw [List.size_toArray, ← q.length, ← top_line]; exact z1)
    have k : Kp G.base s.heap (h'.push { cls := .type "tuple", data := .seq ws.toArray }) := (Kp.of_keeps hk).trans (Kp.push ..)
    exact ⟨Ext.heap (t := s.toks) k, VM.newT (s := s) z1 k ⟨_, Heap.get?_push_size _ rfl, rfl, _, rfl⟩ (part (.inl rfl) q)⟩
  | tup ys =>
    cases hn
    obtain ⟨a, ws, rfl, z1, l, q⟩ := hx.tup
    exact call_tuple_tup l ⟨Ext.refl .., VM.newT (s := s) z1 (Kp.refl ..) l (part (.inr rfl) q)⟩
  | _ => cases hn

theorem BiOk.nil : BiOk G (tabF []) := fun _ _ _ h => nomatch (show (none : Option (AV × Md)) = some _ from h)
theorem BiOk.cons {n : Str} {F : Value} {g : List (AV × Md) → Option (AV × Md)} {r : List (Str × (List (AV × Md) → Option (AV × Md)))} (h1 : BiAt G n F) (h2 : BiOk1 G F g) (h3 : BiOk G (tabF r)) : BiOk G (tabF ((n, g) :: r)) := fun f vs q h => by
  have h' : (if f = n then g vs else tabF r f vs) = some q := h
  by_cases e : f = n
  · subst e
    rw [if_pos rfl] at h'
    exact ⟨F, h1, h2 vs q h'⟩
  · rw [if_neg e] at h'
    exact h3 f vs q h'
theorem bis4_ok (ng : NoG G [B "len", B "range", B "list", B "tuple"]) : BiOk G (tabF bis4) :=
  .cons ⟨ng _ (.head _), by decide +kernel, by decide, .inr ⟨_, rfl⟩⟩ len_ok <| .cons ⟨ng _ (.tail _ (.head _)), by decide +kernel, by decide, .inl ⟨_, rfl⟩⟩ range_ok <|
  .cons ⟨ng _ (.tail _ (.tail _ (.head _))), by decide +kernel, by decide, .inl ⟨_, rfl⟩⟩ list_ok <| .cons ⟨ng _ (.tail _ (.tail _ (.tail _ (.head _)))), by decide +kernel, by decide, .inl ⟨_, rfl⟩⟩ tuple_ok .nil

noncomputable def LBiOk1 (G : Gd) (F : Value) (g : List (AV × Md) → Option (AV × Md)) : Prop := ∀ vs r, g vs = some r → ∀ (A : Around) (cx : Cx) (ρ : Rho) (vals : Vals) (s0 s : Shared) (xs : List Value) (E : Value → Shared → Prop), A.units + 20 < cLine → A.handled = none → cx.Ok G →
    St G cx ρ vals s0 → BadLt cx s0 → Ext G s0 s → VMs G cx ρ vals s0.heap s.heap vs xs →
    wpAny (model G.prog G.w) A (call F xs) (fun v s' => Ext G s s' ∧ VM G cx ρ vals s0.heap s'.heap r.2 r.1 v) E s
theorem LBiOk.nil : LBiOk G (tabF []) := fun _ _ _ h => nomatch (show (none : Option (AV × Md)) = some _ from h)
theorem LBiOk.cons {n : Str} {F : Value} {g : List (AV × Md) → Option (AV × Md)} {r : List (Str × (List (AV × Md) → Option (AV × Md)))} (h1 : BiAt G n F) (h2 : LBiOk1 G F g) (h3 : LBiOk G (tabF r)) : LBiOk G (tabF ((n, g) :: r)) := fun f vs q h => by
  have h' : (if f = n then g vs else tabF r f vs) = some q := h
  by_cases e : f = n
  · subst e
    rw [if_pos rfl] at h'
    exact ⟨F, h1, h2 vs q h'⟩
  · rw [if_neg e] at h'
    exact h3 f vs q h'

theorem boolsO_get : ∀ {xs : List AV} {bs : List Bool}, boolsO xs = some bs → xs.length = bs.length ∧ ∀ (i : Nat) (a : AV), xs[i]? = some a → ∃ b, bs[i]? = some b ∧ a = .bool b
  | [], bs, h => by cases h; exact ⟨rfl, fun i a q => by simp at q⟩
  | x :: xs, bs, h => by
    cases x with
    | bool b =>
      obtain ⟨bs', h', rfl⟩ := Option.map_eq_some_iff.mp h
      obtain ⟨l, g⟩ := boolsO_get h'
      refine ⟨by rw [List.length_cons, List.length_cons, l], fun i a q => ?_⟩
      cases i with
      | zero => cases q; exact ⟨b, rfl, rfl⟩
      | succ i => exact g i a q
    | _ => cases h

theorem walk_bools {A : Around} {cx : Cx} {ρ : Rho} {vals : Vals} {s0 s : Shared} {m : Md} {x : Value} {ys : List AV} {bs : List Bool} {E : Value → Shared → Prop} {Q : Bool → Shared → Prop} {f : List Nat → (Nat → Bool) → Bool} {g : Bool}
    (hh : A.handled = none) (hx : VM G cx ρ vals s0.heap s.heap m (.lst ys) x) (hb : boolsO ys = some bs)
    (hf : f (List.range ys.length) (fun i => (bs[i]?).getD true) = g) (hQ : ∀ s', Ext G s s' → Q g s') :
    wpAny (model G.prog G.w) A.in1 (pyIter x) (fun it s₂ => ∃ I fp wr n P St tr, it = .ref I ∧ Walks G.prog G.w A.in1 I fp wr n P St ∧ St 0 s₂.heap ∧ TruthOf G.prog G.w A.in1 P tr ∧
      ∀ h' tk, (∀ b o, b ∉ wr → s₂.heap.get? b = some o → h'.get? b = some o) → Q (f (List.range n) tr) { s₂ with heap := h', toks := tk }) E s := by
  obtain ⟨hl, hg⟩ := boolsO_get hb
  obtain ⟨l, vs, rfl, z, hL, r⟩ := hx.lst
  have hlen := r.length
  have hlt : l < s.heap.objs.size := by obtain ⟨_, e, _⟩ := hL; exact Heap.lt_size e
  refine wpAny_pyIter_list hL ?_
  refine ⟨s.heap.objs.size, [s.heap.objs.size, l], [s.heap.objs.size], vs.toArray.size, _, _, fun i => (bs[i]?).getD true, rfl, Walks.list (A := A.in1) hh _ l (Nat.ne_of_lt hlt) vs.toArray,
    ⟨⟨_, Heap.get?_push_size _ rfl, rfl, rfl⟩, hL.push _⟩, fun i v s' Q' E' hP hQ' => ?_, fun h' tk hk => ?_⟩
  · obtain ⟨a, ea, va⟩ := r.el_of hP
    obtain ⟨b, eb, rfl⟩ := hg i a ea
    have va : v = .bool b := va
    subst va
    have hQ' : Q' ((bs[i]?).getD true) s' := hQ'
    rw [eb] at hQ'
    exact wpAny_truthy_bool hQ'
  · rw [List.size_toArray, ← hlen, hf]
    refine hQ _ (Ext.heap (Kp.of_keeps fun b o e => hk b o (fun q => ?_) (Heap.get?_push_of_some _ e)))
    rw [List.mem_singleton.mp q] at e
    exact Nat.lt_irrefl _ (Heap.lt_size e)

theorem range_all (bs : List Bool) : (List.range bs.length).all (fun i => (bs[i]?).getD true) = bs.all id := by
  rw [Bool.eq_iff_iff, List.all_eq_true, List.all_eq_true]
  constructor
  · intro h b hb
    obtain ⟨i, hi, rfl⟩ := List.mem_iff_getElem.mp hb
    have := h i (List.mem_range.mpr hi)
    rwa [List.getElem?_eq_getElem hi] at this
  · intro h i hi
    have hi := List.mem_range.mp hi
    rw [List.getElem?_eq_getElem hi]
    exact h _ (List.getElem_mem hi)

theorem all_ok : LBiOk1 G (.builtin "all") allB := by
  intro vs r h A cx ρ vals s0 s xs E hu hh O S Bd X hv
  obtain ⟨v, m, rfl, h⟩ := one_some h
  obtain ⟨ys, hi, h⟩ := bindI h
  cases asLst_some hi
  obtain ⟨bs, hb, rfl⟩ := Option.map_eq_some_iff.mp h
  obtain ⟨x, xs', rfl, hx, hv'⟩ := hv.cons_inv
  cases hv'.nil_inv
  exact call_all_walk (walk_bools (Q := fun b s' => Ext G s s' ∧ VM G cx ρ vals s0.heap s'.heap .fr (.bool (bs.all id)) (.bool b)) (f := fun l t => l.all t) hh hx hb (by rw [(boolsO_get hb).1]; exact range_all bs) fun s' e => ⟨e, rfl⟩)

theorem kit_tys : ∀ T ∈ ["NoneType", "bool", "int", "str", "tuple", "list", "dict"], ∀ n ∈ tys, kitOne [] (.type T) (.type n) = some (T == n || (T == "bool" && n == "int")) := by decide +kernel
theorem boot_tys : ∀ n ∈ tys, bootBuiltins (B n) = some (.type n) ∧ B n ≠ "__name__" ∧ B n ∈ [B "bool", B "int", B "list", B "tuple", B "str"] := by decide +kernel

theorem vr_kit {S : Addr → Prop} {h : Heap} {v : AV} {x : Value} {T : String} (e : tyN v = some T) (q : VR G S h v x) : T ∈ ["NoneType", "bool", "int", "str", "tuple", "list", "dict"] ∧ x ≠ .builtin "__main__.__loader__#opaque" ∧ ∃ H, KitX [] x (.type T) H ∧ H h := by
  cases v with
  | none => cases e; cases q; exact ⟨by decide, nofun, _, kitx_none, trivial⟩
  | bool b => cases e; cases q; exact ⟨by decide, nofun, _, kitx_bool, trivial⟩
  | int i => cases e; obtain ⟨u, rfl⟩ := q; exact ⟨by decide, nofun, _, kitx_int, trivial⟩
  | str i => cases e; obtain ⟨_, _, u, rfl⟩ := q; exact ⟨by decide, nofun, _, kitx_str, trivial⟩
  | tup l => cases e; obtain ⟨_, a, vs, rfl, ⟨o, ho, hc, _⟩, _⟩ := q; exact ⟨by decide, nofun, _, kitx_tuple, o, ho, hc⟩
  | lst l => cases e; obtain ⟨_, a, vs, rfl, _, ⟨⟨o, ho, hc, _⟩, _⟩, _⟩ := q; exact ⟨by decide, nofun, _, kitx_list, o, ho, hc⟩
  | dic ks ws =>
    cases e
    obtain ⟨_, a, vs, rfl, _, ⟨_, ⟨kvs, _, _, hm⟩ | ⟨kvs, _, _, hm⟩⟩, _⟩ := q
    · obtain ⟨o, es, n, ho, ⟨hc, _⟩, _⟩ := hm; exact ⟨by decide, nofun, _, kitx_dict, o, ho, hc⟩
    · obtain ⟨o, es, n, ho, ⟨hc, _⟩, _⟩ := hm; exact ⟨by decide, nofun, _, kitx_dict, o, ho, hc⟩
  | _ => cases e

theorem ty_ok {f : Str} {v : AV} {b : Bool} (h : ty f v = some b) : ∃ F, bootBuiltins f = some F ∧ f ≠ "__name__" ∧ f ∈ [B "bool", B "int", B "list", B "tuple", B "str"] ∧ ∀ (A : Around) (s : Shared) (x : Value) (E : Value → Shared → Prop), VR G (fun _ => False) s.heap v x →
      wpAny (model G.prog G.w) A (PySem.call (.builtin "isinstance") [x, F]) (fun r s' => r = .bool b ∧ Ext G s s') E s := by
  obtain ⟨T, hT, h⟩ := bindI h
  obtain ⟨n, hn, rfl⟩ := Option.map_eq_some_iff.mp h
  have hf : f = B n := eq_of_beq (List.find?_some (p := fun n => f == B n) hn)
  subst hf
  have hm := List.mem_of_find?_eq_some hn
  obtain ⟨h1, h2, h3⟩ := boot_tys n hm
  refine ⟨.type n, h1, h2, h3, fun A s x E hv => ?_⟩
  obtain ⟨k1, k2, H, k3, k4⟩ := vr_kit hT hv
  exact kia_one k3 (fun _ _ q => nomatch q) k4 (kit_tys T k1 n hm) k2 fun tk => ⟨rfl, Ext.toks ..⟩

theorem isi_ok {t : Th} {v : AV} {f : Str} {b : Bool} (ng : NoG G [B "isinstance", B "bool", B "int", B "list", B "tuple", B "str"])
    (hex : ∀ c b, t.sub c f = some b → ∃ F, NameAt G f F ∧ ∀ (A : Around) (s : Shared) (x : Value) (E : Value → Shared → Prop), Kp G.base G.base s.heap → VR G (fun _ => False) s.heap (.exc c) x →
      wpAny (model G.prog G.w) A (PySem.call (.builtin "isinstance") [x, F]) (fun r s' => r = .bool b ∧ Ext G s s') E s)
    (h : isinst t v f = some b) : BiAt G (Str.ofString "isinstance") (.builtin "isinstance") ∧ ∃ F, NameAt G f F ∧
    ∀ (A : Around) (s : Shared) (x : Value) (E : Value → Shared → Prop), A.units + 20 < cLine → Kp G.base G.base s.heap → VR G (fun _ => False) s.heap v x →
      wpAny (model G.prog G.w) A (PySem.call (.builtin "isinstance") [x, F]) (fun r s' => r = .bool b ∧ Ext G s s') E s := by
  have hi : BiAt G (Str.ofString "isinstance") (.builtin "isinstance") := ⟨ng _ (by simp [B]), by decide +kernel, by decide, .inr ⟨_, rfl⟩⟩
  have plain : ty f v = some b → ∃ F, NameAt G f F ∧ ∀ (A : Around) (s : Shared) (x : Value) (E : Value → Shared → Prop), A.units + 20 < cLine → Kp G.base G.base s.heap → VR G (fun _ => False) s.heap v x →
      wpAny (model G.prog G.w) A (PySem.call (.builtin "isinstance") [x, F]) (fun r s' => r = .bool b ∧ Ext G s s') E s := fun h => by
    obtain ⟨F, h1, h2, h3, h4⟩ := ty_ok (G := G) h
    exact ⟨F, .inr ⟨ng f (List.mem_cons_of_mem _ h3), h1, h2⟩, fun A s x E _ _ hv => h4 A s x E hv⟩
  refine ⟨hi, ?_⟩
  cases v with
  | exc c =>
    obtain ⟨F, h1, h2⟩ := hex c b h
    exact ⟨F, h1, fun A s x E _ k hv => h2 A s x E k hv⟩
  | _ => exact plain h
end
end Mine

namespace Mine
open PySem PyProof.Rows PySem.W
section
variable {G : Gd}
theorem int_ok : BiOk1 G (.type "int") intB := by
  intro vs r h A cx ρ vals s0 s xs E hu O S Bd X hv
  obtain ⟨v, m, rfl, h⟩ := one_some h
  obtain ⟨x, xs', rfl, hx, hv⟩ := hv.cons_inv
  cases hv.nil_inv
  cases v with
  | bool b =>
    cases h
    cases hx.read
    exact call_int_bool ⟨Ext.toks .., _, rfl⟩
  | str y =>
    have h : (if 0 < y.length ∧ y.length ≤ 9 ∧ (sgs y).all (fun c => decide (48 ≤ c ∧ c ≤ 57)) = true then some (AV.int (valC (sgs y)), Md.fr) else none) = some r := h
    obtain ⟨_, _, u, rfl⟩ := hx.read
    by_cases c : 0 < y.length ∧ y.length ≤ 9 ∧ (sgs y).all (fun c => decide (48 ≤ c ∧ c ≤ 57)) = true
    · rw [if_pos c] at h
      cases h
      obtain ⟨c1, c2, c3⟩ := c
      have ne : y.cps.toList ≠ [] := fun z => by
        have : y.cps.toList.length = 0 := by rw [z]; rfl
        rw [Array.length_toList] at this
        exact absurd c1 (by show ¬ 0 < y.cps.size; omega)
      exact KIN.call_text (_root_.PySem.intText_digits (fun c hc => of_decide_eq_true (List.all_eq_true.mp c3 c hc)) ne (Nat.le_trans c2 (by decide))) (Nat.le_trans c2 (by decide)) ⟨Ext.toks .., _, rfl⟩
    · rw [if_neg c] at h; cases h
  | _ => cases h
theorem str_ok : BiOk1 G (.type "str") strB := by
  intro vs r h A cx ρ vals s0 s xs E hu O S Bd X hv
  obtain ⟨v, m, rfl, h⟩ := one_some h
  obtain ⟨x, xs', rfl, hx, hv⟩ := hv.cons_inv
  cases hv.nil_inv
  cases v with
  | int i =>
    have h : (if 0 ≤ i ∧ i < 100000 then some (AV.str (numT i), Md.fr) else none) = some r := h
    obtain ⟨u, rfl⟩ := hx.read
    by_cases c : 0 ≤ i ∧ i < 100000
    · rw [if_pos c] at h
      cases h
      obtain ⟨c1, c2⟩ := c
      exact P.str_of_int (log_small c1 c2) ⟨Ext.toks .., (numT_ok c1 c2).1, (numT_ok c1 c2).2, _, rfl⟩
    · rw [if_neg c] at h; cases h
  | _ => cases h
end
end Mine

namespace Mine
open PySem

noncomputable def subT (own : List Str) (c C : Str) : Option Bool :=
  if own.contains c then (if C = c ∨ C = B "SignalError" ∨ C = B "ValueError" then some true else if own.contains C then some false else none) else none

structure Bas0 (t : Th) : Prop where
  bln : ∀ vs, t.bis (B "len") vs = lenB vs
  brg : ∀ vs, t.bis (B "range") vs = rangeF vs
  bls : ∀ vs, t.bis (B "list") vs = listB vs
  btp : ∀ vs, t.bis (B "tuple") vs = tupB vs
structure Bas (t : Th) : Prop extends Bas0 t where
  loops : t.loops = true

section
variable {t : Th}

theorem Bas0.len (b : Bas0 t) (xs : List AV) (m : Md) (k : AV × Md → Prop) : need (t.bis (B "len") [(.lst xs, m)]) k ↔ k (.int xs.length, .fr) := by
  rw [b.bln]; exact need_some _ _
theorem Bas0.lent (b : Bas0 t) (xs : List AV) (m : Md) (k : AV × Md → Prop) : need (t.bis (B "len") [(.tup xs, m)]) k ↔ k (.int xs.length, .fr) := by
  rw [b.bln]; exact need_some _ _
theorem Bas0.range (b : Bas0 t) (n : Int) (m : Md) (k : AV × Md → Prop) (h : n.natAbs < 2 ^ 62) : need (t.bis (B "range") [(.int n, m)]) k ↔ k (.rng 0 n, .fr) := by
  rw [b.brg]
  have : rangeF [(.int n, m)] = some (.rng 0 n, .fr) := by
    show (if n.natAbs < 2 ^ 62 then some (AV.rng 0 n, Md.fr) else none) = _
    rw [if_pos h]
  rw [this]; exact need_some _ _


theorem eq_int (a b : Int) : cmpop .Eq (.int a) (.int b) = some (a == b) := rfl
theorem ne_int (a b : Int) : cmpop .NotEq (.int a) (.int b) = some (!(a == b)) := rfl
theorem gt_int (a b : Int) : cmpop .Gt (.int a) (.int b) = some (decide (b < a)) := rfl
theorem lt_int (a b : Int) : cmpop .Lt (.int a) (.int b) = some (decide (a < b)) := rfl
theorem ge_int (a b : Int) : cmpop .GtE (.int a) (.int b) = some (decide (b ≤ a)) := rfl
theorem add_int (a b : Int) : binop .Add (.int a) (.int b) = some (.int (a + b)) := rfl
theorem sub_int (a b : Int) : binop .Sub (.int a) (.int b) = some (.int (a - b)) := rfl
theorem mul_int (a b : Int) (h : a.natAbs < 2 ^ 64 ∨ b.natAbs < 2 ^ 64) : binop .Mult (.int a) (.int b) = some (.int (a * b)) := if_pos h
theorem mod_int (a b : Int) (h : b ≠ 0) : binop .Mod (.int a) (.int b) = some (.int (a.fmod b)) := if_pos h
theorem div_int (a b : Int) (h : b ≠ 0 ∧ b.natAbs < 1073741824) : binop .FloorDiv (.int a) (.int b) = some (.int (a.fdiv b)) := if_pos h
theorem md_int (op : Operator) (a b : AV) (ma mb : Md) (i : Int) : binMd op a ma b mb (.int i) = .fr := by cases op <;> rfl

theorem sub_lst (xs : List AV) (i : Nat) (v : AV) (h : xs[i]? = some v) : subs (.lst xs) (.int i) = some v := by
  have hl := (List.getElem?_eq_some_iff.mp h).1
  show (seqIdx (i : Int) xs.length).bind _ = _
  have : seqIdx (i : Int) xs.length = some i := by
    unfold seqIdx
    rw [if_pos ⟨Int.natCast_nonneg _, by (first | lia | omega)⟩]; rfl
  rw [this]; exact h
theorem sub_tup (xs : List AV) (i : Nat) (v : AV) (h : xs[i]? = some v) : subs (.tup xs) (.int i) = some v := sub_lst xs i v h

section
variable {ρ : Rho} {Q : AV → Md → Prop} {X : Str → Prop} {P : Bool → Prop} {N K : Rho → Prop} {R : AV → Md → Prop} {Y : Rho → Str → Prop}
theorem nd {α : Type} {o : Option α} {k : α → Prop} {r : α} (e : o = some r) (h : k r) : need o k := ⟨r, e, h⟩
theorem i_pos {c : Prop} [Decidable c] {a b : Prop} (h : c) (x : a) : if c then a else b := by rw [if_pos h]; exact x
theorem i_neg {c : Prop} [Decidable c] {a b : Prop} (h : ¬ c) (x : b) : if c then a else b := by rw [if_neg h]; exact x
theorem w_cst {v : AV} (h : Q v .fr) : wpE t (.cst v) ρ Q X := h
theorem w_var {i : Nat} {v : AV} {m : Sm} (e : ρ[i]?.join = some (v, m)) (h : Q v (slotMd m)) : wpE t (.var i) ρ Q X := ⟨_, e, h⟩
theorem w_gv {n : Str} {v : AV} (e : t.data n = some v) (h : Q v .sh) : wpE t (.gv n) ρ Q X := ⟨_, e, h⟩
theorem w_bin {op : Operator} {a b : ME} (h : wpE t a ρ (fun va ma => wpE t b ρ (fun vb mb => need (binop op va vb) fun r => Q r (binMd op va ma vb mb r)) X) X) : wpE t (.bin op a b) ρ Q X := h
theorem w_cmp {op : CmpOp} {a b : ME} (h : wpE t a ρ (fun va _ => wpE t b ρ (fun vb _ => need (cmpop op va vb) fun r => Q (.bool r) .fr) X) X) : wpE t (.cmp op a b) ρ Q X := h
theorem w_not {a : ME} (h : wpE t a ρ (fun va _ => need (truth va) fun b => Q (.bool !b) .fr) X) : wpE t (.not a) ρ Q X := h
theorem w_bop {c : Bool} {es : List ME} (h : wpB t c es ρ Q X) : wpE t (.bop c es) ρ Q X := h
theorem w_sub {a i : ME} (h : wpE t a ρ (fun va ma => wpE t i ρ (fun vi _ => need (subs va vi) fun r => Q r (elMd ma)) X) X) : wpE t (.sub a i) ρ Q X := h
theorem w_slc {a lo hi : ME} (h : wpE t a ρ (fun va ma => wpE t lo ρ (fun vl _ => wpE t hi ρ (fun vh _ => need (slices va vl vh) fun r => Q r (slcMd va ma r)) X) X) X) : wpE t (.slc a lo hi) ρ Q X := h
theorem w_call {f : Str} {es : List ME} (h : wpEs t es ρ (fun vs => t.call f (vs.map (·.1)) Q X) X) : wpE t (.call f es) ρ Q X := h
theorem w_bi {f : Str} {es : List ME} (h : wpEs t es ρ (fun vs => need (t.bis f vs) fun r => Q r.1 r.2) X) : wpE t (.bi f es) ρ Q X := h
theorem w_isi {a : ME} {f : Str} (h : wpE t a ρ (fun va _ => need (isinst t va f) fun b => Q (.bool b) .fr) X) : wpE t (.isi a f) ρ Q X := h
theorem w_nil {H : List (AV × Md) → Prop} (h : H []) : wpEs t [] ρ H X := h
theorem w_cons {H : List (AV × Md) → Prop} {e : ME} {es : List ME} (h : wpE t e ρ (fun v m => wpEs t es ρ (fun vs => H ((v, m) :: vs)) X) X) : wpEs t (e :: es) ρ H X := h
theorem w_b1 {c : Bool} {e : ME} (h : wpE t e ρ Q X) : wpB t c [e] ρ Q X := h
theorem w_b {c : Bool} {e e' : ME} {es : List ME} (h : wpE t e ρ (fun v m => need (truth v) fun b => if b = c then wpB t c (e' :: es) ρ Q X else Q v m) X) : wpB t c (e :: e' :: es) ρ Q X := h
theorem w_tup {es : List ME} (h : wpEs t es ρ (fun vs => (∀ p ∈ vs, p.2 ≠ .bo) ∧ vs.length ≤ top ∧ Q (.tup (vs.map (·.1))) (if vs.all fun p => okF p.2 p.1 then .fr else .sh)) X) : wpE t (.tup es) ρ Q X := h
theorem w_lst {es : List ME} (h : wpEs t es ρ (fun vs => (∀ p ∈ vs, p.2 ≠ .bo) ∧ vs.length ≤ top ∧ Q (.lst (vs.map (·.1))) (if vs.all fun p => okF p.2 p.1 then .ow else .sh)) X) : wpE t (.lst es) ρ Q X := h
theorem w_comp {el it : ME} {co : Option ME} (hl : t.loops = true) (h : wpE t it ρ (fun vi mi => need (items vi) fun xs => xs.length ≤ top ∧
      compL (fun x k => wpE t el (ρ ++ [some (x, asSm (elMd mi))]) k X) (fun x k => wpO t co (ρ ++ [some (x, asSm (elMd mi))]) k fun _ => False) xs [] true fun ys f => Q (.lst ys) (if f then .ow else .sh)) X) : wpE t (.comp el it co) ρ Q X := ⟨hl, h⟩
theorem w_one {a : ME} {f : Str} (h : wpE t a ρ (fun v _ => t.call f [v] Q X) X) : wpE t (.call f [a]) ρ Q X := by
  exact w_call (w_cons h)
theorem w_two {a b : ME} {f : Str} (h : wpE t a ρ (fun v _ => wpE t b ρ (fun w _ => t.call f [v, w] Q X) X) X) : wpE t (.call f [a, b]) ρ Q X := by
  exact w_call (w_cons h)
theorem w_t0 {i : Nat} {a : AV} {xs : List AV} {m : Sm} (e : ρ[i]?.join = some (.tup (a :: xs), m)) (h : Q a (elMd (slotMd m))) : wpE t (.sub (.var i) (.cst (.int 0))) ρ Q X := w_sub (w_var e (w_cst (nd (sub_tup _ 0 _ rfl) h)))
theorem w_t1 {i : Nat} {a a' : AV} {xs : List AV} {m : Sm} (e : ρ[i]?.join = some (.tup (a' :: a :: xs), m)) (h : Q a (elMd (slotMd m))) : wpE t (.sub (.var i) (.cst (.int 1))) ρ Q X := w_sub (w_var e (w_cst (nd (sub_tup _ 1 _ rfl) h)))
theorem w_t2 {i : Nat} {a a' a'' : AV} {xs : List AV} {m : Sm} (e : ρ[i]?.join = some (.tup (a'' :: a' :: a :: xs), m)) (h : Q a (elMd (slotMd m))) : wpE t (.sub (.var i) (.cst (.int 2))) ρ Q X := w_sub (w_var e (w_cst (nd (sub_tup _ 2 _ rfl) h)))
theorem w_len (b : Bas0 t) {i : Nat} {xs : List AV} {m : Sm} (e : ρ[i]?.join = some (.lst xs, m)) (h : Q (.int xs.length) .fr) : wpE t (.bi (B "len") [(.var i)]) ρ Q X := w_bi (w_cons (w_var e (w_nil ((b.len ..).mpr h))))
theorem w_len1 (b : Bas0 t) {i : Nat} {a : AV} {ys xs : List AV} {m : Sm} (e : ρ[i]?.join = some (.tup (a :: .lst ys :: xs), m)) (h : Q (.int ys.length) .fr) : wpE t (.bi (B "len") [(.sub (.var i) (.cst (.int 1)))]) ρ Q X := w_bi (w_cons (w_t1 e (w_nil ((b.len ..).mpr h))))
theorem s_Asg {i : Nat} {e : ME} {ss : List MS} (h : wpE t e ρ (fun v m => m ≠ .bo ∧ wpSs t ss (ρ.set i (some (v, asSm m))) N K R Y) (Y ρ)) : wpSs t (.asg i e :: ss) ρ N K R Y := h
theorem s_Asm {i : Nat} {e : ME} {ss : List MS} (h : wpE t e ρ (fun v m => m = .ow ∧ wpSs t ss (ρ.set i (some (v, .mu))) N K R Y) (Y ρ)) : wpSs t (.asm i e :: ss) ρ N K R Y := h
theorem s_Ite {c : ME} {a b ss : List MS} (h : wpT t c ρ (fun v => if v then wpSs t a ρ (fun ρ' => wpSs t ss ρ' N K R Y) K R Y else wpSs t b ρ (fun ρ' => wpSs t ss ρ' N K R Y) K R Y) (Y ρ)) : wpSs t (.ite c a b :: ss) ρ N K R Y := h
theorem s_Ret {e : ME} {ss : List MS} (h : wpE t e ρ (fun v m => m ≠ .bo ∧ okF m v = true ∧ R v (if m = .ow then .ow else .fr)) (Y ρ)) : wpSs t (.ret e :: ss) ρ N K R Y := h
theorem s_Ex {e : ME} {ss : List MS} (h : wpE t e ρ (fun _ _ => wpSs t ss ρ N K R Y) (Y ρ)) : wpSs t (.ex e :: ss) ρ N K R Y := h
theorem s_For {i : Nat} {it : ME} {b ss : List MS} (hl : t.loops = true) (h : wpE t it ρ (fun vi mi => mi ≠ .bo ∧ need (items vi) fun xs => xs.length ≤ top ∧ loopF i (asSm (elMd mi)) (fun ρ' k => wpSs t b ρ' k (fun ρ' => wpSs t ss ρ' N K R Y) R Y) xs ρ (fun ρ' => wpSs t ss ρ' N K R Y)) (Y ρ)) : wpSs t (.for i it b :: ss) ρ N K R Y := ⟨hl, h⟩
theorem s_Sto {i : Nat} {k e : ME} {w : AV} {ss : List MS} (hm : getMu ρ i = some w) (h : wpE t e ρ (fun v m => m ≠ .bo ∧ okF m v = true ∧ wpE t k ρ (fun vk _ => need (store w vk v) fun w' => wpSs t ss (ρ.set i (some (w', .mu))) N K R Y) (Y ρ)) (Y ρ)) : wpSs t (.sto i k e :: ss) ρ N K R Y := ⟨w, hm, h⟩
theorem s_App {i : Nat} {e : ME} {xs : List AV} {ss : List MS} (hm : getMu ρ i = some (.lst xs)) (h : wpE t e ρ (fun v m => m ≠ .bo ∧ okF m v = true ∧ xs.length < top ∧ wpSs t ss (ρ.set i (some (.lst (xs ++ [v]), .mu))) N K R Y) (Y ρ)) : wpSs t (.app i e :: ss) ρ N K R Y := ⟨_, hm, _, rfl, h⟩
theorem s_Unp {is : List Nat} {e : ME} {ss : List MS} (hl : t.loops = true) (h : wpE t e ρ (fun v m => m ≠ .bo ∧ match v with
      | .tup xs => xs.length = is.length ∧ wpSs t ss (setAll is xs (asSm m) ρ) N K R Y
      | _ => False) (Y ρ)) : wpSs t (.unp is e :: ss) ρ N K R Y := ⟨hl, h⟩
theorem w_bvc {op : Operator} {i : Nat} {v c : AV} {m : Sm} (e : ρ[i]?.join = some (v, m)) (h : need (binop op v c) fun r => Q r (binMd op v (slotMd m) c .fr r)) : wpE t (.bin op (.var i) (.cst c)) ρ Q X := ⟨_, e, h⟩
theorem w_bvv {op : Operator} {i j : Nat} {v w : AV} {m n : Sm} (e : ρ[i]?.join = some (v, m)) (e' : ρ[j]?.join = some (w, n)) (h : need (binop op v w) fun r => Q r (binMd op v (slotMd m) w (slotMd n) r)) : wpE t (.bin op (.var i) (.var j)) ρ Q X := ⟨_, e, _, e', h⟩
theorem t_cvc {op : CmpOp} {i : Nat} {v c : AV} {m : Sm} (e : ρ[i]?.join = some (v, m)) (h : need (cmpop op v c) P) : wpT t (.cmp op (.var i) (.cst c)) ρ P X := ⟨_, e, h⟩
theorem t_cvv {op : CmpOp} {i j : Nat} {v w : AV} {m n : Sm} (e : ρ[i]?.join = some (v, m)) (e' : ρ[j]?.join = some (w, n)) (h : need (cmpop op v w) P) : wpT t (.cmp op (.var i) (.var j)) ρ P X := ⟨_, e, _, e', h⟩
theorem w_svv {i j : Nat} {v w : AV} {m n : Sm} (e : ρ[i]?.join = some (v, m)) (e' : ρ[j]?.join = some (w, n)) (h : need (subs v w) fun r => Q r (elMd (slotMd m))) : wpE t (.sub (.var i) (.var j)) ρ Q X := ⟨_, e, _, e', h⟩
theorem w_svc {i : Nat} {v c : AV} {m : Sm} (e : ρ[i]?.join = some (v, m)) (h : need (subs v c) fun r => Q r (elMd (slotMd m))) : wpE t (.sub (.var i) (.cst c)) ρ Q X := ⟨_, e, h⟩
theorem w_1v {f : Str} {i : Nat} {v : AV} {m : Sm} (e : ρ[i]?.join = some (v, m)) (h : t.call f [v] Q X) : wpE t (.call f [(.var i)]) ρ Q X := ⟨_, e, h⟩
theorem w_2vv {f : Str} {i j : Nat} {v w : AV} {m n : Sm} (e : ρ[i]?.join = some (v, m)) (e' : ρ[j]?.join = some (w, n)) (h : t.call f [v, w] Q X) : wpE t (.call f [(.var i), (.var j)]) ρ Q X := ⟨_, e, _, e', h⟩
theorem w_2vc {f : Str} {i : Nat} {v c : AV} {m : Sm} (e : ρ[i]?.join = some (v, m)) (h : t.call f [v, c] Q X) : wpE t (.call f [(.var i), (.cst c)]) ρ Q X := ⟨_, e, h⟩
theorem w_cv {H : List (AV × Md) → Prop} {i : Nat} {v : AV} {m : Sm} {es : List ME} (e : ρ[i]?.join = some (v, m)) (h : wpEs t es ρ (fun vs => H ((v, slotMd m) :: vs)) X) : wpEs t (.var i :: es) ρ H X := ⟨_, e, h⟩
theorem w_vn {H : List (AV × Md) → Prop} {i : Nat} {v : AV} {m : Sm} (e : ρ[i]?.join = some (v, m)) (h : H [(v, slotMd m)]) : wpEs t [(.var i)] ρ H X := ⟨_, e, h⟩
theorem w_cc {H : List (AV × Md) → Prop} {c : AV} {es : List ME} (h : wpEs t es ρ (fun vs => H ((c, .fr) :: vs)) X) : wpEs t (.cst c :: es) ρ H X := h
theorem s_T0 {i j : Nat} {a : AV} {xs : List AV} {m : Sm} {ss : List MS} (e : ρ[i]?.join = some (.tup (a :: xs), m)) (hb : elMd (slotMd m) ≠ .bo) (h : wpSs t ss (ρ.set j (some (a, asSm (elMd (slotMd m))))) N K R Y) : wpSs t (.asg j (.sub (.var i) (.cst (.int 0))) :: ss) ρ N K R Y := s_Asg (w_t0 e ⟨hb, h⟩)
theorem s_T1 {i j : Nat} {a a' : AV} {xs : List AV} {m : Sm} {ss : List MS} (e : ρ[i]?.join = some (.tup (a' :: a :: xs), m)) (hb : elMd (slotMd m) ≠ .bo) (h : wpSs t ss (ρ.set j (some (a, asSm (elMd (slotMd m))))) N K R Y) : wpSs t (.asg j (.sub (.var i) (.cst (.int 1))) :: ss) ρ N K R Y := s_Asg (w_t1 e ⟨hb, h⟩)
theorem t_not {a : ME} (h : wpT t a ρ (fun b => P !b) X) : wpT t (.not a) ρ P X := h
theorem t_bop {c : Bool} {es : List ME} (h : wpTs t c es ρ P X) : wpT t (.bop c es) ρ P X := h
theorem t_cmp {op : CmpOp} {a b : ME} (h : wpE t a ρ (fun va _ => wpE t b ρ (fun vb _ => need (cmpop op va vb) P) X) X) : wpT t (.cmp op a b) ρ P X := h
theorem t_lbi {f : Str} {es : List ME} (hl : t.loops = true) (h : wpEs t es ρ (fun vs => need (t.lbis f vs) fun r => need (truth r.1) P) X) : wpT t (.lbi f es) ρ P X := ⟨hl, h⟩
theorem w_mt {o a : ME} {m : Nat} (h : wpE t o ρ (fun vo _ => match vo with | .str x => wpE t a ρ (fun va _ => need (mtV m (.str x) va) fun r => Q r.1 r.2) X | _ => False) X) : wpE t (.mt o m a) ρ Q X := h
theorem w_neg {a : ME} (h : wpE t a ρ (fun va _ => match va with | .int i => Q (.int (-i)) .fr | _ => False) X) : wpE t (.neg a) ρ Q X := h
theorem s_app {i : Nat} {e : ME} {xs : List AV} (hm : getMu ρ i = some (.lst xs)) (h : wpE t e ρ (fun v m => m ≠ .bo ∧ okF m v = true ∧ xs.length < top ∧ N (ρ.set i (some (.lst (xs ++ [v]), .mu)))) (Y ρ)) : wpS t (.app i e) ρ N K R Y := ⟨_, hm, _, rfl, h⟩
theorem s_frz {i : Nat} {v : AV} {m : Sm} (e : ρ[i]?.join = some (v, m)) (h : N (ρ.set i (some (v, frzM m)))) : wpS t (.frz i) ρ N K R Y := ⟨_, e, h⟩
theorem s_retm {i : Nat} {v : AV} (hm : getMu ρ i = some v) (h : R v .ow) : wpS t (.retm i) ρ N K R Y := ⟨_, hm, h⟩
theorem t_isi {a : ME} {f : Str} (h : wpE t a ρ (fun va _ => need (isinst t va f) P) X) : wpT t (.isi a f) ρ P X := h
theorem t_call {f : Str} {es : List ME} (h : wpEs t es ρ (fun vs => t.call f (vs.map (·.1)) (fun v _ => need (truth v) P) X) X) : wpT t (.call f es) ρ P X := h
theorem t_nil {c : Bool} (h : P c) : wpTs t c [] ρ P X := h
theorem t_cons {c : Bool} {e : ME} {es : List ME} (h : wpT t e ρ (fun b => if b = c then wpTs t c es ρ P X else P !c) X) : wpTs t c (e :: es) ρ P X := h
theorem s_nil (h : N ρ) : wpSs t [] ρ N K R Y := h
theorem s_cons {s : MS} {ss : List MS} (h : wpS t s ρ (fun ρ' => wpSs t ss ρ' N K R Y) K R Y) : wpSs t (s :: ss) ρ N K R Y := h
theorem s_asg {i : Nat} {e : ME} (h : wpE t e ρ (fun v m => m ≠ .bo ∧ N (ρ.set i (some (v, asSm m)))) (Y ρ)) : wpS t (.asg i e) ρ N K R Y := h
theorem s_ex {e : ME} (h : wpE t e ρ (fun _ _ => N ρ) (Y ρ)) : wpS t (.ex e) ρ N K R Y := h
theorem s_ite {c : ME} {a b : List MS} (h : wpT t c ρ (fun v => if v then wpSs t a ρ N K R Y else wpSs t b ρ N K R Y) (Y ρ)) : wpS t (.ite c a b) ρ N K R Y := h
theorem s_ret {e : ME} (h : wpE t e ρ (fun v m => m ≠ .bo ∧ okF m v = true ∧ R v (if m = .ow then .ow else .fr)) (Y ρ)) : wpS t (.ret e) ρ N K R Y := h
theorem s_rai {c : Str} (hl : t.loops = true) (h : Y ρ c) : wpS t (.rai c) ρ N K R Y := ⟨hl, h⟩
theorem s_tri {b : List MS} {hs : List (Str × Option Nat × List MS)} (h : wpSs t b ρ N K R (fun ρ' c => wpH t hs c ρ' N K R (Y ρ' c))) : wpS t (.tri b hs) ρ N K R Y := h
theorem h_as {C c : Str} {i : Nat} {b : List MS} {hs : List (Str × Option Nat × List MS)} {x : Prop} (e : t.sub c C = some true) (h : wpSs t.inH b (ρ.set i (some (.exc c, .sh))) (fun ρ' => N (ρ'.set i none)) (fun ρ' => K (ρ'.set i none)) R (fun _ _ => False)) :
    wpH t ((C, some i, b) :: hs) c ρ N K R x := by
  exact ⟨true, e, h⟩
theorem s_for {i : Nat} {it : ME} {b : List MS} (hl : t.loops = true) (h : wpE t it ρ (fun vi mi => mi ≠ .bo ∧ need (items vi) fun xs => xs.length ≤ top ∧ loopF i (asSm (elMd mi)) (fun ρ' k => wpSs t b ρ' k N R Y) xs ρ N) (Y ρ)) : wpS t (.for i it b) ρ N K R Y := ⟨hl, h⟩
theorem s_unp {is : List Nat} {e : ME} (hl : t.loops = true) (h : wpE t e ρ (fun v m => m ≠ .bo ∧ match v with
      | .tup xs => xs.length = is.length ∧ N (setAll is xs (asSm m) ρ)
      | _ => False) (Y ρ)) : wpS t (.unp is e) ρ N K R Y := ⟨hl, h⟩
end

theorem wp_csts (ρ : Rho) (X : Str → Prop) : ∀ (cs : List AV) (K : List (AV × Md) → Prop), K (cs.map fun v => (v, .fr)) → wpEs t (cs.map .cst) ρ K X
  | [], K, h => h
  | c :: cs, K, h => by
    exact w_cons (w_cst (wp_csts ρ X cs _ h))
theorem wp_lstc (ρ : Rho) (X : Str → Prop) (cs : List AV) (Q : AV → Md → Prop) (hz : cs.length ≤ top) (h : Q (.lst cs) .ow) : wpE t (.lst (cs.map .cst)) ρ Q X := by
  rw [wpE_lst]
  refine wp_csts ρ X cs _ ⟨fun p hp => ?_, by rw [List.length_map]; exact hz, ?_⟩
  · obtain ⟨v, _, rfl⟩ := List.mem_map.mp hp; nofun
  · have e1 : (cs.map fun v => ((v, .fr) : AV × Md)).map (·.1) = cs := by rw [List.map_map]; exact List.map_id cs
    have e2 : ((cs.map fun v => ((v, .fr) : AV × Md)).all fun p => okF p.2 p.1) = true := by
      rw [List.all_eq_true]
      intro p hp
      obtain ⟨v, _, rfl⟩ := List.mem_map.mp hp
      rfl
    rw [e1, e2, if_pos rfl]
    exact h

theorem compL_map {el : AV → (AV → Md → Prop) → Prop} {co : AV → (Bool → Prop) → Prop} (g : AV → AV) (m : Md) (hm : m ≠ .bo) : ∀ (xs : List AV), (∀ x ∈ xs, ∀ k : AV → Md → Prop, k (g x) m → el x k) → (∀ x ∈ xs, ∀ k : Bool → Prop, k true → co x k) → (∀ x ∈ xs, okF m (g x) = true) →
    ∀ (acc : List AV) (f : Bool) (K : List AV → Bool → Prop), K (acc ++ xs.map g) f → compL el co xs acc f K
  | [], _, _, _, acc, f, K, h => by rw [compL_nil]; rwa [List.map_nil, List.append_nil] at h
  | x :: xs, h1, h2, h3, acc, f, K, h => by
    rw [compL_cons]
    refine h2 x (.head _) _ ?_
    rw [if_pos rfl]
    refine h1 x (.head _) _ ⟨hm, compL_map g m hm xs (fun y q => h1 y (.tail _ q)) (fun y q => h2 y (.tail _ q)) (fun y q => h3 y (.tail _ q)) _ _ K ?_⟩
    rw [h3 x (.head _), Bool.and_true, List.append_assoc]
    exact h

noncomputable def ms_wants : List MS :=
  [(.ite (.cmp .NotIn (.var 0) (.gv (B "SOURCES"))) [(.rai (B "NoKind"))] []),
   (.ret (.sub (.gv (B "SOURCES")) (.var 0)))]
noncomputable def ms_cell : List MS :=
  [(.ite (.cmp .Lt (.var 1) (.bi (B "len") [(.var 0)])) [(.ret (.sub (.var 0) (.var 1)))] []),
   (.ret (.cst (.int 0)))]
noncomputable def ms_whole : List MS :=
  [(.ret (.bop true [(.isi (.var 0) (B "int")), (.not (.isi (.var 0) (B "bool")))]))]
noncomputable def ms_mixed : List MS :=
  [(.asg 3 (.lst [(.cst (.int 99991)), (.cst (.int 99989)), (.cst (.int 99971)), (.cst (.int 99961)), (.cst (.int 99929)), (.cst (.int 99923)), (.cst (.int 99907)), (.cst (.int 99901)), (.cst (.int 99881)), (.cst (.int 99877)), (.cst (.int 99871))])),
   (.ret (.bin .Mod (.bin .Mod (.bin .Mult (.bin .Add (.var 0) (.bin .Mult (.cst (.int 7)) (.var 1))) (.cst (.int 48271))) (.sub (.var 3) (.bin .Mod (.var 1) (.cst (.int 11))))) (.var 2)))]

theorem cell_wp (b : Bas t) (ns : List Int) (k : Int) (hk : 0 ≤ k) (N : Rho → Prop) (Q : AV → Md → Prop) (X : Rho → Str → Prop) (h : Q (.int (ns.getD k.toNat 0)) .fr) :
    wpSs t ms_cell (rho0 2 [.lst (ns.map .int), .int k]) N (fun _ => False) Q X := by
  refine s_cons (s_ite (t_cmp (w_var rfl (w_bi (w_cons (w_var rfl (w_nil ((b.len ..).mpr (nd (lt_int ..) ?_)))))))))
  rw [List.length_map]
  by_cases hl : k < ns.length
  · obtain ⟨i, rfl⟩ := Int.eq_ofNat_of_zero_le hk
    have hi : i < ns.length := by (first | lia | omega)
    have : subs (.lst (ns.map .int)) (.int (i : Int)) = some (.int (ns.getD i 0)) := sub_lst _ i _ (by rw [List.getElem?_map, List.getElem?_eq_getElem hi]; simp [List.getD_eq_getElem?_getD, hi])
    rw [decide_eq_true hl]
    exact i_pos rfl (s_cons (s_ret (w_sub (w_var rfl (w_var rfl (nd this ⟨nofun, rfl, h⟩))))))
  · rw [decide_eq_false hl]
    refine i_neg (by decide) (s_nil (s_cons (s_ret (w_cst ⟨nofun, rfl, ?_⟩))))
    have h1 : ns.length ≤ k.toNat := by (first | lia | omega)
    rw [List.getD_eq_getElem?_getD, List.getElem?_eq_none h1] at h
    exact h

theorem whole_wp (i : Int) (N : Rho → Prop) (Q : AV → Md → Prop) (X : Rho → Str → Prop) (h : Q (.bool true) .fr) : wpSs t ms_whole (rho0 1 [.int i]) N (fun _ => False) Q X := by
  exact s_cons <| s_ret <| w_bop <| w_b <| w_isi <| w_var rfl <| nd (r := true) rfl <| nd (r := true) rfl <| i_pos rfl <| w_b1 <| w_not <| w_isi <| w_var rfl <| nd (r := false) rfl <| nd (r := false) rfl ⟨nofun, rfl, h⟩

noncomputable def primes : List Int := [99991, 99989, 99971, 99961, 99929, 99923, 99907, 99901, 99881, 99877, 99871]
noncomputable def mixF (c k n : Int) : Int := (((c + 7 * k) * 48271).fmod (primes.getD (k.fmod 11).toNat 0)).fmod n
theorem mixF_lt (c k n : Int) (hn : 0 < n) : 0 ≤ mixF c k n ∧ mixF c k n < n := ⟨Int.fmod_nonneg_of_pos _ hn, Int.fmod_lt_of_pos _ hn⟩

theorem mixed_wp (c k n : Int) (hn : 0 < n) (N : Rho → Prop) (Q : AV → Md → Prop) (X : Rho → Str → Prop) (h : Q (.int (mixF c k n)) .fr) :
    wpSs t ms_mixed (rho0 4 [.int c, .int k, .int n]) N (fun _ => False) Q X := by
  refine s_cons (s_asg ?_)
  refine wp_lstc _ _ (primes.map .int) _ (by decide) ⟨nofun, ?_⟩
  have k1 := Int.fmod_nonneg_of_pos k (b := 11) (by decide)
  have k2 := Int.fmod_lt_of_pos k (b := 11) (by decide)
  have kk : ((k.fmod 11).toNat : Int) = k.fmod 11 := Int.toNat_of_nonneg k1
  have hl : (k.fmod 11).toNat < 11 := by (first | lia | omega)
  have hs : subs (.lst (primes.map .int)) (.int (k.fmod 11)) = some (.int (primes.getD (k.fmod 11).toNat 0)) := by
    have := sub_lst (primes.map .int) (k.fmod 11).toNat (.int (primes.getD (k.fmod 11).toNat 0)) (by
      rw [List.getElem?_map, List.getElem?_eq_getElem (show (k.fmod 11).toNat < primes.length from hl), List.getD_eq_getElem?_getD, List.getElem?_eq_getElem (show (k.fmod 11).toNat < primes.length from hl)]; rfl)
    rwa [kk] at this
  have hp : primes.getD (k.fmod 11).toNat 0 ≠ 0 := by
    have : ∀ i, i < 11 → primes.getD i 0 ≠ 0 := by decide
    exact this _ hl
  exact s_cons <| s_ret <| w_bin <| w_bin <| w_bin <| w_bin <| w_var rfl <| w_bin <| w_cst <| w_var rfl <| nd (mul_int 7 k (.inl (by decide))) <| nd (add_int ..) <| w_cst <| nd (mul_int _ 48271 (.inr (by decide))) <| w_sub <| w_var rfl <| w_bin <| w_var rfl <| w_cst <| nd (mod_int k 11 (by decide)) <| nd hs <| nd (mod_int _ _ hp) <| w_var rfl <| nd (mod_int _ n (by (first | lia | omega))) ⟨by rw [md_int]; nofun, by rw [md_int]; rfl, by rw [md_int]; exact h⟩
end
end Mine

namespace Mine
open PySem

noncomputable def kindS : List String := ["yes", "no", "keep", "not", "both", "either", "unlike", "pick", "most"]
noncomputable def kinds : List AV := kindS.map fun s => .str (B s)
noncomputable def wideN : List (Nat × Nat) := [(0, 0), (0, 0), (1, 1), (1, 1), (2, 9), (2, 9), (2, 9), (3, 3), (3, 3)]
noncomputable def wide : List AV := wideN.map fun p => .tup [.int p.1, .int p.2]
noncomputable def tabAV : AV := .dic kinds wide

noncomputable def kidx (k : Str) : Option Nat := (List.range 9).find? fun i => k == B (kindS.getD i "")
theorem kidx_some {k : Str} {i : Nat} (h : kidx k = some i) : i < 9 ∧ k = B (kindS.getD i "") := by
  have h1 := List.find?_some h
  have h2 := List.mem_of_find?_eq_some h
  exact ⟨List.mem_range.mp h2, by simpa using h1⟩
theorem kidx_none {k : Str} (h : kidx k = none) : ∀ i, i < 9 → k ≠ B (kindS.getD i "") := fun i hi q => by
  have := List.find?_eq_none.mp h i (List.mem_range.mpr hi)
  exact this (by simpa using q)
theorem key_none {k : Str} (h : kidx k = none) : hasKey (.str k) kinds = false := by
  have := kidx_none h
  unfold hasKey
  rw [List.any_eq_false]
  intro x hx
  have : ∀ i, i < 9 → keq (.str (B (kindS.getD i ""))) (.str k) = false := fun i hi => by
    show (B (kindS.getD i "") == k) = false
    exact beq_eq_false_iff_ne.mpr (Ne.symm (this i hi))
  have m : ∃ i, i < 9 ∧ x = .str (B (kindS.getD i "")) := by
    obtain ⟨s, hs, rfl⟩ := List.mem_map.mp hx
    obtain ⟨i, hi, e⟩ := List.mem_iff_getElem.mp hs
    exact ⟨i, hi, by rw [List.getD_eq_getElem?_getD, List.getElem?_eq_getElem hi, e]; rfl⟩
  obtain ⟨i, hi, rfl⟩ := m
  rw [this i hi]; decide
theorem key_some {k : Str} {i : Nat} (h : kidx k = some i) : hasKey (.str k) kinds = true ∧ findKey (.str k) kinds wide = some (.tup [.int (wideN.getD i (0, 0)).1, .int (wideN.getD i (0, 0)).2]) := by
  obtain ⟨hi, rfl⟩ := kidx_some h
  have : ∀ i, i < 9 → hasKey (.str (B (kindS.getD i ""))) kinds = true := by decide
  refine ⟨this i hi, ?_⟩
  match i, hi with
  | 0, _ => rfl
  | 1, _ => rfl
  | 2, _ => rfl
  | 3, _ => rfl
  | 4, _ => rfl
  | 5, _ => rfl
  | 6, _ => rfl
  | 7, _ => rfl
  | 8, _ => rfl

section
variable {t : Th}
theorem isk (k : Str) : isKey (.str k) kinds = true := rfl

theorem wants_yes (hd : t.data (B "SOURCES") = some tabAV) {k : Str} {i : Nat} (hk : kidx k = some i) (N : Rho → Prop) (Q : AV → Md → Prop) (X : Rho → Str → Prop) (h : Q (.tup [.int (wideN.getD i (0, 0)).1, .int (wideN.getD i (0, 0)).2]) .fr) :
    wpSs t ms_wants (rho0 1 [.str k]) N (fun _ => False) Q X := by
  obtain ⟨h1, h2⟩ := key_some hk
  have e1 : cmpop .NotIn (.str k) tabAV = some false := by
    show (if isKey (.str k) kinds = true then some (hasKey (.str k) kinds) else none).map (!·) = _
    rw [isk, h1]; rfl
  have e2 : subs tabAV (.str k) = some (.tup [.int (wideN.getD i (0, 0)).1, .int (wideN.getD i (0, 0)).2]) := by
    show (if isKey (.str k) kinds = true then findKey (.str k) kinds wide else none) = _
    rw [isk, h2]; rfl
  exact s_Ite <| t_cmp <| w_var rfl <| w_gv hd <| nd e1 <| i_neg (by decide) <| s_nil <| s_Ret <| w_sub <| w_gv hd <| w_var rfl <| nd e2 ⟨nofun, rfl, h⟩
theorem wants_no (hd : t.data (B "SOURCES") = some tabAV) (hl : t.loops = true) {k : Str} (hk : kidx k = none) (N : Rho → Prop) (Q : AV → Md → Prop) (X : Rho → Str → Prop) (h : ∀ ρ, X ρ (B "NoKind")) :
    wpSs t ms_wants (rho0 1 [.str k]) N (fun _ => False) Q X := by
  have e1 : cmpop .NotIn (.str k) tabAV = some true := by
    show (if isKey (.str k) kinds = true then some (hasKey (.str k) kinds) else none).map (!·) = _
    rw [isk, key_none hk]; rfl
  exact s_Ite <| t_cmp <| w_var rfl <| w_gv hd <| nd e1 <| i_pos rfl <| s_cons <| s_rai hl (h _)






end
end Mine

namespace Mine
open PySem PyProof.Rows PySem.W PySem.Calls

section
variable {prog : Program} {w : World} {A : Around} {E : Value → Shared → Prop} {s : Shared} {K : Frag} {ea D : Addr} {oe : Obj} {odo : Option Obj}

theorem ga_bind (self : Value) : bindSpecial (.builtin "BaseException.__getattribute__") self = pure (.builtin "BaseException.__getattribute__", [self]) := PySem.F.excAttr_ValueError.ga.bind self

set_option maxHeartbeats 100000 in
theorem exc_class {Q : Option Value → Shared → Prop} (X : K.In s.heap) (I : InstAt s.heap ea oe D odo) (hga : findIn K (.ref D) "__getattribute__" = some (some (.builtin "BaseException.__getattribute__")))
    (hgn : findIn K (.ref D) "__getattr__" = some none) (hf : findObj K D odo "__class__" = some (.bind (.builtin "getset_descriptor.__get__") (.builtin "object.__class__"))) (hB : mroIn K D (.type "BaseException") = some true) (hm : mroIn K D (.type "object") = some true)
    (h : Q (some (.ref D)) { s with toks := s.toks + 1 }) : wpAny (model prog w) A (getAttr? (.ref ea) "__class__") Q E s := by
  obtain ⟨hh, g, d, t, os⟩ := s
  have L0 := I.type (M := model prog w)
  have L1 := looks_findIn (M := model prog w) X hga
  have L2 := looks_findIn (M := model prog w) X hgn
  have L3 := looks_find (M := model prog w) X I hf
  have L4 : Looks (model prog w) hh (isInstance (.ref ea) (.type "BaseException")) true := L0.andThen (looks_mroIn X hB)
  unfold getAttr? getAttrBy? getAttrBy
  refine wpAny_bind (wpAny_mkText (wpAny_bind (wpAny_attempt (wpAny_holding (wpAny_bind (L0.at (wpAny_bind (L1.at ?_))))))))
  show wpAny _ _ (getAttrByItsOwn _ _ _ _ _ _) _ _ _
  unfold getAttrByItsOwn hookBefore
  refine wpAny_bind (L2.at ?_)
  refine wpAny_bind (wpAny_attempt (wpAny_holding ?_))
  show wpAny _ _ (boundAndCalled _ _ _) _ _ _
  unfold boundAndCalled
  refine wpAny_bind ?_
  rw [ga_bind]
  refine wpAny_pure ?_
  show wpAny _ _ (call (.builtin "BaseException.__getattribute__") [.ref ea, .str "__class__" _]) _ _ _
  refine wpAny_call ?_
  refine codeAny_call_builtin PySem.F.excAttr_ValueError.ga.plain PySem.F.entry_bexc_ga ?_
  have hk : builtinKind "BaseException.__getattribute__" = some .slot := by decide +kernel
  have hs : splitId "BaseException.__getattribute__" = some ("BaseException", "__getattribute__") := by decide +kernel
  refine check_slot (i := "BaseException.__getattribute__") (self := .ref ea) (rest := [.str "__class__" t]) (kw := []) hk hs L4 (PySem.F.args_bexc_ga _ _) ?_
  unfold Builtin.«object.__getattribute__»
  refine wpAny_bind (m := slotArgs _ _ _) (wpAny_pure ?_)
  refine wpAny_bind (wpAny_pure ?_)
  refine wpAny_bind (L0.at ?_)
  refine wpAny_bind (L3.at ?_)
  show wpAny _ _ (holding [_] (call (.builtin "getset_descriptor.__get__") [.builtin "object.__class__", .ref ea, .ref D]) >>= ret) _ _ _
  refine wpAny_bind (wpAny_holding (wpAny_call (class_get (s := ⟨hh, g, d, t + 1, os⟩) (ox := oe) (od := odo) X I hm ?_)))
  refine wpAny_pure ?_
  show wpAny _ _ (handedOut _) _ _ _
  exact handed_on rfl (wpAny_pure h)
end
theorem findObj_none {K : Frag} {D : Addr} {name : Str} {a g : Value} (hc : (clsIn K D).isSome = true) (ha : findIn K (.ref D) name = some (some a)) (hg : specialIn K a "__get__" = some (some g)) (ht : takesIn K a = some true) : findObj K D none name = some (.bind g a) := by
  obtain ⟨cd, hc⟩ := Option.isSome_iff_exists.mp hc
  unfold findObj
  rw [hc, Option.bind_some, ha, Option.bind_some]
  simp [hg, ht]
noncomputable def clsChk (K : Frag) (D : Addr) : Bool := (clsIn K D).isSome && findIn K (.ref D) "__getattribute__" == some (some (.builtin "BaseException.__getattribute__")) && findIn K (.ref D) "__getattr__" == some none &&
  findIn K (.ref D) "__class__" == some (some (.builtin "object.__class__")) && specialIn K (.builtin "object.__class__") "__get__" == some (some (.builtin "getset_descriptor.__get__")) && takesIn K (.builtin "object.__class__") == some true &&
  mroIn K D (.type "BaseException") == some true && mroIn K D (.type "object") == some true
theorem kitx_exc {K : Frag} {x D : Addr} {ox : Obj} (h : clsChk K D = true) : KitX K (.ref x) (.ref D) (fun h => W.InstAt h x ox D none) := by
  unfold clsChk at h
  simp only [Bool.and_eq_true, beq_iff_eq] at h
  obtain ⟨⟨⟨⟨⟨⟨⟨h1, h2⟩, h3⟩, h4⟩, h5⟩, h6⟩, h7⟩, h8⟩ := h
  have hf := findObj_none h1 h4 h5 h6
  obtain ⟨cdD, hcD⟩ := Option.isSome_iff_exists.mp h1
  unfold clsIn at hcD
  split at hcD
  · rename_i c' d' cd' sl' ho
    refine ⟨fun _ _ _ I => I.type, fun _ _ X _ => ?_, fun h tp dd its n sl X htp => ?_, fun X I k => exc_class X I h2 h3 hf h7 h8 k⟩
    · intro A' Q' E' s' k q
      unfold isType loadHead
      exact wpAny_bind (wpAny_loadPart (k _ _ (X _ _ ho)) (wpAny_pure q))
    · refine Bool.eq_false_iff.mpr fun q => ?_
      have e : D = tp := Value.ref.inj (beq_iff_eq.mp q)
      subst e
      have z := (X _ _ ho).symm.trans htp
      cases z
  · cases hcD

noncomputable def excChk (K : Frag) (tbl : List (Str × Addr)) : Bool := tbl.all fun p =>
  (nsIn K mainGlobals p.1 == some (some (.ref p.2))) && (exmOne K (.ref p.2) (.type "ValueError") == some true) &&
  excIn K p.2 [.type "ValueError", .type "Exception", .type "BaseException", .type "object"] "ValueError.__new__" &&
  (clsChk K p.2 && kitOne K (.ref p.2) (.type "ValueError") == some true) &&
  tbl.all fun q => exmOne K (.ref p.2) (.ref q.2) == some (q.1 == p.1 || q.1 == B "SignalError") && kitOne K (.ref p.2) (.ref q.2) == some (q.1 == p.1 || q.1 == B "SignalError")

theorem lookup_of_contains {tbl : List (Str × Addr)} {c : Str} (h : (tbl.map (·.1)).contains c = true) : ∃ a, tbl.lookup c = some a ∧ (c, a) ∈ tbl := by
  induction tbl with
  | nil => cases h
  | cons p r ih =>
    obtain ⟨k, a⟩ := p
    rw [List.map_cons, List.contains_cons] at h
    by_cases q : (c == k) = true
    · have : c = k := eq_of_beq q
      subst this
      exact ⟨a, by rw [List.lookup_cons, q], .head _⟩
    · have q' : (c == k) = false := by simpa using q
      rw [q', Bool.false_or] at h
      obtain ⟨a', h1, h2⟩ := ih h
      exact ⟨a', by rw [List.lookup_cons, q']; exact h1, .tail _ h2⟩

section
variable {G : Gd} {K : Frag} {tbl : List (Str × Addr)} {t : Th}

structure Excs (G : Gd) (K : Frag) (tbl : List (Str × Addr)) : Prop where
  inn : K.In G.base
  cls : ∀ c, G.cls c = (tbl.lookup c).map .ref
  chk : excChk K tbl = true
  sig : (tbl.map (·.1)).contains (B "SignalError") = true
  val : G.mg (B "ValueError") = none

theorem Excs.at (Y : Excs G K tbl) {c : Str} {a : Addr} (h : (c, a) ∈ tbl) : nsIn K mainGlobals c = some (some (.ref a)) ∧ exmOne K (.ref a) (.type "ValueError") = some true ∧
    excIn K a [.type "ValueError", .type "Exception", .type "BaseException", .type "object"] "ValueError.__new__" = true ∧ (clsChk K a = true ∧ kitOne K (.ref a) (.type "ValueError") = some true) ∧
    ∀ C A, (C, A) ∈ tbl → exmOne K (.ref a) (.ref A) = some (C == c || C == B "SignalError") ∧ kitOne K (.ref a) (.ref A) = some (C == c || C == B "SignalError") := by
  have z := List.all_eq_true.mp Y.chk _ h
  rw [Bool.and_eq_true, Bool.and_eq_true, Bool.and_eq_true, Bool.and_eq_true, Bool.and_eq_true, List.all_eq_true] at z
  refine ⟨eq_of_beq z.1.1.1.1, eq_of_beq z.1.1.1.2, z.1.1.2, ⟨z.1.2.1, eq_of_beq z.1.2.2⟩, fun C A q => ?_⟩
  have y := z.2 _ q
  rw [Bool.and_eq_true] at y
  exact ⟨eq_of_beq y.1, eq_of_beq y.2⟩

theorem valErr : bootBuiltins (B "ValueError") = some (.type "ValueError") := by decide +kernel
theorem Excs.valAt (Y : Excs G K tbl) : NameAt G (B "ValueError") (.type "ValueError") := .inr ⟨Y.val, valErr, by decide⟩

theorem looks_exc {M : Model} {h : Heap} {ea : Addr} {o : Obj} (he : h.get? ea = some o) : Looks M h (typeOf (.ref ea)) o.cls := (Looks.ld he).andThen .now

theorem Excs.sub (Y : Excs G K tbl) {c C : Str} {b : Bool} (h : subT (tbl.map (·.1)) c C = some b) : ∃ a F, (c, a) ∈ tbl ∧ G.cls c = some (.ref a) ∧ NameAt G C F ∧ exmOne K (.ref a) F = some b ∧ kitOne K (.ref a) F = some b := by
  unfold subT at h
  split at h
  · rename_i hc
    obtain ⟨a, ha, hm⟩ := lookup_of_contains hc
    obtain ⟨z1, z2, z3, ⟨_, z5⟩, z4⟩ := Y.at hm
    have own : ∀ C, (tbl.map (·.1)).contains C = true → ∃ a F, (c, a) ∈ tbl ∧ G.cls c = some (.ref a) ∧ NameAt G C F ∧ exmOne K (.ref a) F = some (C == c || C == B "SignalError") ∧ kitOne K (.ref a) F = some (C == c || C == B "SignalError") := fun C hC => by
      obtain ⟨A, hA, hM⟩ := lookup_of_contains hC
      exact ⟨a, .ref A, hm, by rw [Y.cls, ha]; rfl, .inl (mg_of Y.inn G.g (Y.at hM).1), z4 C A hM⟩
    split at h
    · rename_i hq
      cases h
      by_cases q1 : C = c
      · have := own C (by rw [q1]; exact hc)
        rwa [beq_iff_eq.mpr q1, Bool.true_or] at this
      · by_cases q2 : C = B "SignalError"
        · have := own C (by rw [q2]; exact Y.sig)
          rwa [beq_iff_eq.mpr q2, Bool.or_true] at this
        · have q3 : C = B "ValueError" := by
            rcases hq with q | q | q
            · exact absurd q q1
            · exact absurd q q2
            · exact q
          subst q3
          exact ⟨a, .type "ValueError", hm, by rw [Y.cls, ha]; rfl, Y.valAt, z2, z5⟩
    · rename_i hq
      split at h
      · rename_i hC
        cases h
        have := own C hC
        rwa [beq_eq_false_iff_ne.mpr fun q => hq (.inl q), beq_eq_false_iff_ne.mpr fun q => hq (.inr (.inl q))] at this
      · cases h
  · cases h

theorem Excs.subOk (Y : Excs G K tbl) (ht : t.sub = subT (tbl.map (·.1))) : SubOk G t := by
  intro c C b h
  rw [ht] at h
  obtain ⟨a, F, _, h2, h3, h4, _⟩ := Y.sub h
  refine ⟨F, h3, fun A s ea o E Q k he hc hq => ?_⟩
  rw [h2] at hc
  have X : K.In s.heap := Y.inn.keeps fun b o e => (k.kp b o e).1 (.inr (by rw [e]; rfl))
  have LT : Looks (model G.prog G.w) s.heap (typeOf (.ref ea)) (.ref a) := by rw [Option.some.inj hc]; exact looks_exc he
  exact exm_one X LT h4 A Q E s (fun _ _ e => e) hq

theorem Excs.isi (Y : Excs G K tbl) (ht : t.sub = subT (tbl.map (·.1))) {c f : Str} {b : Bool} (h : t.sub c f = some b) : ∃ F, NameAt G f F ∧ ∀ (A : Around) (s : Shared) (x : Value) (E : Value → Shared → Prop), Kp G.base G.base s.heap → VR G (fun _ => False) s.heap (.exc c) x →
      wpAny (model G.prog G.w) A (PySem.call (.builtin "isinstance") [x, F]) (fun r s' => r = .bool b ∧ Ext G s s') E s := by
  rw [ht] at h
  obtain ⟨a, F, hm, h2, h3, _, h4⟩ := Y.sub h
  obtain ⟨_, _, _, ⟨z, _⟩, _⟩ := Y.at hm
  refine ⟨F, h3, fun A s x E k hv => ?_⟩
  obtain ⟨ea, o, rfl, he, hc, dn, vs, hd⟩ := hv
  rw [h2] at hc
  have X : K.In s.heap := Y.inn.keeps fun b o e => (k.kp b o e).1 (.inr (by rw [e]; rfl))
  have I : W.InstAt s.heap ea o a none := ⟨he, (Option.some.inj hc).symm, by unfold notCls; rw [hd], by rw [dn]; trivial⟩
  exact kia_one (kitx_exc z) X I h4 (by simp) fun tk => ⟨rfl, Ext.toks ..⟩

theorem Excs.raisable (Y : Excs G K tbl) {p : Program} {loose : List Str} (T : TopRead p loose G.mg G.mb G.base) {c : Str} (hc : (tbl.map (·.1)).contains c = true) : Raisable G c := by
  obtain ⟨a, ha, hm⟩ := lookup_of_contains hc
  obtain ⟨z1, z2, z3, _, z4⟩ := Y.at hm
  exact ⟨a, _, _, _, _, own_of_in Y.inn T z1 z3, PySem.F.excBase_ValueError, by rw [Y.cls, ha]; rfl⟩
end
end Mine

namespace Mine
open PySem PyProof.Rows PySem.W

noncomputable def gdOf (prog : Program) (w : World) (base : Heap) (gens : Array GenState) (os : OsState) (mg mb : Str → Option Value) (cs : List (Str × Addr)) (hg : base.Ns mainGlobals mg) (hb : base.Ns builtinsNs mb) (hn : base.NoLimit) (hbl : ∀ x : Str, x ≠ "__name__" → mb x = bootBuiltins x)
    (hd : ∃ mc, base.Ns cStatics mc ∧ mc "sys.int_max_str_digits" = none) (hs : ∃ a o, base.get? a = some o ∧ sysModules ≤ a) : Gd where
  prog := prog
  w := w
  base := base
  gens := gens
  os := os
  mg := mg
  mb := mb
  cls := fun c => (cs.lookup c).map .ref
  clsNe := fun c v h => by obtain ⟨a, _, rfl⟩ := Option.map_eq_some_iff.mp h; simp
  clsIt := fun c v h => by obtain ⟨a, _, rfl⟩ := Option.map_eq_some_iff.mp h; rfl
  g := hg
  b := hb
  nolimit := hn
  blt := hbl
  sys := hs
  nodigits := hd

noncomputable def fdOf (K : Frag) (a : Addr) : Option FuncData := match K.lookup a with
  | some ⟨_, _, .func fd, _⟩ => some fd
  | _ => none
noncomputable def psOf (fd : FuncData) : List Str := fd.params.args.map (·.arg)
noncomputable def bodyOf (fd : FuncData) : List Stmt := match fd.body with
  | .stmts b => b
  | _ => []
noncomputable def isStmts (fd : FuncData) : Bool := match fd.body with
  | .stmts _ => true
  | _ => false

structure FnIn (K : Frag) (gt : GT) (a : Addr) (fd : FuncData) (ms : List MS) : Prop where
  at' : fdOf K a = some fd
  body : isStmts fd = true
  glob : fd.globals = mainGlobals
  blt : fd.builtins = builtinsNs
  clo : fd.closure = []
  code : codeIn K fd.code fd.qualname = true
  bind : ∀ xs : List Value, xs.length = (psOf fd).length → bindArgs fd ⟨xs, []⟩ = pure ((psOf fd).zip xs)
  comp : CompK gt (psOf fd) fd.scope (bodyOf fd) ms
  chk : fnCheck gt (psOf fd) fd.scope (bodyOf fd) = true

section
variable {G : Gd} {K : Frag} {gt : GT} {f : Str} {a : Addr} {fd : FuncData} {ms : List MS}
theorem FnIn.fn (X : K.In G.base) (h : FnIn K gt a fd ms) : FnAt G a (psOf fd) fd.scope (bodyOf fd) := by
  have h2 := h.at'
  unfold fdOf at h2
  split at h2
  · rename_i c d fd' sl e
    cases h2
    refine ⟨_, fd, X a _ e, rfl, ?_, rfl, h.glob, h.blt, h.clo, codeRec_of X h.code, h.bind⟩
    have := h.body
    unfold isStmts at this
    unfold bodyOf
    split at this
    · rename_i b e; rw [e]
    · cases this
  · cases h2

theorem FnIn.sem {d : Nat} {t : Th} {args : List AV} {Q : AV → Md → Prop} {X' : Str → Prop} (X : K.In G.base) (h : FnIn K gt a fd ms) (gok : GtOk G gt) (ht : ThG G d t) (n : Nat) (hn : (ccOf gt (psOf fd) fd.scope (bodyOf fd)).Γ.length = n) (hlen : args.length = (psOf fd).length)
    (hw : wpSs t ms (rho0 n args) (fun _ => Q .none .fr) (fun _ => False) Q (fun _ c => X' c)) : SemAt G (d + 1) t.loops a args Q X' :=
  call_ok (h.fn X) gok h.comp h.chk ht hlen (by rw [hn]; exact hw)
noncomputable def fdD (K : Frag) (a : Addr) : FuncData := (fdOf K a).getD default
noncomputable def Fn (K : Frag) (gt : GT) (f : Str) (ms : List MS) (k l : Nat) : Prop := ∃ a, nsIn K mainGlobals f = some (some (.ref a)) ∧ FnIn K gt a (fdD K a) ms ∧ (psOf (fdD K a)).length = k ∧ (ccOf gt (psOf (fdD K a)) (fdD K a).scope (bodyOf (fdD K a))).Γ.length = l
noncomputable def fnOk (K : Frag) (gt : GT) (a : Addr) (k l : Nat) : Bool := (fdOf K a).isSome && isStmts (fdD K a) && (fdD K a).globals == mainGlobals && (fdD K a).builtins == builtinsNs && (fdD K a).closure.isEmpty && codeIn K (fdD K a).code (fdD K a).qualname && fnCheck gt (psOf (fdD K a)) (fdD K a).scope (bodyOf (fdD K a)) && (psOf (fdD K a)).length == k && (ccOf gt (psOf (fdD K a)) (fdD K a).scope (bodyOf (fdD K a))).Γ.length == l
theorem FnIn.of {k l : Nat} (h : fnOk K gt a k l = true) (hb : ∀ xs : List Value, xs.length = (psOf (fdD K a)).length → bindArgs (fdD K a) ⟨xs, []⟩ = pure ((psOf (fdD K a)).zip xs)) (hc : CompK gt (psOf (fdD K a)) (fdD K a).scope (bodyOf (fdD K a)) ms) :
    FnIn K gt a (fdD K a) ms ∧ (psOf (fdD K a)).length = k ∧ (ccOf gt (psOf (fdD K a)) (fdD K a).scope (bodyOf (fdD K a))).Γ.length = l := by
  obtain ⟨h, h9⟩ := and2 h
  obtain ⟨h, h8⟩ := and2 h
  obtain ⟨h, h7⟩ := and2 h
  obtain ⟨h, h6⟩ := and2 h
  obtain ⟨h, h5⟩ := and2 h
  obtain ⟨h, h4⟩ := and2 h
  obtain ⟨h, h3⟩ := and2 h
  obtain ⟨h1, h2⟩ := and2 h
  obtain ⟨fd, e⟩ := Option.isSome_iff_exists.mp h1
  exact ⟨⟨by rw [e]; unfold fdD; rw [e]; rfl, h2, eq_of_beq h3, eq_of_beq h4, List.isEmpty_iff.mp h5, h6, hb, hc, h7⟩, eq_of_beq h8, eq_of_beq h9⟩
theorem Fn.of {k l : Nat} (hn : nsIn K mainGlobals f = some (some (.ref a))) (h : fnOk K gt a k l = true) (hb : ∀ xs : List Value, xs.length = (psOf (fdD K a)).length → bindArgs (fdD K a) ⟨xs, []⟩ = pure ((psOf (fdD K a)).zip xs)) (hc : compF gt (psOf (fdD K a)) (fdD K a).scope (bodyOf (fdD K a)) = some ms) : Fn K gt f ms k l := ⟨a, hn, FnIn.of h hb (compK_of hc)⟩
theorem Fn.call {d : Nat} {t : Th} {args : List AV} {Q : AV → Md → Prop} {X' : Str → Prop} {k n : Nat} (X : K.In G.base) (h : Fn K gt f ms k n) (gok : GtOk G gt) (ht : ThG G d t) (hlen : args.length = k)
    (hw : wpSs t ms (rho0 n args) (fun _ => Q .none .fr) (fun _ => False) Q (fun _ c => X' c)) : SemCall G (d + 1) t.loops f args Q X' := by
  obtain ⟨a, nm, h, rfl, hn⟩ := h
  exact ⟨a, mg_of X G.g nm, h.sem X gok ht n hn hlen hw⟩
theorem Fn.callee {k n : Nat} (X : K.In G.base) (h : Fn K gt f ms k n) : ∃ a, G.mg f = some (.ref a) ∧ Callee G a := by
  obtain ⟨a, nm, h, _, _⟩ := h
  obtain ⟨o, fd, h1, h2, _⟩ := h.fn X
  exact ⟨a, mg_of X G.g nm, .fn h1 h2⟩


noncomputable def CalN (G : Gd) (f : Str) : Prop := ∃ a, G.mg f = some (.ref a) ∧ Callee G a
inductive AllC (G : Gd) : List Str → Prop
  | nil : AllC G []
  | cons {f : Str} {r : List Str} (h : CalN G f) (t : AllC G r) : AllC G (f :: r)
theorem AllC.at {l : List Str} (h : AllC G l) : ∀ f, l.contains f = true → CalN G f := by
  induction h with
  | nil => intro f q; cases q
  | @cons g r h _ ih =>
    intro f q
    rw [List.contains_cons, Bool.or_eq_true] at q
    rcases q with q | q
    · rw [eq_of_beq q]; exact h
    · exact ih f q
theorem len0 {xs : List Value} (h : xs.length = 0) : xs = [] := List.length_eq_zero_iff.mp h
theorem lenS {xs : List Value} {n : Nat} (h : xs.length = n + 1) : ∃ a r, xs = a :: r ∧ r.length = n := by
  cases xs with
  | nil => cases h
  | cons a r => exact ⟨a, r, rfl, Nat.succ.inj h⟩
theorem len1 {xs : List Value} (h : xs.length = 1) : ∃ a, xs = [a] := by
  obtain ⟨a, r, rfl, h'⟩ := lenS h
  exact ⟨a, by rw [len0 h']⟩
theorem len2 {xs : List Value} (h : xs.length = 2) : ∃ a b, xs = [a, b] := by
  obtain ⟨a, r, rfl, h'⟩ := lenS h
  obtain ⟨b, rfl⟩ := len1 h'
  exact ⟨a, b, rfl⟩
theorem len3 {xs : List Value} (h : xs.length = 3) : ∃ a b c, xs = [a, b, c] := by
  obtain ⟨a, r, rfl, h'⟩ := lenS h
  obtain ⟨b, c, rfl⟩ := len2 h'
  exact ⟨a, b, c, rfl⟩

theorem law_end (l : OpenLaw) {cl : Str → Option Addr} {mean : ExcName → Option Value} {args : List WData} {s₁ s' : Shared} (hk : ∀ b o, s₁.heap.get? b = some o → s'.heap.get? b = some o) (ho : s'.os = s₁.os) (hg : s'.gens = #[]) :
    GoodW (l.row.toRowW).claim cl mean args s₁ (.ok (.ret (.bool true))) s' := by
  refine ⟨.inl ⟨.bool true, .bool true, [], rfl, fun cls => rfl, .bool true, ?_, fun _ => ⟨List.nodup_nil, fun a h => nomatch h⟩⟩, hk, ho, hg⟩
  exact postW_of (r := l.row.toRowW) (X := true) (by rfl) (by simp [OpenLaw.row, WTm.value]; exact same_self _) rfl

theorem ints_VR {h : Heap} {S : Addr → Prop} : ∀ {vs : List Value} {ns : List Int}, IntsAre vs ns → VRs G S h (ns.map .int) vs
  | [], [], _ => trivial
  | v :: vs, n :: ns, e => by
    cases e with
    | cons _ _ e2 => exact ⟨⟨_, rfl⟩, ints_VR e2⟩

theorem law_call {l : OpenLaw} {w : World} {d : Nat} {fa la : Addr} {vs : List Value} {ns : List Int} {cl : Str → Option Addr} {mean : ExcName → Option Value} {args : List WData} {s₁ : Shared} (hp : G.prog = l.row.prog) (hw : G.w = w) (hb : G.base = s₁.heap) (hgn : G.gens = #[]) (hs : s₁.gens = #[]) (hos : G.os = s₁.os)
    (hm : G.mg (Str.ofString "law") = some (.ref fa)) (hl : s₁.heap.IsList la vs.toArray) (hi : IntsAre vs ns) (hz : ¬ (63 : Int) < ns.length) (hd : d ≤ 600)
    (h : SemCall G d true (Str.ofString "law") [.lst (ns.map .int)] (fun v _ => v = .bool true) (fun _ => False)) :
    codeAny (model l.row.prog w) callerA (.call (.ref fa) ⟨[.ref la], []⟩) (GoodW (l.row.toRowW).claim cl mean args s₁) s₁ := by
  obtain ⟨a, h1, h⟩ := h
  rw [hm] at h1; cases h1
  subst hw
  rw [← hp]
  have hv : VRs G (fun _ => False) s₁.heap [.lst (ns.map .int)] [.ref la] := ⟨⟨by have : top = 16777216 := rfl; simp; (first | lia | omega), la, vs, rfl, fun q => q, ⟨hl, fun n => by obtain ⟨o, e, _⟩ := hl; rw [hb, e] at n; cases n⟩, ints_VR hi⟩, trivial⟩
  refine codeAny_mono (h callerA [] s₁ [.ref la] rfl (by show 1 + 300 + d < 1000; (first | lia | omega)) (by show 4 + 10 * d + 20 < 9900; (first | lia | omega)) (fun _ => rfl) (by rw [hb]; exact Kp.refl ..) trivial (fun b hb => by simp at hb) (hs.trans hgn.symm) hos.symm hv) fun r s' hr => ?_
  cases r with
  | error e => obtain ⟨_, q, _⟩ := hr; exact q.elim
  | ok fl => cases fl with
    | ret v =>
      obtain ⟨av, m, rfl, X, rm⟩ := hr
      have hv' : v = .bool true := by
        cases m
        · exact rm.elim
        · exact rm
        · obtain ⟨r, _, _, q⟩ := rm; exact q.elim
        · exact rm.elim
      subst hv'
      exact law_end l (fun b o e => (X.1.kp b o e).1 (.inr (by rw [hb, e]; rfl))) X.2.2 (X.2.1.trans hs)
    | _ => exact hr.elim
end
end Mine

namespace Mine
open PySem PyProof.Rows PySem.W

noncomputable def bisT : List (Str × Value) := [(B "len", .builtin "len"), (B "range", .type "range"), (B "list", .type "list"), (B "tuple", .type "tuple"), (B "all", .builtin "all"), (B "any", .builtin "any"), (B "max", .builtin "max"), (B "min", .builtin "min"), (B "sorted", .builtin "sorted"),
  (B "int", .type "int"), (B "set", .type "set"), (B "str", .type "str"), (B "isinstance", .builtin "isinstance"), (B "bool", .type "bool"), (B "ValueError", .type "ValueError")]

theorem bisT_ok : ∀ p ∈ bisT, bootBuiltins p.1 = some p.2 ∧ p.1 ≠ "__name__" ∧ ((∃ T, p.2 = .type T) ∨ ∃ id, p.2 = .builtin id) := by
  intro p hp
  simp only [bisT, List.mem_cons, List.not_mem_nil, or_false] at hp
  rcases hp with rfl | rfl | rfl | rfl | rfl | rfl | rfl | rfl | rfl | rfl | rfl | rfl | rfl | rfl | rfl <;>
    exact ⟨by decide +kernel, by decide, by first | exact .inl ⟨_, rfl⟩ | exact .inr ⟨_, rfl⟩⟩

theorem bis_ok {G : Gd} (ng : NoG G (bisT.map (·.1))) : ∀ f, (bisT.map (·.1)).contains f = true → ∃ F, BiAt G f F := by
  intro f hf
  have hm : f ∈ bisT.map (·.1) := by simpa using hf
  obtain ⟨p, hp, rfl⟩ := List.mem_map.mp hm
  obtain ⟨h1, h2, h3⟩ := bisT_ok p hp
  exact ⟨p.2, ng _ hm, h1, h2, h3⟩

theorem bis_at {G : Gd} (ng : NoG G (bisT.map (·.1))) {f : Str} {F : Value} (h : (f, F) ∈ bisT) : BiAt G f F := ⟨ng f (List.mem_map.mpr ⟨_, h, rfl⟩), bisT_ok _ h⟩
theorem bis4_of {G : Gd} (ng : NoG G (bisT.map (·.1))) : BiOk G (tabF bis4) := bis4_ok fun f hf => ng f (by revert hf; simp only [List.mem_cons, List.not_mem_nil, or_false]; rintro (rfl | rfl | rfl | rfl) <;> decide)
theorem isi_of {G : Gd} {t : Th} (ng : NoG G (bisT.map (·.1))) (hex : ∀ c f b, t.sub c f = some b → ∃ F, NameAt G f F ∧ ∀ (A : Around) (s : Shared) (x : Value) (E : Value → Shared → Prop), Kp G.base G.base s.heap → VR G (fun _ => False) s.heap (.exc c) x →
      wpAny (model G.prog G.w) A (PySem.call (.builtin "isinstance") [x, F]) (fun r s' => r = .bool b ∧ Ext G s s') E s) : ∀ v f b, isinst t v f = some b → BiAt G (Str.ofString "isinstance") (.builtin "isinstance") ∧ ∃ F, NameAt G f F ∧
    ∀ (A : Around) (s : Shared) (x : Value) (E : Value → Shared → Prop), A.units + 20 < cLine → Kp G.base G.base s.heap → VR G (fun _ => False) s.heap v x →
      wpAny (model G.prog G.w) A (PySem.call (.builtin "isinstance") [x, F]) (fun r s' => r = .bool b ∧ Ext G s s') E s :=
  fun v f b h => isi_ok (fun f hf => ng f (by revert hf; simp only [List.mem_cons, List.not_mem_nil, or_false]; rintro (rfl | rfl | rfl | rfl | rfl | rfl) <;> decide)) (fun c b hc => hex c f b hc) h
end Mine

namespace Mine
open PySem PyProof.Rows PySem.W
end Mine

namespace Mine
open PySem
namespace LP

structure Gte where
  kind : Nat
  src : List Nat
  dly : Nat
noncomputable def nAV (ns : List Nat) : List AV := ns.map fun (n : Nat) => .int (n : Int)
theorem small62 {n : Nat} (h : n ≤ 100000) : ((n : Int)).natAbs < 2 ^ 62 := by rw [Int.natAbs_natCast]; (first | lia | omega)
theorem nAV_top {ns : List Nat} (h : ns.length ≤ 100000) : (nAV ns).length ≤ top := by
  have tt : top = 16777216 := rfl
  unfold nAV; rw [List.length_map]; (first | lia | omega)
theorem rng_top {n : Nat} (h : n ≤ 100000) : (nAV (List.range n)).length ≤ top := nAV_top (by rw [List.length_range]; exact h)
theorem le_of9 {n : Nat} (h : n ≤ 9) : n ≤ 100000 := Nat.le_trans h (by decide)
theorem map_top {α : Type} {f : α → AV} {l : List α} (h : l.length ≤ 100000) : (l.map f).length ≤ top := by
  have tt : top = 16777216 := rfl
  rw [List.length_map]; (first | lia | omega)
noncomputable def gAV (g : Gte) : AV := .tup [.str (B (kindS.getD g.kind "")), .tup (nAV g.src), .int (g.dly : Int)]
noncomputable abbrev bnd (i : Nat) : AV := .tup [.int (wideN.getD i (0, 0)).1, .int (wideN.getD i (0, 0)).2]
noncomputable def fits (i n : Nat) : Bool := decide ((wideN.getD i (0, 0)).1 ≤ n) && decide (n ≤ (wideN.getD i (0, 0)).2)
structure Gte.Ok (g : Gte) (below most : Nat) : Prop where
  kind : g.kind < 9
  fit : fits g.kind g.src.length = true
  src : ∀ s ∈ g.src, s < below
  lo : 1 ≤ g.dly
  hi : g.dly ≤ most
noncomputable def pAV (many : Nat) (gs : List Gte) : AV := .tup [.int (many : Int), .lst (gs.map gAV)]
structure Valid (many : Nat) (gs : List Gte) : Prop where
  few : many ≤ 60
  len : gs.length ≤ 200
  ok : ∀ g ∈ gs, g.Ok (many + gs.length) 60

theorem kidx_kind (i : Nat) (h : i < 9) : kidx (B (kindS.getD i "")) = some i := by
  have : ∀ i, i < 9 → kidx (B (kindS.getD i "")) = some i := by decide
  exact this i h
theorem fit_le {i n : Nat} (hi : i < 9) (h : fits i n = true) : (wideN.getD i (0, 0)).1 ≤ n ∧ n ≤ (wideN.getD i (0, 0)).2 ∧ n ≤ 9 := by
  have a := of_decide_eq_true (Bool.and_eq_true_iff.mp h).1
  have b := of_decide_eq_true (Bool.and_eq_true_iff.mp h).2
  have : ∀ i, i < 9 → (wideN.getD i (0, 0)).2 ≤ 9 := by decide
  have := this i hi
  (first | lia | omega)


noncomputable def ms_check_gate : List MS :=
  [(.unp [2, 3] (.call (B "wants") [(.sub (.var 0) (.cst (.int 0)))])),
   (.ite (.bop false [(.cmp .Lt (.bi (B "len") [(.sub (.var 0) (.cst (.int 1)))]) (.var 2)), (.cmp .Gt (.bi (B "len") [(.sub (.var 0) (.cst (.int 1)))]) (.var 3))]) [(.rai (B "NoSources"))] []),
   (.for 4 (.sub (.var 0) (.cst (.int 1))) [(.ite (.bop false [(.cmp .Lt (.var 4) (.cst (.int 0))), (.cmp .GtE (.var 4) (.var 1))]) [(.rai (B "NoLine"))] [])]),
   (.ite (.bop false [(.cmp .Lt (.sub (.var 0) (.cst (.int 2))) (.cst (.int 1))), (.cmp .Gt (.sub (.var 0) (.cst (.int 2))) (.gv (B "MOST_DELAY")))]) [(.rai (B "NoDelay"))] [])]

section
variable {t : Th}

theorem src_loop (s0 s2 s3 : Slot) (count : Nat) (m1 m : Sm) (N K : Rho → Prop) (R : AV → Md → Prop) (X : Rho → Str → Prop) (h : ∀ v, N [s0, some (.int count, m1), s2, s3, v]) : ∀ (ss : List Nat) (v : Slot), (∀ s ∈ ss, s < count) →
    loopF 4 m (fun ρ' k => wpSs t [(.ite (.bop false [(.cmp .Lt (.var 4) (.cst (.int 0))), (.cmp .GtE (.var 4) (.var 1))]) [(.rai (B "NoLine"))] [])] ρ' k K R X) (nAV ss) [s0, some (.int count, m1), s2, s3, v] N
  | [], v, _ => h v
  | s :: ss, v, hs => by
    have := hs s (.head _)
    exact s_Ite <| t_bop <| t_cons <| t_cvc rfl <| nd (lt_int ..) <| i_pos (decide_eq_false (by (first | lia | omega))) <| t_cons <| t_cvv rfl rfl <| nd (ge_int ..) <| i_pos (decide_eq_false (by (first | lia | omega))) <| t_nil <| i_neg (by decide) <|
      s_nil <| s_nil <| src_loop s0 s2 s3 count m1 m N K R X h ss _ fun z hz => hs z (.tail _ hz)

theorem check_gate_wp (b : Bas t) (hd : t.data (B "MOST_DELAY") = some (.int 60)) (hw : ∀ (k : Str) (i : Nat) (Q : AV → Md → Prop) (X : Str → Prop), kidx k = some i → Q (bnd i) .fr → t.call (B "wants") [.str k] Q X)
    (g : Gte) (count : Nat) (ok : g.Ok count 60) (N : Rho → Prop) (Q : AV → Md → Prop) (X : Rho → Str → Prop) (h : ∀ ρ, N ρ) : wpSs t ms_check_gate (rho0 5 [gAV g, .int count]) N (fun _ => False) Q X := by
  obtain ⟨f1, f2, f3⟩ := fit_le ok.kind ok.fit
  have o1 := ok.lo
  have o2 := ok.hi
  have tt : top = 16777216 := rfl
  refine s_Unp b.loops <| w_one <| w_t0 rfl <| hw _ g.kind _ _ (kidx_kind _ ok.kind) ⟨nofun, rfl, ?_⟩
  refine s_Ite <| t_bop <| t_cons <| t_cmp <| w_bi <| w_cons <| w_t1 rfl <| w_nil <| (b.lent ..).mpr <| w_var rfl <| nd (lt_int ..) ?_
  have ll : (nAV g.src).length = g.src.length := List.length_map ..
  refine i_pos (decide_eq_false (by rw [ll]; (first | lia | omega))) <| t_cons <| t_cmp <| w_bi <| w_cons <| w_t1 rfl <| w_nil <| (b.lent ..).mpr <| w_var rfl <| nd (gt_int ..) ?_
  refine i_pos (decide_eq_false (by rw [ll]; (first | lia | omega))) <| t_nil <| i_neg (by decide) <| s_nil ?_
  refine s_For b.loops <| w_t1 rfl ⟨nofun, nd (r := nAV g.src) rfl ⟨nAV_top (le_of9 f3), src_loop _ _ _ count _ _ _ _ _ _ (fun v => ?_) g.src _ ok.src⟩⟩
  exact s_Ite <| t_bop <| t_cons <| t_cmp <| w_t2 rfl <| w_cst <| nd (lt_int ..) <| i_pos (decide_eq_false (by (first | lia | omega))) <|
    t_cons <| t_cmp <| w_t2 rfl <| w_gv hd <| nd (gt_int ..) <| i_pos (decide_eq_false (by (first | lia | omega))) <| t_nil <| i_neg (by decide) <| s_nil <| s_nil <| h _

noncomputable def ms_checked : List MS :=
  [(.asg 1 (.sub (.var 0) (.cst (.int 0)))),
   (.asg 2 (.sub (.var 0) (.cst (.int 1)))),
   (.ite (.bop false [(.cmp .Lt (.var 1) (.cst (.int 0))), (.cmp .Gt (.var 1) (.gv (B "MOST_INPUTS"))), (.cmp .Gt (.bi (B "len") [(.var 2)]) (.gv (B "MOST_GATES")))]) [(.rai (B "NoSize"))] []),
   (.asg 3 (.bin .Add (.var 1) (.bi (B "len") [(.var 2)]))),
   (.for 4 (.var 2) [(.ex (.call (B "check_gate") [(.var 4), (.var 3)]))]),
   (.ret (.var 3))]

theorem gates_loop (s0 s1 s2 : Slot) (count : Nat) (m3 m : Sm) (N K : Rho → Prop) (R : AV → Md → Prop) (X : Rho → Str → Prop) (h : ∀ v, N [s0, s1, s2, some (.int count, m3), v])
    (hc : ∀ (g : Gte) (Q : AV → Md → Prop) (X : Str → Prop), g.Ok count 60 → Q .none .fr → t.call (B "check_gate") [gAV g, .int count] Q X) : ∀ (gs : List Gte) (v : Slot), (∀ g ∈ gs, g.Ok count 60) →
    loopF 4 m (fun ρ' k => wpSs t [(.ex (.call (B "check_gate") [(.var 4), (.var 3)]))] ρ' k K R X) (gs.map gAV) [s0, s1, s2, some (.int count, m3), v] N
  | [], v, _ => h v
  | g :: gs, v, hs => s_Ex <| w_2vv rfl rfl <| hc g _ _ (hs g (.head _)) <| s_nil <| gates_loop s0 s1 s2 count m3 m N K R X h hc gs _ fun z hz => hs z (.tail _ hz)

theorem checked_wp (b : Bas t) (h1 : t.data (B "MOST_INPUTS") = some (.int 60)) (h2 : t.data (B "MOST_GATES") = some (.int 200))
    (hc : ∀ (g : Gte) (count : Nat) (Q : AV → Md → Prop) (X : Str → Prop), g.Ok count 60 → Q .none .fr → t.call (B "check_gate") [gAV g, .int count] Q X)
    (many : Nat) (gs : List Gte) (ok : Valid many gs) (N : Rho → Prop) (Q : AV → Md → Prop) (X : Rho → Str → Prop) (h : Q (.int ((many + gs.length : Nat) : Int)) .fr) : wpSs t ms_checked (rho0 5 [pAV many gs]) N (fun _ => False) Q X := by
  have o1 := ok.few
  have o2 := ok.len
  have tt : top = 16777216 := rfl
  have ll : (gs.map gAV).length = gs.length := List.length_map ..
  refine s_T0 rfl nofun ?_
  refine s_T1 rfl nofun ?_
  refine s_Ite <| t_bop <| t_cons <| t_cvc rfl <| nd (lt_int ..) <| i_pos (decide_eq_false (by (first | lia | omega))) <| t_cons <| t_cmp <| w_var rfl <| w_gv h1 <| nd (gt_int ..) <| i_pos (decide_eq_false (by (first | lia | omega))) <|
    t_cons <| t_cmp <| w_len b.toBas0 rfl <| w_gv h2 <| nd (gt_int ..) <| i_pos (decide_eq_false (by rw [ll]; (first | lia | omega))) <| t_nil <| i_neg (by decide) <| s_nil ?_
  refine s_Asg <| w_bin <| w_var rfl <| w_len b.toBas0 rfl <| nd (add_int ..) ⟨by rw [md_int]; nofun, ?_⟩
  rw [ll, show ((many : Nat) : Int) + (gs.length : Nat) = ((many + gs.length : Nat) : Int) from rfl]
  exact s_For b.loops <| w_var rfl ⟨nofun, nd (r := gs.map gAV) rfl ⟨by rw [ll]; (first | lia | omega), gates_loop _ _ _ _ _ _ _ _ _ _ (fun v => by exact s_Ret <| w_var rfl ⟨by rw [md_int]; nofun, by rw [md_int]; rfl, by rw [md_int]; exact h⟩) (fun g Q X => hc g _ Q X) gs _ ok.ok⟩⟩



end
end LP
end Mine

namespace Mine
open PySem
namespace LP

noncomputable def lines (many n : Nat) : List Nat := (List.range n).map (many + ·)



end LP
end Mine

namespace Mine
open PySem
namespace LP

theorem rng_items (a n : Nat) : items (.rng (a : Int) ((a + n : Nat) : Int)) = some (nAV (lines a n)) := by
  show some (rangeL a ((a + n : Nat) : Int)) = _
  unfold rangeL nAV lines
  have e : (((a + n : Nat) : Int) - (a : Int)).toNat = n := by (first | lia | omega)
  rw [e, List.map_map]
  congr 1
theorem rng_items0 (n : Nat) : items (.rng 0 (n : Int)) = some (nAV (List.range n)) := by
  have := rng_items 0 n
  rw [Nat.zero_add] at this
  have e : lines 0 n = List.range n := by
    unfold lines
    have : (fun x => 0 + x : Nat → Nat) = id := by funext x; exact Nat.zero_add x
    rw [this, List.map_id]
  rwa [e] at this
theorem get_gate (gs : List Gte) (j : Nat) (h : j < gs.length) : subs (.lst (gs.map gAV)) (.int (j : Int)) = some (gAV (gs.getD j ⟨0, [], 1⟩)) :=
  sub_lst _ j _ (by rw [List.getElem?_map, List.getElem?_eq_getElem h, List.getD_eq_getElem?_getD, List.getElem?_eq_getElem h]; rfl)
theorem getD_mem (gs : List Gte) (j : Nat) (h : j < gs.length) : gs.getD j ⟨0, [], 1⟩ ∈ gs := by rw [List.getD_eq_getElem?_getD, List.getElem?_eq_getElem h]; exact List.getElem_mem h

section
variable {t : Th}




end
end LP
end Mine

namespace Mine
open PySem
namespace LP
section
variable {t : Th}




theorem bools_map (bs : List Bool) : boolsO (bs.map .bool) = some bs := by
  induction bs with
  | nil => rfl
  | cons b bs ih => show (boolsO (bs.map .bool)).map (b :: ·) = _; rw [ih]; rfl


end
end LP
end Mine

namespace Mine
open PySem
namespace LP
section
variable {t : Th}

noncomputable def ms_many : List MS :=
  [(.ite (.cmp .Eq (.bin .Mod (.bin .FloorDiv (.var 0) (.cst (.int 6))) (.cst (.int 8))) (.cst (.int 1))) [(.ret (.bin .Add (.cst (.int 50)) (.bin .Mod (.bin .FloorDiv (.var 0) (.cst (.int 48))) (.cst (.int 11)))))] []),
   (.ite (.cmp .Eq (.bin .Mod (.bin .FloorDiv (.var 0) (.cst (.int 6))) (.cst (.int 4))) (.cst (.int 2))) [(.ret (.bin .Add (.cst (.int 6)) (.bin .Mod (.bin .FloorDiv (.var 0) (.cst (.int 48))) (.cst (.int 44)))))] []),
   (.ret (.bin .Mod (.var 0) (.cst (.int 6))))]
theorem many_wp (c : Int) (N : Rho → Prop) (Q : AV → Md → Prop) (X : Rho → Str → Prop) (h : ∀ m : Nat, m ≤ 60 → Q (.int (m : Int)) .fr) : wpSs t ms_many (rho0 1 [.int c]) N (fun _ => False) Q X := by
  have fin : ∀ (x : Int) (lo : Nat), 0 ≤ x → (lo : Int) + x ≤ 60 → Q (.int ((lo : Int) + x)) .fr := fun x lo h1 h2 => by
    obtain ⟨n, rfl⟩ := Int.eq_ofNat_of_zero_le h1
    rw [show ((lo : Nat) : Int) + (n : Nat) = ((lo + n : Nat) : Int) from rfl]
    exact h _ (by (first | lia | omega))
  refine s_Ite <| t_cmp <| w_bin <| w_bvc rfl <| nd (div_int _ 6 (by decide)) <| w_cst <| nd (mod_int _ 8 (by decide)) <| w_cst <| nd (eq_int ..) ?_
  by_cases q1 : ((c.fdiv 6).fmod 8 == 1) = true
  · have p1 := Int.fmod_nonneg_of_pos (c.fdiv 48) (b := 11) (by decide)
    have p2 := Int.fmod_lt_of_pos (c.fdiv 48) (b := 11) (by decide)
    exact i_pos q1 <| s_Ret <| w_bin <| w_cst <| w_bin <| w_bvc rfl <| nd (div_int _ 48 (by decide)) <| w_cst <| nd (mod_int _ 11 (by decide)) <| nd (add_int ..) ⟨nofun, rfl, fin _ 50 p1 (by show (50 : Int) + _ ≤ 60; (first | lia | omega))⟩
  refine i_neg q1 <| s_nil <| s_Ite <| t_cmp <| w_bin <| w_bvc rfl <| nd (div_int _ 6 (by decide)) <| w_cst <| nd (mod_int _ 4 (by decide)) <| w_cst <| nd (eq_int ..) ?_
  by_cases q2 : ((c.fdiv 6).fmod 4 == 2) = true
  · have p1 := Int.fmod_nonneg_of_pos (c.fdiv 48) (b := 44) (by decide)
    have p2 := Int.fmod_lt_of_pos (c.fdiv 48) (b := 44) (by decide)
    exact i_pos q2 <| s_Ret <| w_bin <| w_cst <| w_bin <| w_bvc rfl <| nd (div_int _ 48 (by decide)) <| w_cst <| nd (mod_int _ 44 (by decide)) <| nd (add_int ..) ⟨nofun, rfl, fin _ 6 p1 (by show (6 : Int) + _ ≤ 60; (first | lia | omega))⟩
  have p1 := Int.fmod_nonneg_of_pos c (b := 6) (by decide)
  have p2 := Int.fmod_lt_of_pos c (b := 6) (by decide)
  refine i_neg q2 <| s_nil <| s_Ret <| w_bvc rfl <| nd (mod_int _ 6 (by decide)) ⟨nofun, rfl, ?_⟩
  have := fin _ 0 p1 (by show (0 : Int) + _ ≤ 60; (first | lia | omega))
  rwa [show ((0 : Nat) : Int) + c.fmod 6 = c.fmod 6 by (first | lia | omega)] at this

noncomputable def CMix (t : Th) : Prop := ∀ (c k n : Int) (Q : AV → Md → Prop) (X : Str → Prop), 0 < n → Q (.int (mixF c k n)) .fr → t.call (B "_law_mixed") [.int c, .int k, .int n] Q X

noncomputable def ways : List Nat := [0, 1, 2, 3, 4, 5, 6, 7, 8, 3, 6, 7]
noncomputable def manyN : List Nat := [0, 0, 1, 1, 2, 2, 2, 3, 3]
noncomputable def someN : List Nat := [2, 2, 3, 4, 5, 6, 7, 8, 9]
theorem get_nat (l : List Nat) (i : Nat) (h : i < l.length) : subs (.lst (nAV l)) (.int (i : Int)) = some (.int ((l.getD i 0 : Nat) : Int)) :=
  sub_lst _ i _ (by unfold nAV; rw [List.getElem?_map, List.getElem?_eq_getElem h, List.getD_eq_getElem?_getD, List.getElem?_eq_getElem h]; rfl)
theorem get_kind (i : Nat) (h : i < 9) : subs (.lst kinds) (.int (i : Nat)) = some (.str (B (kindS.getD i ""))) :=
  sub_lst _ i _ (by unfold kinds; rw [List.getElem?_map, List.getElem?_eq_getElem (show i < kindS.length from h), List.getD_eq_getElem?_getD, List.getElem?_eq_getElem (show i < kindS.length from h)]; rfl)

noncomputable def ms_gate_by : List MS :=
  [(.asg 3 (.sub (.lst [(.cst (.int 0)), (.cst (.int 1)), (.cst (.int 2)), (.cst (.int 3)), (.cst (.int 4)), (.cst (.int 5)), (.cst (.int 6)), (.cst (.int 7)), (.cst (.int 8)), (.cst (.int 3)), (.cst (.int 6)), (.cst (.int 7))]) (.bin .Mod (.var 0) (.cst (.int 12))))),
   (.ite (.cmp .Eq (.var 1) (.cst (.int 0))) [(.asg 3 (.bin .Mod (.var 0) (.cst (.int 2))))] []),
   (.asg 4 (.sub (.lst [(.cst (.int 0)), (.cst (.int 0)), (.cst (.int 1)), (.cst (.int 1)), (.cst (.int 2)), (.cst (.int 2)), (.cst (.int 2)), (.cst (.int 3)), (.cst (.int 3))]) (.var 3))),
   (.ite (.cmp .Eq (.var 4) (.cst (.int 2))) [(.asg 4 (.sub (.lst [(.cst (.int 2)), (.cst (.int 2)), (.cst (.int 3)), (.cst (.int 4)), (.cst (.int 5)), (.cst (.int 6)), (.cst (.int 7)), (.cst (.int 8)), (.cst (.int 9))]) (.call (B "_law_mixed") [(.var 0), (.cst (.int 9)), (.cst (.int 9))])))] []),
   (.asm 5 (.comp (.call (B "_law_mixed") [(.bin .FloorDiv (.var 0) (.cst (.int 12))), (.var 7), (.var 1)]) (.bi (B "range") [(.var 4)]) none)),
   (.ite (.bop true [(.cmp .Gt (.var 4) (.cst (.int 0))), (.cmp .Eq (.bin .Mod (.bin .FloorDiv (.var 0) (.cst (.int 12))) (.cst (.int 2))) (.cst (.int 1)))]) [(.sto 5 (.cst (.int 0)) (.bin .Sub (.var 1) (.cst (.int 1))))] []),
   (.asg 6 (.sub (.lst [(.cst (.str (B "yes"))), (.cst (.str (B "no"))), (.cst (.str (B "keep"))), (.cst (.str (B "not"))), (.cst (.str (B "both"))), (.cst (.str (B "either"))), (.cst (.str (B "unlike"))), (.cst (.str (B "pick"))), (.cst (.str (B "most")))]) (.var 3))),
   (.ret (.tup [(.var 6), (.bi (B "tuple") [(.var 5)]), (.bin .Add (.cst (.int 1)) (.call (B "_law_mixed") [(.var 0), (.cst (.int 10)), (.var 2)]))]))]

theorem Bas.tuple (b : Bas t) (ss : List Nat) (k : AV × Md → Prop) (h : ∀ m, (m = .fr ∨ m = .sh) → k (.tup (nAV ss), m)) : need (t.bis (B "tuple") [(.lst (nAV ss), .bo)]) k := by
  rw [b.btp]
  refine ⟨(.tup (nAV ss), if frE .bo (.lst (nAV ss)) then .fr else .sh), rfl, h _ ?_⟩
  split
  · exact .inl rfl
  · exact .inr rfl

theorem lfs_nAV (ss : List Nat) : AV.lfs (nAV ss) = true := by
  induction ss with
  | nil => rfl
  | cons s ss ih => exact ih

theorem gate_end (b : Bas t) (hx : CMix t) (c : Int) (below most w : Nat) (hw : w < 9) (hm : 0 < most) (ss : List Nat) (hf : fits w ss.length = true) (hs : ∀ s ∈ ss, s < below) (m0 m1 m2 m3 : Sm) (s4 s6 : Slot) (N : Rho → Prop) (Q : AV → Md → Prop) (X : Rho → Str → Prop) (h : ∀ g : Gte, g.Ok below most → Q (gAV g) .fr) :
    wpSs t (ms_gate_by.drop 6) [some (.int c, m0), some (.int below, m1), some (.int most, m2), some (.int (w : Int), m3), s4, some (.lst (nAV ss), .mu), s6] N (fun _ => False) Q X := by
  obtain ⟨p1, p2⟩ := mixF_lt c 10 most (by (first | lia | omega))
  obtain ⟨d, hd⟩ := Int.eq_ofNat_of_zero_le p1
  refine s_Asg <| w_sub <| wp_lstc _ _ kinds _ (by decide) <| w_var rfl <| nd (get_kind w hw) ⟨nofun, ?_⟩
  refine s_Ret <| w_tup <| w_cv rfl <| w_cons <| w_bi <| w_vn rfl <| Bas.tuple b ss _ fun m hm' => ?_
  refine w_cons <| w_bin <| w_cst <| w_call <| w_cv rfl <| w_cc <| w_vn rfl <| hx _ _ _ _ _ (by (first | lia | omega)) <| nd (add_int ..) <| w_nil ⟨fun p hp => ?_, (by decide : (3 : Nat) ≤ top), ?_⟩
  · rcases List.mem_cons.mp hp with rfl | hp
    · nofun
    · rcases List.mem_cons.mp hp with rfl | hp
      · rcases hm' with rfl | rfl <;> nofun
      · rcases List.mem_cons.mp hp with rfl | hp
        · nofun
        · cases hp
  · rw [hd, show (1 : Int) + (d : Nat) = ((1 + d : Nat) : Int) by (first | lia | omega)]
    have e : List.all [((AV.str (B (kindS.getD w "")), slotMd (asSm (elMd .ow))) : AV × Md), (.tup (nAV ss), m), (.int ((1 + d : Nat) : Int), .fr)] (fun p => okF p.2 p.1) = true := by
      rcases hm' with rfl | rfl
      · rfl
      · show (true && (((Md.sh == .fr) || (Md.sh == .ow) || AV.lfs (nAV ss)) && (true && true))) = true
        rw [lfs_nAV]; rfl
    have := h ⟨w, ss, 1 + d⟩ ⟨hw, hf, hs, by show 1 ≤ 1 + d; (first | lia | omega), by show 1 + d ≤ most; (first | lia | omega)⟩
    show (if List.all [((AV.str (B (kindS.getD w "")), slotMd (asSm (elMd .ow))) : AV × Md), (.tup (nAV ss), m), (.int ((1 + d : Nat) : Int), binMd .Add (.int 1) .fr (.int d) .fr (.int ((1 + d : Nat) : Int)))] (fun p => okF p.2 p.1) = true then Md.fr else .sh) ≠ .bo ∧ _ ∧ Q _ (if (if List.all [((AV.str (B (kindS.getD w "")), slotMd (asSm (elMd .ow))) : AV × Md), (.tup (nAV ss), m), (.int ((1 + d : Nat) : Int), binMd .Add (.int 1) .fr (.int d) .fr (.int ((1 + d : Nat) : Int)))] (fun p => okF p.2 p.1) = true then Md.fr else .sh) = .ow then .ow else .fr)
    rw [md_int, e]
    exact ⟨nofun, rfl, this⟩

theorem gate_mid (b : Bas t) (hx : CMix t) (c : Int) (below most w n : Nat) (hw : w < 9) (hm : 0 < most) (hf : fits w n = true) (hb : 0 < n → 0 < below) (m0 m1 m2 m3 m4 : Sm) (s5 s6 : Slot) (N : Rho → Prop) (Q : AV → Md → Prop) (X : Rho → Str → Prop) (h : ∀ g : Gte, g.Ok below most → Q (gAV g) .fr) :
    wpSs t (ms_gate_by.drop 4) [some (.int c, m0), some (.int below, m1), some (.int most, m2), some (.int (w : Int), m3), some (.int (n : Int), m4), s5, s6] N (fun _ => False) Q X := by
  obtain ⟨_, _, n9⟩ := fit_le hw hf
  have tt : top = 16777216 := rfl
  refine s_Asm <| w_comp b.loops <| w_bi <| w_vn rfl <| (b.range _ _ _ (small62 (by (first | lia | omega)))).mpr <| nd (rng_items0 _) ⟨rng_top (by (first | lia | omega)), ?_⟩
  refine compL_map (fun v => match v with | .int j => .int (mixF (c.fdiv 12) j below) | v => v) .fr nofun _ (fun x hx' k hk => ?_) (fun x _ k hk => hk) (fun x _ => rfl) [] true _ ?_
  · obtain ⟨j, hj, rfl⟩ := List.mem_map.mp hx'
    have := List.mem_range.mp hj
    exact w_call <| w_cons <| w_bvc rfl <| nd (div_int _ 12 (by decide)) <| w_cv rfl <| w_vn rfl <| hx _ _ _ _ _ (by have := hb (by (first | lia | omega)); (first | lia | omega)) hk
  refine ⟨rfl, ?_⟩
  have em : (nAV (List.range n)).map (fun v => match v with | .int j => AV.int (mixF (c.fdiv 12) j below) | v => v) = nAV ((List.range n).map fun (j : Nat) => (mixF (c.fdiv 12) j below).toNat) := by
    unfold nAV
    rw [List.map_map, List.map_map]
    refine List.map_congr_left fun j hj => ?_
    have := List.mem_range.mp hj
    have p := (mixF_lt (c.fdiv 12) j below (by have := hb (by (first | lia | omega)); (first | lia | omega))).1
    show AV.int (mixF (c.fdiv 12) j below) = AV.int ((mixF (c.fdiv 12) j below).toNat : Int)
    rw [Int.toNat_of_nonneg p]
  rw [List.nil_append, em]
  have sl : ((List.range n).map fun (j : Nat) => (mixF (c.fdiv 12) j below).toNat).length = n := by rw [List.length_map, List.length_range]
  have sb : ∀ s ∈ (List.range n).map (fun (j : Nat) => (mixF (c.fdiv 12) j below).toNat), s < below := fun s hs => by
    obtain ⟨j, hj, rfl⟩ := List.mem_map.mp hs
    have := List.mem_range.mp hj
    obtain ⟨q1, q2⟩ := mixF_lt (c.fdiv 12) j below (by have := hb (by (first | lia | omega)); (first | lia | omega))
    (first | lia | omega)
  generalize ((List.range n).map fun (j : Nat) => (mixF (c.fdiv 12) j below).toNat) = ss at sl sb ⊢
  refine s_Ite <| t_bop <| t_cons <| t_cvc rfl <| nd (gt_int ..) ?_
  by_cases q1 : (0 : Int) < (n : Int)
  · refine i_pos (decide_eq_true q1) <| t_cons <| t_cmp <| w_bin <| w_bvc rfl <| nd (div_int _ 12 (by decide)) <| w_cst <| nd (mod_int _ 2 (by decide)) <| w_cst <| nd (eq_int ..) ?_
    by_cases q2 : ((c.fdiv 12).fmod 2 == 1) = true
    · have b0 := hb (by (first | lia | omega))
      refine i_pos q2 <| t_nil <| i_pos rfl <| s_Sto rfl <| w_bvc rfl <| nd (sub_int ..) ⟨nofun, rfl, w_cst ?_⟩
      rw [show ((below : Nat) : Int) - 1 = ((below - 1 : Nat) : Int) by (first | lia | omega)]
      have st : store (.lst (nAV ss)) (.int 0) (.int ((below - 1 : Nat) : Int)) = some (.lst (nAV (ss.set 0 (below - 1)))) := by
        show (if 0 ≤ (0 : Int) ∧ (0 : Int) < _ then some (AV.lst (List.set _ ((0 : Int)).toNat _)) else none) = _
        rw [if_pos ⟨by (first | lia | omega), by unfold nAV; rw [List.length_map, sl]; exact q1⟩]
        unfold nAV
        rw [List.map_set]; rfl
      refine nd st <| s_nil <| gate_end b hx c below most w hw hm _ (by rw [List.length_set, sl]; exact hf) (fun s hs => ?_) _ _ _ _ _ _ _ _ _ h
      rcases List.mem_or_eq_of_mem_set hs with z | z
      · exact sb s z
      · (first | lia | omega)
    · exact i_neg q2 <| i_neg (by decide) <| s_nil <| gate_end b hx c below most w hw hm ss (by rw [sl]; exact hf) sb _ _ _ _ _ _ _ _ _ h
  · exact i_neg (by rw [decide_eq_false q1]; decide) <| i_neg (by decide) <| s_nil <| gate_end b hx c below most w hw hm ss (by rw [sl]; exact hf) sb _ _ _ _ _ _ _ _ _ h

theorem gate_by_wp (b : Bas t) (hx : CMix t) (c : Int) (below most : Nat) (hm : 0 < most) (N : Rho → Prop) (Q : AV → Md → Prop) (X : Rho → Str → Prop) (h : ∀ g : Gte, g.Ok below most → Q (gAV g) .fr) :
    wpSs t ms_gate_by (rho0 7 [.int c, .int below, .int most]) N (fun _ => False) Q X := by
  have rest : ∀ (w : Nat) (m3 : Sm), w < 9 → (below = 0 → w < 2) → wpSs t (ms_gate_by.drop 2) [some (.int c, .sh), some (.int below, .sh), some (.int most, .sh), some (.int (w : Int), m3), none, none, none] N (fun _ => False) Q X := by
    intro w m3 hw h0
    refine s_Asg <| w_sub <| wp_lstc _ _ (nAV manyN) _ (by decide) <| w_var rfl <| nd (get_nat manyN w hw) ⟨nofun, ?_⟩
    have hb : below = 0 → manyN.getD w 0 = 0 := fun q => by
      have : ∀ w, w < 2 → manyN.getD w 0 = 0 := by decide
      exact this w (h0 q)
    refine s_Ite <| t_cvc rfl <| nd (eq_int ..) ?_
    by_cases q : manyN.getD w 0 = 2
    · obtain ⟨p1, p2⟩ := mixF_lt c 9 9 (by decide)
      obtain ⟨j, hj⟩ := Int.eq_ofNat_of_zero_le p1
      refine i_pos (by rw [q]; rfl) <| s_Asg <| w_sub <| wp_lstc _ _ (nAV someN) _ (by decide) <| w_call <| w_cv rfl <| w_cc <| w_cc <| w_nil <| hx _ _ _ _ _ (by decide) ?_
      rw [hj]
      have hj9 : j < 9 := by (first | lia | omega)
      refine nd (get_nat someN j hj9) ⟨nofun, s_nil <| gate_mid b hx c below most w _ hw hm ?_ (fun _ => ?_) _ _ _ _ _ _ _ _ _ _ h⟩
      · have : ∀ w, w < 9 → manyN.getD w 0 = 2 → ∀ j, j < 9 → fits w (someN.getD j 0) = true := by decide
        exact this w hw q j hj9
      · cases below with
        | zero => rw [hb rfl] at q; cases q
        | succ _ => (first | lia | omega)
    · refine i_neg (by rw [beq_eq_false_iff_ne.mpr fun z => q (by (first | lia | omega))]; decide) <| s_nil <| gate_mid b hx c below most w _ hw hm ?_ (fun z => ?_) _ _ _ _ _ _ _ _ _ _ h
      · have : ∀ w, w < 9 → manyN.getD w 0 ≠ 2 → fits w (manyN.getD w 0) = true := by decide
        exact this w hw q
      · cases below with
        | zero => rw [hb rfl] at z; cases z
        | succ _ => (first | lia | omega)
  have p1 := Int.fmod_nonneg_of_pos c (b := 12) (by decide)
  have p2 := Int.fmod_lt_of_pos c (b := 12) (by decide)
  obtain ⟨i, hi⟩ := Int.eq_ofNat_of_zero_le p1
  rw [hi] at p2
  refine s_Asg <| w_sub <| wp_lstc _ _ (nAV ways) _ (by decide) <| w_bvc rfl <| nd (mod_int _ 12 (by decide)) ?_
  rw [hi]
  have hi12 : i < 12 := by (first | lia | omega)
  refine nd (get_nat ways i hi12) ⟨nofun, ?_⟩
  have hw9 : ways.getD i 0 < 9 := by
    have : ∀ i, i < 12 → ways.getD i 0 < 9 := by decide
    exact this i hi12
  refine s_Ite <| t_cvc rfl <| nd (eq_int ..) ?_
  by_cases q : below = 0
  · have r1 := Int.fmod_nonneg_of_pos c (b := 2) (by decide)
    have r2 := Int.fmod_lt_of_pos c (b := 2) (by decide)
    obtain ⟨j, hj⟩ := Int.eq_ofNat_of_zero_le r1
    rw [hj] at r2
    refine i_pos (by rw [q]; rfl) <| s_Asg <| w_bvc rfl <| nd (mod_int _ 2 (by decide)) ⟨nofun, ?_⟩
    rw [hj]
    exact s_nil <| rest j _ (by (first | lia | omega)) fun _ => by (first | lia | omega)
  · exact i_neg (by rw [beq_eq_false_iff_ne.mpr fun z => q (by (first | lia | omega))]; decide) <| s_nil <| rest _ _ hw9 fun z => absurd z q
end
end LP
end Mine

namespace Mine
open PySem
namespace LP
noncomputable def Row (many most : Nat) (gs : List Gte) : Prop := ∀ i, i < gs.length → (gs.getD i ⟨0, [], 1⟩).Ok (many + i) most
theorem Row.nil (many most : Nat) : Row many most [] := fun i h => absurd h (Nat.not_lt_zero i)
theorem Row.snoc {many most : Nat} {gs : List Gte} (h : Row many most gs) {g : Gte} (ok : g.Ok (many + gs.length) most) : Row many most (gs ++ [g]) := by
  intro i hi
  rw [List.length_append] at hi
  have hi : i < gs.length + 1 := hi
  rw [List.getD_eq_getElem?_getD]
  by_cases q : i < gs.length
  · rw [List.getElem?_append_left q, ← List.getD_eq_getElem?_getD]; exact h i q
  · have : i = gs.length := by (first | lia | omega)
    subst this
    rw [List.getElem?_append_right (by (first | lia | omega)), Nat.sub_self]; exact ok

theorem slc_lst (xs : List AV) (lo hi : AV) (a b : Nat) (h1 : clampLo lo xs.length = some a) (h2 : clampHi hi xs.length = some b) : slices (.lst xs) lo hi = some (.lst (cut xs a b)) := by
  show (clampLo lo xs.length).bind (fun a => (clampHi hi xs.length).map fun b => AV.lst (cut xs a b)) = _
  rw [h1, h2]; rfl
theorem cut_ints (ns : List Int) (a b : Nat) : cut (ns.map AV.int) a b = (cut ns a b).map AV.int := by
  unfold cut; rw [← List.map_drop, ← List.map_take]
theorem cut_len {α : Type} (ns : List α) (a b : Nat) : (cut ns a b).length ≤ b - a := by
  unfold cut; rw [List.length_take]; (first | lia | omega)
theorem slc_ints (ns : List Int) (hi : Nat) : ∃ cs : List Int, cs.length ≤ hi - 3 ∧ slices (.lst (ns.map .int)) (.int 3) (.int (hi : Int)) = some (.lst (cs.map .int)) := by
  refine ⟨cut ns (min 3 ns.length) (min hi ns.length), ?_, ?_⟩
  · by_cases q : 3 ≤ ns.length
    · rw [Nat.min_eq_left q]
      exact Nat.le_trans (cut_len ..) (Nat.sub_le_sub_right (Nat.min_le_left ..) 3)
    · rw [Nat.min_eq_right (Nat.le_of_lt (Nat.not_le.mp q))]
      unfold cut
      rw [List.drop_length, List.take_nil]
      exact Nat.zero_le _
  · rw [← cut_ints]
    refine slc_lst _ _ _ _ _ ?_ ?_
    · show some (min 3 (ns.map AV.int).length) = _
      rw [List.length_map]
    · show some (if (hi : Int) < 0 then _ else min (hi : Int).toNat (ns.map AV.int).length) = _
      rw [if_neg (by (first | lia | omega)), List.length_map]; rfl
theorem lfs_ints (ns : List Int) : AV.lfs (ns.map .int) = true := by
  induction ns with
  | nil => rfl
  | cons s ss ih => exact ih
theorem app_gate (gs : List Gte) (g : Gte) : gs.map gAV ++ [gAV g] = (gs ++ [g]).map gAV := by rw [List.map_append]; rfl

section
variable {t : Th}
noncomputable def CGate (t : Th) : Prop := ∀ (c : Int) (below most : Nat) (Q : AV → Md → Prop) (X : Str → Prop), 0 < most → (∀ g : Gte, g.Ok below most → Q (gAV g) .fr) → t.call (B "_law_gate_by") [.int c, .int below, .int most] Q X
noncomputable def CCell (t : Th) : Prop := ∀ (ns : List Int) (k : Int) (Q : AV → Md → Prop) (X : Str → Prop), 0 ≤ k → Q (.int (ns.getD k.toNat 0)) .fr → t.call (B "_law_cell_at") [.lst (ns.map .int), .int k] Q X

noncomputable def bodyG : List MS := [(.ite (.bop false [(.cmp .Eq (.bin .Mod (.var 5) (.cst (.int 8))) (.cst (.int 4))), (.cmp .Eq (.bin .Add (.var 1) (.var 6)) (.cst (.int 0)))]) [(.app 3 (.call (B "_law_gate_by") [(.bin .Add (.bin .FloorDiv (.var 5) (.cst (.int 8))) (.bin .Mult (.cst (.int 5)) (.var 6))), (.bin .Add (.var 1) (.var 6)), (.var 2)]))] [(.app 3 (.tup [(.cst (.str (B "not"))), (.tup [(.bin .Sub (.bin .Add (.var 1) (.var 6)) (.cst (.int 1)))]), (.cst (.int 1))]))])]
noncomputable def bodyC : List MS := [(.app 3 (.call (B "_law_gate_by") [(.var 7), (.bin .Add (.var 1) (.bi (B "len") [(.var 3)])), (.var 2)]))]
noncomputable def ms_gates_by : List MS :=
  [(.asm 3 (.lst [])),
   (.asg 4 (.slc (.var 0) (.cst (.int 3)) (.cst (.int 203)))),
   (.asg 5 (.call (B "_law_cell_at") [(.var 0), (.cst (.int 1))])),
   (.ite (.bop false [(.cmp .Eq (.bin .Mod (.var 5) (.cst (.int 8))) (.cst (.int 1))), (.cmp .Eq (.bin .Mod (.var 5) (.cst (.int 8))) (.cst (.int 4)))]) [(.asg 4 (.slc (.var 0) (.cst (.int 3)) (.cst (.int 13)))), (.for 6 (.bi (B "range") [(.bin .Add (.cst (.int 60)) (.bin .Mod (.bin .FloorDiv (.var 5) (.cst (.int 8))) (.cst (.int 131))))]) bodyG)] []),
   (.for 7 (.var 4) bodyC),
   (.retm 3)]

theorem not_ok (below most : Nat) (h : 0 < below) (hm : 0 < most) : Gte.Ok ⟨3, [below - 1], 1⟩ below most :=
  ⟨(by decide : 3 < 9), (by decide : fits 3 1 = true), fun s hs => by have := List.mem_singleton.mp hs; (first | lia | omega), (by decide : 1 ≤ 1), hm⟩

theorem cells_loop (b : Bas t) (hg : CGate t) (s0 s4 s5 s6 : Slot) (many most : Nat) (hm : 0 < most) (m1 m2 m : Sm) (N K : Rho → Prop) (R : AV → Md → Prop) (X : Rho → Str → Prop) :
    ∀ (cs : List Int) (gs : List Gte) (v : Slot), Row many most gs → gs.length + cs.length ≤ 200 →
    (∀ gs' v, Row many most gs' → gs'.length ≤ 200 → N [s0, some (.int many, m1), some (.int most, m2), some (.lst (gs'.map gAV), .mu), s4, s5, s6, v]) →
    loopF 7 m (fun ρ' k => wpSs t bodyC ρ' k K R X) (cs.map .int) [s0, some (.int many, m1), some (.int most, m2), some (.lst (gs.map gAV), .mu), s4, s5, s6, v] N
  | [], gs, v, hr, hl, h => h gs v hr (by simpa using hl)
  | c :: cs, gs, v, hr, hl, h => by
    have tt : top = 16777216 := rfl
    have hl' : gs.length + (cs.length + 1) ≤ 200 := hl
    refine s_App rfl <| w_call <| w_cv rfl <| w_cons <| w_bin <| w_var rfl <| w_len b.toBas0 rfl <| nd (add_int ..) <| w_cv rfl <| w_nil ?_
    rw [List.length_map, show ((many : Nat) : Int) + (gs.length : Nat) = ((many + gs.length : Nat) : Int) from rfl]
    refine hg c (many + gs.length) most _ _ hm fun g ok => ⟨nofun, rfl, by (first | lia | omega), ?_⟩
    rw [app_gate]
    exact s_nil <| cells_loop b hg s0 s4 s5 s6 many most hm m1 m2 m N K R X cs (gs ++ [g]) _ (hr.snoc ok) (by rw [List.length_append]; show gs.length + 1 + cs.length ≤ 200; (first | lia | omega)) h

theorem far_loop (hg : CGate t) (s0 s4 s7 : Slot) (far : Int) (many most : Nat) (hm : 0 < most) (m1 m2 m5 m : Sm) (N K : Rho → Prop) (R : AV → Md → Prop) (X : Rho → Str → Prop) :
    ∀ (n a : Nat) (gs : List Gte) (v : Slot), Row many most gs → gs.length = a → a + n ≤ 190 →
    (∀ gs' v, Row many most gs' → gs'.length ≤ 190 → N [s0, some (.int many, m1), some (.int most, m2), some (.lst (gs'.map gAV), .mu), s4, some (.int far, m5), v, s7]) →
    loopF 6 m (fun ρ' k => wpSs t bodyG ρ' k K R X) (nAV ((List.range' a n))) [s0, some (.int many, m1), some (.int most, m2), some (.lst (gs.map gAV), .mu), s4, some (.int far, m5), v, s7] N
  | 0, a, gs, v, hr, hl, hn, h => h gs v hr (by (first | lia | omega))
  | n + 1, a, gs, v, hr, hl, hn, h => by
    have tt : top = 16777216 := rfl
    rw [List.range'_succ]
    have next : ∀ (g : Gte) (v : Slot), g.Ok (many + a) most → loopF 6 m (fun ρ' k => wpSs t bodyG ρ' k K R X) (nAV ((List.range' (a + 1) n))) [s0, some (.int many, m1), some (.int most, m2), some ((.lst (gs.map gAV ++ [gAV g])), .mu), s4, some (.int far, m5), v, s7] N := fun g v ok => by
      rw [app_gate]
      exact far_loop hg s0 s4 s7 far many most hm m1 m2 m5 m N K R X n (a + 1) (gs ++ [g]) v (hr.snoc (by rw [hl]; exact ok)) (by rw [List.length_append, hl]; rfl) (by (first | lia | omega)) h
    have own : wpS t (.app 3 (.call (B "_law_gate_by") [(.bin .Add (.bin .FloorDiv (.var 5) (.cst (.int 8))) (.bin .Mult (.cst (.int 5)) (.var 6))), (.bin .Add (.var 1) (.var 6)), (.var 2)])) [s0, some (.int many, m1), some (.int most, m2), some (.lst (gs.map gAV), .mu), s4, some (.int far, m5), some (.int (a : Int), m), s7]
        (fun ρ' => loopF 6 m (fun ρ' k => wpSs t bodyG ρ' k K R X) (nAV ((List.range' (a + 1) n))) ρ' N) K R X := by
      refine s_app rfl <| w_call <| w_cons <| w_bin <| w_bvc rfl <| nd (div_int _ 8 (by decide)) <| w_bin <| w_cst <| w_var rfl <| nd (mul_int 5 _ (.inl (by decide))) <| nd (add_int ..) <| w_cons <| w_bvv rfl rfl <| nd (add_int ..) <| w_cv rfl <| w_nil ?_
      rw [show ((many : Nat) : Int) + (a : Nat) = ((many + a : Nat) : Int) from rfl]
      exact hg _ (many + a) most _ _ hm fun g ok => ⟨nofun, rfl, by rw [List.length_map]; (first | lia | omega), next g _ ok⟩
    refine s_Ite <| t_bop <| t_cons <| t_cmp <| w_bvc rfl <| nd (mod_int _ 8 (by decide)) <| w_cst <| nd (eq_int ..) ?_
    cases q1 : far.fmod 8 == 4 with
    | true => exact i_neg (by decide) <| i_pos rfl <| s_cons <| own
    | false =>
      refine i_pos rfl <| t_cons <| t_cmp <| w_bvv rfl rfl <| nd (add_int ..) <| w_cst <| nd (eq_int ..) ?_
      cases q2 : (many : Int) + (a : Int) == 0 with
      | true => exact i_neg (by decide) <| i_pos rfl <| s_cons <| own
      | false =>
        have q2 := beq_eq_false_iff_ne.mp q2
        refine i_pos rfl <| t_nil <| i_neg (by decide) <| s_App rfl <| w_tup <| w_cc <| w_cons <| w_tup <| w_cons <| w_bin <| w_bvv rfl rfl <| nd (add_int ..) <| w_cst <| nd (sub_int ..) <| w_nil ⟨?_, (by decide : (1 : Nat) ≤ top), ?_⟩
        · intro p hp; cases List.mem_singleton.mp hp; nofun
        rw [show ((many : Nat) : Int) + (a : Nat) - 1 = ((many + a - 1 : Nat) : Int) by (first | lia | omega)]
        refine w_cc <| w_nil ⟨?_, (by decide : (3 : Nat) ≤ top), nofun, rfl, by rw [List.length_map]; (first | lia | omega), ?_⟩
        · intro p hp
          rcases List.mem_cons.mp hp with rfl | hp
          · nofun
          · rcases List.mem_cons.mp hp with rfl | hp
            · nofun
            · cases List.mem_singleton.mp hp; nofun
        exact s_nil <| next ⟨3, [many + a - 1], 1⟩ _ (not_ok _ most (by (first | lia | omega)) hm)

theorem gates_by_wp (b : Bas t) (hg : CGate t) (hc : CCell t) (ns : List Int) (many most : Nat) (hm : 0 < most) (N : Rho → Prop) (Q : AV → Md → Prop) (X : Rho → Str → Prop) (h : ∀ gs : List Gte, Row many most gs → gs.length ≤ 200 → Q (.lst (gs.map gAV)) .ow) :
    wpSs t ms_gates_by (rho0 8 [.lst (ns.map .int), .int many, .int most]) N (fun _ => False) Q X := by
  have tt : top = 16777216 := rfl
  obtain ⟨cs, cl, ce⟩ := slc_ints ns 203
  obtain ⟨ds, dl, de⟩ := slc_ints ns 13
  have rest : ∀ (cs : List Int) (gs : List Gte) (m4 m5 : Sm) (far : Int) (v6 : Slot), slotMd m4 ≠ .bo → Row many most gs → gs.length + cs.length ≤ 200 → wpSs t (ms_gates_by.drop 4) [some (.lst (ns.map .int), .sh), some (.int many, .sh), some (.int most, .sh), some (.lst (gs.map gAV), .mu), some (.lst (cs.map .int), m4), some (.int far, m5), v6, none] N (fun _ => False) Q X := by
    intro cs gs m4 m5 far v6 h4 hr hl
    exact s_For b.loops <| w_var rfl ⟨by cases m4 <;> first | exact absurd rfl h4 | nofun, nd (r := cs.map .int) rfl ⟨by rw [List.length_map]; (first | lia | omega), cells_loop b hg _ _ _ _ many most hm _ _ _ _ _ _ _ cs gs _ hr hl fun gs' v hr' hl' => by
      exact s_cons <| s_retm rfl <| h gs' hr' hl'⟩⟩
  have sm : ∀ xs : List AV, slcMd (.lst (ns.map .int)) .sh (.lst xs) = .ow := fun xs => by
    show (if frE .sh (.lst (ns.map .int)) = true then Md.ow else .sh) = .ow
    rw [if_pos]
    show (Md.sh != .sh || AV.lfs (ns.map .int)) = true
    rw [lfs_ints]; rfl
  refine s_Asm <| w_lst <| w_nil ⟨fun p hp => (nomatch hp), by decide, rfl, ?_⟩
  refine s_Asg <| w_slc <| w_var rfl <| w_cst <| w_cst <| nd ce ⟨by rw [show slotMd .sh = .sh from rfl, sm]; nofun, ?_⟩
  rw [show slotMd .sh = .sh from rfl, sm]
  refine s_Asg <| w_2vc rfl <| hc ns 1 _ _ (by decide) ⟨nofun, ?_⟩
  generalize ns.getD (1 : Int).toNat 0 = far
  have go : wpSs t [(.asg 4 (.slc (.var 0) (.cst (.int 3)) (.cst (.int 13)))), (.for 6 (.bi (B "range") [(.bin .Add (.cst (.int 60)) (.bin .Mod (.bin .FloorDiv (.var 5) (.cst (.int 8))) (.cst (.int 131))))]) bodyG)] [some (.lst (ns.map .int), .sh), some (.int many, .sh), some (.int most, .sh), some (.lst [], .mu), some (.lst (cs.map .int), .fr), some (.int far, .fr), none, none]
      (fun ρ' => wpSs t (ms_gates_by.drop 4) ρ' N (fun _ => False) Q X) (fun _ => False) Q X := by
    refine s_Asg <| w_slc <| w_var rfl <| w_cst <| w_cst <| nd de ⟨by rw [show slotMd .sh = .sh from rfl, sm]; nofun, ?_⟩
    rw [show slotMd .sh = .sh from rfl, sm]
    have p1 := Int.fmod_nonneg_of_pos (far.fdiv 8) (b := 131) (by decide)
    have p2 := Int.fmod_lt_of_pos (far.fdiv 8) (b := 131) (by decide)
    refine s_For b.loops <| w_bi <| w_cons <| w_bin <| w_cst <| w_bin <| w_bvc rfl <| nd (div_int _ 8 (by decide)) <| w_cst <| nd (mod_int _ 131 (by decide)) <| nd (add_int ..) <| w_nil ?_
    obtain ⟨x, hx⟩ := Int.eq_ofNat_of_zero_le p1
    rw [hx, show (60 : Int) + (x : Nat) = ((60 + x : Nat) : Int) by (first | lia | omega)]
    refine (b.range _ _ _ (small62 (by (first | lia | omega)))).mpr ⟨nofun, nd (rng_items0 _) ⟨rng_top (by (first | lia | omega)), ?_⟩⟩
    rw [List.range_eq_range']
    refine far_loop hg _ _ _ far many most hm _ _ _ _ _ _ _ _ (60 + x) 0 [] none (Row.nil many most) rfl (by (first | lia | omega)) fun gs' v hr hl => s_nil ?_
    exact rest ds gs' _ _ far v nofun hr (by (first | lia | omega))
  refine s_Ite <| t_bop <| t_cons <| t_cmp <| w_bvc rfl <| nd (mod_int _ 8 (by decide)) <| w_cst <| nd (eq_int ..) ?_
  cases q1 : far.fmod 8 == 1 with
  | true => exact i_neg (by decide) <| i_pos rfl <| go
  | false =>
    refine i_pos rfl <| t_cons <| t_cmp <| w_bvc rfl <| nd (mod_int _ 8 (by decide)) <| w_cst <| nd (eq_int ..) ?_
    cases q2 : far.fmod 8 == 4 with
    | true => exact i_neg (by decide) <| i_pos rfl <| go
    | false => exact i_pos rfl <| t_nil <| i_neg (by decide) <| s_nil <| rest cs [] _ _ far none nofun (Row.nil many most) (by show 0 + _ ≤ _; (first | lia | omega))
end
end LP
end Mine

namespace Mine
open PySem
namespace LP
noncomputable def pl (turn : Int) (n k : Nat) : Nat := (((if turn.fmod 2 == 1 then (n : Int) - 1 - k else (k : Int)) + turn.fdiv 2).fmod n).toNat
noncomputable def inv (turn : Int) (n p : Nat) : Nat := let q := ((p : Int) - turn.fdiv 2).fmod n
  (if turn.fmod 2 == 1 then (n : Int) - 1 - q else q).toNat
theorem pl_eq (turn : Int) (n k : Nat) (hn : 0 < n) : (((if turn.fmod 2 == 1 then (n : Int) - 1 - k else (k : Int)) + turn.fdiv 2).fmod n) = (pl turn n k : Int) := by
  unfold pl
  rw [Int.toNat_of_nonneg (Int.fmod_nonneg_of_pos _ (by (first | lia | omega)))]
theorem pl_lt (turn : Int) (n k : Nat) (hk : k < n) : pl turn n k < n := by
  have := pl_eq turn n k (by (first | lia | omega))
  have h := Int.fmod_lt_of_pos ((if turn.fmod 2 == 1 then (n : Int) - 1 - k else (k : Int)) + turn.fdiv 2) (b := n) (by (first | lia | omega))
  (first | lia | omega)
theorem fm1 (x d : Int) (n : Nat) (h0 : 0 ≤ x) (h1 : x < n) : ((x + d).fmod n - d).fmod n = x := by
  rw [Int.fmod_eq_emod_of_nonneg _ (by (first | lia | omega)), Int.fmod_eq_emod_of_nonneg _ (by (first | lia | omega)), Int.sub_emod, Int.emod_emod, ← Int.sub_emod, Int.add_sub_cancel, Int.emod_eq_of_lt h0 h1]
theorem fm2 (x d : Int) (n : Nat) (h0 : 0 ≤ x) (h1 : x < n) : ((x - d).fmod n + d).fmod n = x := by
  have := fm1 x (-d) n h0 h1
  rwa [Int.sub_neg, ← Int.sub_eq_add_neg] at this
theorem inv_pl (turn : Int) (n k : Nat) (hk : k < n) : inv turn n (pl turn n k) = k := by
  unfold inv
  rw [← pl_eq turn n k (by (first | lia | omega))]
  cases turn.fmod 2 == 1 with
  | true =>
    simp only [if_true]
    rw [fm1 _ _ n (by (first | lia | omega)) (by (first | lia | omega))]; (first | lia | omega)
  | false =>
    simp only [Bool.false_eq_true, if_false]
    rw [fm1 _ _ n (by (first | lia | omega)) (by (first | lia | omega))]; (first | lia | omega)
theorem inv_lt (turn : Int) (n p : Nat) (hp : p < n) : inv turn n p < n := by
  have h1 := Int.fmod_nonneg_of_pos ((p : Int) - turn.fdiv 2) (b := n) (by (first | lia | omega))
  have h2 := Int.fmod_lt_of_pos ((p : Int) - turn.fdiv 2) (b := n) (by (first | lia | omega))
  unfold inv
  cases turn.fmod 2 == 1 with
  | true => simp only [if_true]; (first | lia | omega)
  | false => simp only [Bool.false_eq_true, if_false]; (first | lia | omega)
theorem pl_inv (turn : Int) (n p : Nat) (hp : p < n) : pl turn n (inv turn n p) = p := by
  have h1 := Int.fmod_nonneg_of_pos ((p : Int) - turn.fdiv 2) (b := n) (by (first | lia | omega))
  have h2 := Int.fmod_lt_of_pos ((p : Int) - turn.fdiv 2) (b := n) (by (first | lia | omega))
  have h3 := fm2 p (turn.fdiv 2) n (by (first | lia | omega)) (by (first | lia | omega))
  unfold pl inv
  cases turn.fmod 2 == 1 with
  | true =>
    simp only [if_true]
    rw [show (n : Int) - 1 - (((n : Int) - 1 - ((p : Int) - turn.fdiv 2).fmod n).toNat : Nat) = ((p : Int) - turn.fdiv 2).fmod n by (first | lia | omega), h3]; (first | lia | omega)
  | false =>
    simp only [Bool.false_eq_true, if_false]
    rw [show ((((p : Int) - turn.fdiv 2).fmod n).toNat : Int) = ((p : Int) - turn.fdiv 2).fmod n by (first | lia | omega), h3]; (first | lia | omega)

noncomputable abbrev g0 : Gte := ⟨0, [], 1⟩
noncomputable def trS (many n : Nat) (turn : Int) (s : Nat) : Nat := if many ≤ s then many + pl turn n (s - many) else s
noncomputable def trG (many n : Nat) (turn : Int) (g : Gte) : Gte := ⟨g.kind, g.src.map (trS many n turn), g.dly⟩
noncomputable def trL (many : Nat) (turn : Int) (gs : List Gte) : List Gte := (List.range gs.length).map fun p => trG many gs.length turn (gs.getD (inv turn gs.length p) g0)
theorem trL_len (many : Nat) (turn : Int) (gs : List Gte) : (trL many turn gs).length = gs.length := by unfold trL; rw [List.length_map, List.length_range]
theorem trS_lt {many n : Nat} {turn : Int} {s : Nat} (h : s < many + n) : trS many n turn s < many + n := by
  unfold trS
  split
  · have := pl_lt turn n (s - many) (by (first | lia | omega)); (first | lia | omega)
  · exact h
theorem Gte.Ok.tr {g : Gte} {many n most : Nat} {turn : Int} (h : g.Ok (many + n) most) : (trG many n turn g).Ok (many + n) most :=
  ⟨h.kind, by show fits g.kind (g.src.map _).length = true; rw [List.length_map]; exact h.fit, fun s hs => by
    obtain ⟨s', h', rfl⟩ := List.mem_map.mp hs
    exact trS_lt (h.src s' h'), h.lo, h.hi⟩
theorem trL_ok {many most : Nat} {turn : Int} {gs : List Gte} (h : ∀ g ∈ gs, g.Ok (many + gs.length) most) : ∀ g ∈ trL many turn gs, g.Ok (many + (trL many turn gs).length) most := by
  intro g hg
  rw [trL_len]
  obtain ⟨p, hp, rfl⟩ := List.mem_map.mp hg
  have hp := List.mem_range.mp hp
  exact (h _ (getD_mem gs _ (inv_lt turn _ p hp))).tr
theorem Gte.Ok.up {g : Gte} {a b most : Nat} (h : g.Ok a most) (l : a ≤ b) : g.Ok b most := ⟨h.kind, h.fit, fun s hs => Nat.lt_of_lt_of_le (h.src s hs) l, h.lo, h.hi⟩
theorem Row.all {many most : Nat} {gs : List Gte} (h : Row many most gs) : ∀ g ∈ gs, g.Ok (many + gs.length) most := by
  intro g hg
  obtain ⟨i, hi, rfl⟩ := List.getElem_of_mem hg
  have := h i hi
  rw [List.getD_eq_getElem?_getD, List.getElem?_eq_getElem hi] at this
  exact Gte.Ok.up this (by (first | lia | omega))

noncomputable def oAV : Option Gte → AV
  | none => .none
  | some g => gAV g
noncomputable def madeL (many : Nat) (turn : Int) (gs : List Gte) (k : Nat) : List (Option Gte) := (List.range gs.length).map fun p => if inv turn gs.length p < k then some (trG many gs.length turn (gs.getD (inv turn gs.length p) g0)) else none
theorem madeL_len (many : Nat) (turn : Int) (gs : List Gte) (k : Nat) : (madeL many turn gs k).length = gs.length := by unfold madeL; rw [List.length_map, List.length_range]
theorem madeL_zero (many : Nat) (turn : Int) (gs : List Gte) : madeL many turn gs 0 = List.replicate gs.length none := by
  refine List.ext_getElem (by rw [madeL_len, List.length_replicate]) fun i h1 h2 => ?_
  unfold madeL
  simp
theorem madeL_all (many : Nat) (turn : Int) (gs : List Gte) : madeL many turn gs gs.length = (trL many turn gs).map some := by
  unfold madeL trL
  rw [List.map_map]
  refine List.map_congr_left fun p hp => ?_
  have hp := List.mem_range.mp hp
  rw [if_pos (inv_lt turn _ p hp)]; rfl
theorem madeL_get (many : Nat) (turn : Int) (gs : List Gte) (k p : Nat) (h : p < (madeL many turn gs k).length) : (madeL many turn gs k)[p] = if inv turn gs.length p < k then some (trG many gs.length turn (gs.getD (inv turn gs.length p) g0)) else none := by
  simp [madeL]
theorem madeL_succ (many : Nat) (turn : Int) (gs : List Gte) (k : Nat) (hk : k < gs.length) : (madeL many turn gs k).set (pl turn gs.length k) (some (trG many gs.length turn (gs.getD k g0))) = madeL many turn gs (k + 1) := by
  refine List.ext_getElem (by rw [List.length_set, madeL_len, madeL_len]) fun p h1 h2 => ?_
  rw [List.getElem_set, madeL_get, madeL_get]
  rw [madeL_len] at h2
  by_cases q : pl turn gs.length k = p
  · subst q
    rw [if_pos rfl, inv_pl _ _ _ hk, if_pos (by (first | lia | omega))]
  · rw [if_neg q]
    by_cases z : inv turn gs.length p < k
    · rw [if_pos z, if_pos (by (first | lia | omega))]
    · rw [if_neg z, if_neg]
      intro w
      exact q (by rw [show k = inv turn gs.length p by (first | lia | omega), pl_inv _ _ _ h2])

section
variable {t : Th}
noncomputable def ms_place : List MS :=
  [(.ite (.cmp .Eq (.bin .Mod (.var 2) (.cst (.int 2))) (.cst (.int 1))) [(.asg 0 (.bin .Sub (.bin .Sub (.var 1) (.cst (.int 1))) (.var 0)))] []),
   (.ret (.bin .Mod (.bin .Add (.var 0) (.bin .FloorDiv (.var 2) (.cst (.int 2)))) (.var 1)))]
theorem place_wp (turn : Int) (n k : Nat) (hn : 0 < n) (N : Rho → Prop) (Q : AV → Md → Prop) (X : Rho → Str → Prop) (h : Q (.int (pl turn n k : Int)) .fr) : wpSs t ms_place (rho0 3 [.int k, .int n, .int turn]) N (fun _ => False) Q X := by
  have e := pl_eq turn n k hn
  refine s_Ite <| t_cmp <| w_bvc rfl <| nd (mod_int _ 2 (by decide)) <| w_cst <| nd (eq_int ..) ?_
  cases q : turn.fmod 2 == 1 with
  | true =>
    rw [q, if_pos rfl] at e
    exact i_pos rfl <| s_Asg <| w_bin <| w_bvc rfl <| nd (sub_int ..) <| w_var rfl <| nd (sub_int ..) ⟨nofun, s_nil <| s_Ret <| w_bin <| w_bin <| w_var rfl <| w_bvc rfl <| nd (div_int _ 2 (by decide)) <| nd (add_int ..) <| w_var rfl <| nd (mod_int _ n (by (first | lia | omega))) ⟨nofun, rfl, by rw [e]; exact h⟩⟩
  | false =>
    rw [q, if_neg (by decide)] at e
    exact i_neg (by decide) <| s_nil <| s_Ret <| w_bin <| w_bin <| w_var rfl <| w_bvc rfl <| nd (div_int _ 2 (by decide)) <| nd (add_int ..) <| w_var rfl <| nd (mod_int _ n (by (first | lia | omega))) ⟨nofun, rfl, by rw [e]; exact h⟩

noncomputable def CPlace (t : Th) : Prop := ∀ (turn : Int) (n k : Nat) (Q : AV → Md → Prop) (X : Str → Prop), 0 < n → Q (.int (pl turn n k : Int)) .fr → t.call (B "_law_place") [.int k, .int n, .int turn] Q X

noncomputable def bodyS : List MS := [(.ite (.cmp .GtE (.var 6) (.var 0)) [(.asg 6 (.bin .Add (.var 0) (.call (B "_law_place") [(.bin .Sub (.var 6) (.var 0)), (.bi (B "len") [(.var 1)]), (.var 2)])))] []), (.app 5 (.var 6))]
noncomputable def bodyT : List MS := [(.asm 5 (.lst [])), (.for 6 (.sub (.sub (.var 1) (.var 4)) (.cst (.int 1))) bodyS), (.sto 3 (.call (B "_law_place") [(.var 4), (.bi (B "len") [(.var 1)]), (.var 2)]) (.tup [(.sub (.sub (.var 1) (.var 4)) (.cst (.int 0))), (.bi (B "tuple") [(.var 5)]), (.sub (.sub (.var 1) (.var 4)) (.cst (.int 2)))]))]
noncomputable def ms_turned : List MS :=
  [(.asm 3 (.bin .Mult (.lst [(.cst .none)]) (.bi (B "len") [(.var 1)]))),
   (.for 4 (.bi (B "range") [(.bi (B "len") [(.var 1)])]) bodyT),
   (.frz 3),
   (.ret (.tup [(.var 0), (.var 3)]))]

theorem srcs_loop (b : Bas t) (hp : CPlace t) (many : Nat) (gs : List Gte) (turn : Int) (s3 s4 : Slot) (m0 m1 m2 m : Sm) (hm : slotMd m ≠ .bo) (N K : Rho → Prop) (R : AV → Md → Prop) (X : Rho → Str → Prop) :
    ∀ (ss ac : List Nat) (v : Slot), (∀ s ∈ ss, s < many + gs.length) → ac.length + ss.length < 1000 →
    (∀ v, N [some (.int many, m0), some (.lst (gs.map gAV), m1), some (.int turn, m2), s3, s4, some (.lst (nAV (ac ++ ss.map (trS many gs.length turn))), .mu), v]) →
    loopF 6 m (fun ρ' k => wpSs t bodyS ρ' k K R X) (nAV ss) [some (.int many, m0), some (.lst (gs.map gAV), m1), some (.int turn, m2), s3, s4, some (.lst (nAV ac), .mu), v] N
  | [], ac, v, _, _, h => by rw [List.map_nil, List.append_nil] at h; exact h v
  | s :: ss, ac, v, hs, hl, h => by
    have tt : top = 16777216 := rfl
    have hl' : ac.length + (ss.length + 1) < 1000 := hl
    have s1 := hs s (.head _)
    have next : ∀ m', slotMd m' ≠ .bo → wpSs t [(.app 5 (.var 6))] [some (.int many, m0), some (.lst (gs.map gAV), m1), some (.int turn, m2), s3, s4, some (.lst (nAV ac), .mu), some (.int (trS many gs.length turn s : Int), m')]
        (fun ρ' => loopF 6 m (fun ρ' k => wpSs t bodyS ρ' k K R X) (nAV ss) ρ' N) K R X := by
      intro m' hm'
      refine s_App rfl <| w_var rfl ⟨by cases m' <;> first | exact absurd rfl hm' | nofun, by show okF _ (AV.int _) = true; cases m' <;> rfl, by unfold nAV; rw [List.length_map]; (first | lia | omega), ?_⟩
      have ap : nAV ac ++ [.int (trS many gs.length turn s : Int)] = nAV (ac ++ [trS many gs.length turn s]) := by unfold nAV; rw [List.map_append]; rfl
      rw [ap]
      refine s_nil <| srcs_loop b hp many gs turn s3 s4 m0 m1 m2 m hm N K R X ss _ _ (fun z hz => hs z (.tail _ hz)) (by rw [List.length_append]; show ac.length + 1 + _ < _; (first | lia | omega)) ?_
      rw [List.append_assoc]
      exact h
    refine s_Ite <| t_cvv rfl rfl <| nd (ge_int ..) ?_
    by_cases q : many ≤ s
    · have et : trS many gs.length turn s = many + pl turn gs.length (s - many) := if_pos q
      refine i_pos (decide_eq_true (by (first | lia | omega))) <| s_Asg <| w_bin <| w_var rfl <| w_call <| w_cons <| w_bvv rfl rfl <| nd (sub_int ..) <| w_cons <| w_len b.toBas0 rfl <| w_cv rfl <| w_nil ?_
      rw [List.length_map, show ((s : Nat) : Int) - (many : Nat) = ((s - many : Nat) : Int) by (first | lia | omega)]
      refine hp turn gs.length (s - many) _ _ (by (first | lia | omega)) <| nd (add_int ..) ⟨nofun, ?_⟩
      rw [show ((many : Nat) : Int) + (pl turn gs.length (s - many) : Nat) = ((trS many gs.length turn s : Nat) : Int) by rw [et]; (first | lia | omega)]
      exact s_nil <| next .fr nofun
    · have et : trS many gs.length turn s = s := if_neg q
      refine i_neg (by rw [decide_eq_false (by (first | lia | omega))]; decide) <| s_nil ?_
      have := next m hm
      rw [et] at this
      exact this

theorem get3 (g : Gte) : subs (gAV g) (.int 0) = some (.str (B (kindS.getD g.kind ""))) ∧ subs (gAV g) (.int 1) = some (.tup (nAV g.src)) ∧ subs (gAV g) (.int 2) = some (.int (g.dly : Int)) := ⟨sub_tup _ 0 _ rfl, sub_tup _ 1 _ rfl, sub_tup _ 2 _ rfl⟩

theorem gates_turn (b : Bas t) (hp : CPlace t) (many most : Nat) (gs : List Gte) (ok : ∀ g ∈ gs, g.Ok (many + gs.length) most) (turn : Int) (m0 m2 m : Sm) (hm : slotMd m ≠ .bo) (N K : Rho → Prop) (R : AV → Md → Prop) (X : Rho → Str → Prop)
    (h : ∀ v v' v'', N [some (.int many, m0), some (.lst (gs.map gAV), .sh), some (.int turn, m2), some (.lst ((madeL many turn gs gs.length).map oAV), .mu), v, v', v'']) :
    ∀ (n a : Nat) (v v' v'' : Slot), a + n = gs.length →
    loopF 4 m (fun ρ' k => wpSs t bodyT ρ' k K R X) (nAV (List.range' a n)) [some (.int many, m0), some (.lst (gs.map gAV), .sh), some (.int turn, m2), some (.lst ((madeL many turn gs a).map oAV), .mu), v, v', v''] N
  | 0, a, v, v', v'', e => by
    have : a = gs.length := by (first | lia | omega)
    subst this
    exact h v v' v''
  | n + 1, a, v, v', v'', e => by
    have tt : top = 16777216 := rfl
    have ha : a < gs.length := by (first | lia | omega)
    have gok := ok _ (getD_mem gs a ha)
    obtain ⟨_, _, k9⟩ := fit_le gok.kind gok.fit
    have k9 : (gs.getD a g0).src.length ≤ 9 := k9
    obtain ⟨e0, e1, e2⟩ := get3 (gs.getD a g0)
    rw [List.range'_succ]
    refine s_Asm <| w_lst <| w_nil ⟨fun p hp => (nomatch hp), by decide, rfl, ?_⟩
    refine s_For b.loops <| w_sub <| w_svv rfl rfl <| nd (get_gate gs a ha) <| w_cst <| nd e1 ⟨nofun, nd (r := nAV (gs.getD a g0).src) rfl ⟨by unfold nAV; rw [List.length_map]; (first | lia | omega), ?_⟩⟩
    refine srcs_loop b hp many gs turn _ _ _ _ _ .sh nofun _ _ _ _ (gs.getD a g0).src [] _ gok.src (by show 0 + _ < _; (first | lia | omega)) fun v => ?_
    rw [List.nil_append]
    refine s_Sto rfl <| w_tup <| w_cons <| w_sub <| w_svv rfl rfl <| nd (get_gate gs a ha) <| w_cst <| nd e0 <| w_cons <| w_bi <| w_vn rfl <| Bas.tuple b _ _ fun m' hm' => ?_
    refine w_cons <| w_sub <| w_svv rfl rfl <| nd (get_gate gs a ha) <| w_cst <| nd e2 <| w_nil ⟨fun p hp => ?_, (by decide : (3 : Nat) ≤ top), ?_⟩
    · rcases List.mem_cons.mp hp with rfl | hp
      · nofun
      · rcases List.mem_cons.mp hp with rfl | hp
        · rcases hm' with rfl | rfl <;> nofun
        · rcases List.mem_cons.mp hp with rfl | hp
          · nofun
          · cases hp
    have all3 : List.all [((AV.str (B (kindS.getD (gs.getD a g0).kind "")), elMd (elMd (slotMd .sh))) : AV × Md), (.tup (nAV ((gs.getD a g0).src.map (trS many gs.length turn))), m'), (.int ((gs.getD a g0).dly : Int), elMd (elMd (slotMd .sh)))] (fun p => okF p.2 p.1) = true := by
      rcases hm' with rfl | rfl
      · rfl
      · show (true && (((Md.sh == .fr) || (Md.sh == .ow) || AV.lfs (nAV ((gs.getD a g0).src.map (trS many gs.length turn)))) && (true && true))) = true
        rw [lfs_nAV]; rfl
    rw [all3]
    refine ⟨nofun, rfl, w_call <| w_cv rfl <| w_cons <| w_len b.toBas0 rfl <| w_cv rfl <| w_nil ?_⟩
    rw [List.length_map]
    refine hp turn gs.length a _ _ (by (first | lia | omega)) ?_
    have st : store (.lst ((madeL many turn gs a).map oAV)) (.int (pl turn gs.length a : Int)) (gAV (trG many gs.length turn (gs.getD a g0))) = some (.lst ((madeL many turn gs (a + 1)).map oAV)) := by
      show (if 0 ≤ (pl turn gs.length a : Int) ∧ (pl turn gs.length a : Int) < _ then some (AV.lst (List.set _ ((pl turn gs.length a : Int)).toNat _)) else none) = _
      have := pl_lt turn gs.length a ha
      rw [if_pos ⟨by (first | lia | omega), by rw [List.length_map, madeL_len]; (first | lia | omega)⟩, ← madeL_succ many turn gs a ha, List.map_set]; rfl
    refine nd st <| s_nil ?_
    exact gates_turn b hp many most gs ok turn m0 m2 m hm N K R X h n (a + 1) _ _ _ (by (first | lia | omega))

theorem turned_wp (b : Bas t) (hp : CPlace t) (many most : Nat) (gs : List Gte) (hl : gs.length ≤ 1000) (ok : ∀ g ∈ gs, g.Ok (many + gs.length) most) (turn : Int) (N : Rho → Prop) (Q : AV → Md → Prop) (X : Rho → Str → Prop) (h : Q (pAV many (trL many turn gs)) .fr) :
    wpSs t ms_turned (rho0 7 [.int many, .lst (gs.map gAV), .int turn]) N (fun _ => False) Q X := by
  have tt : top = 16777216 := rfl
  have em : binop .Mult (.lst [.none]) (.int (gs.length : Int)) = some (.lst ((madeL many turn gs 0).map oAV)) := by
    show (if 1 * (gs.length : Int).toNat ≤ top ∧ (gs.length : Int).natAbs < 2 ^ 62 then some (AV.lst (rep [.none] (gs.length : Int))) else none) = _
    rw [if_pos ⟨by (first | lia | omega), by (first | lia | omega)⟩, madeL_zero, List.map_replicate]
    unfold rep
    rw [show ((gs.length : Int)).toNat = gs.length by (first | lia | omega)]
    have : ∀ k : Nat, (List.replicate k [AV.none]).flatten = List.replicate k AV.none := by
      intro k
      induction k with
      | zero => rfl
      | succ k ih => rw [List.replicate_succ, List.flatten_cons, ih]; rfl
    rw [this]; rfl
  have ef : (madeL many turn gs gs.length).map oAV = (trL many turn gs).map gAV := by
    rw [madeL_all, List.map_map]; rfl
  refine s_Asm <| w_bin <| w_lst <| w_cc <| w_nil ⟨fun p hp => by cases List.mem_singleton.mp hp; nofun, by decide, ?_⟩
  refine w_bi <| w_vn rfl <| (b.len ..).mpr ?_
  rw [List.length_map]
  refine nd em ⟨rfl, ?_⟩
  refine s_For b.loops <| w_bi <| w_cons <| w_len b.toBas0 rfl <| w_nil ?_
  rw [List.length_map]
  refine (b.range _ _ _ (small62 (by (first | lia | omega)))).mpr ⟨nofun, nd (rng_items0 _) ⟨rng_top (by (first | lia | omega)), ?_⟩⟩
  rw [List.range_eq_range']
  refine gates_turn b hp many most gs ok turn _ _ .fr nofun _ _ _ _ (fun v v' v'' => ?_) gs.length 0 none none none (by (first | lia | omega))
  rw [ef]
  exact s_cons <| s_frz rfl <| s_Ret <| w_tup <| w_cv rfl <| w_cv rfl <| w_nil ⟨fun p hp => by
    rcases List.mem_cons.mp hp with rfl | hp
    · nofun
    · cases List.mem_singleton.mp hp; nofun, (by decide : (2 : Nat) ≤ top), nofun, rfl, h⟩

noncomputable def CMany (t : Th) : Prop := ∀ (c : Int) (Q : AV → Md → Prop) (X : Str → Prop), (∀ m : Nat, m ≤ 60 → Q (.int (m : Int)) .fr) → t.call (B "_law_many") [.int c] Q X
noncomputable def CGates (t : Th) : Prop := ∀ (ns : List Int) (many most : Nat) (Q : AV → Md → Prop) (X : Str → Prop), 0 < most → (∀ gs : List Gte, Row many most gs → gs.length ≤ 200 → Q (.lst (gs.map gAV)) .ow) → t.call (B "_law_gates_by") [.lst (ns.map .int), .int many, .int most] Q X
noncomputable def CTurn (t : Th) : Prop := ∀ (many most : Nat) (gs : List Gte) (turn : Int) (Q : AV → Md → Prop) (X : Str → Prop), gs.length ≤ 1000 → (∀ g ∈ gs, g.Ok (many + gs.length) most) → Q (pAV many (trL many turn gs)) .fr → t.call (B "_law_turned") [.int many, .lst (gs.map gAV), .int turn] Q X
end
end LP
end Mine

namespace Mine
open PySem
namespace LP
theorem dats_nAV (n : Nat) (ss : List Nat) : dats n (nAV ss) = true := by
  induction ss with
  | nil => rfl
  | cons s ss ih => show (true && dats n (nAV ss)) = true; rw [ih]; rfl
theorem eqqs_nAV (ss : List Nat) : eqqs (nAV ss) (nAV ss) = true := by
  induction ss with
  | nil => rfl
  | cons s ss ih => show (((s : Int) == (s : Int)) && eqqs (nAV ss) (nAV ss)) = true; rw [ih, beq_self_eq_true]; rfl
theorem dats_gs (n : Nat) (gs : List Gte) : dats (n + 2) (gs.map gAV) = true := by
  induction gs with
  | nil => rfl
  | cons g gs ih => show ((true && (dats n (nAV g.src) && (true && true))) && dats (n + 2) (gs.map gAV)) = true; rw [ih, dats_nAV]; rfl
theorem eqqs_gs (gs : List Gte) : eqqs (gs.map gAV) (gs.map gAV) = true := by
  induction gs with
  | nil => rfl
  | cons g gs ih => show (((B (kindS.getD g.kind "") == B (kindS.getD g.kind "")) && (eqqs (nAV g.src) (nAV g.src) && (((g.dly : Int) == (g.dly : Int)) && true))) && eqqs (gs.map gAV) (gs.map gAV)) = true; rw [ih, eqqs_nAV, beq_self_eq_true, beq_self_eq_true]; rfl
theorem dat_pAV (many : Nat) (gs : List Gte) : dat 8 (pAV many gs) = true := by
  show (true && (dats 6 (gs.map gAV) && true)) = true
  rw [dats_gs]; rfl
theorem eqq_pAV (many : Nat) (gs : List Gte) : eqq (pAV many gs) (pAV many gs) = true := by
  show (((many : Int) == (many : Int)) && (eqqs (gs.map gAV) (gs.map gAV) && true)) = true
  rw [eqqs_gs, beq_self_eq_true]; rfl
theorem ne_plan (many : Nat) (gs : List Gte) : cmpop .NotEq (pAV many gs) (pAV many gs) = some false := by
  show (if (dat 8 (pAV many gs) && dat 8 (pAV many gs)) = true then some (eqq (pAV many gs) (pAV many gs)) else none).map (!·) = _
  rw [dat_pAV, eqq_pAV]; rfl
section
variable {t : Th}
theorem Bas.list (b : Bas t) (xs : List AV) (m : Md) (hm : m ≠ .sh) (k : AV × Md → Prop) (h : k (.lst xs, .ow)) : need (t.bis (B "list") [(.lst xs, m)]) k := by
  rw [b.bls]
  refine ⟨(.lst xs, .ow), ?_, h⟩
  show some (AV.lst xs, cpMd (.lst xs) m) = _
  have : cpMd (.lst xs) m = .ow := by
    show (if (m != .sh || AV.lfs xs) = true then Md.ow else .sh) = .ow
    cases m <;> first | rfl | exact absurd rfl hm
  rw [this]
end
end LP
end Mine

namespace Mine
open PySem
namespace LP




section
variable {t : Th}





end
end LP
end Mine

namespace Mine
open PySem


namespace LP
section
variable {t : Th}




end
end LP
end Mine

namespace Mine
open PySem
namespace LP


end LP
end Mine

namespace Mine
open PySem
namespace LP
section
variable {t : Th}

noncomputable def CChecked (t : Th) : Prop := ∀ (many : Nat) (gs : List Gte) (Q : AV → Md → Prop) (X : Str → Prop), Valid many gs → Q (.int ((many + gs.length : Nat) : Int)) .fr → t.call (B "checked") [pAV many gs] Q X







end
end LP
end Mine

namespace Mine
open PySem
namespace LP
end LP
end Mine

namespace Mine
open PySem

theorem compL_all {el : AV → (AV → Md → Prop) → Prop} {co : AV → (Bool → Prop) → Prop} (P : AV → Prop) (m : Md) (hm : m ≠ .bo) : ∀ (xs : List AV), (∀ x ∈ xs, ∀ k : AV → Md → Prop, (∀ y, P y → k y m) → el x k) → (∀ x ∈ xs, ∀ k : Bool → Prop, k true → co x k) → (∀ y, P y → okF m y = true) →
    ∀ (acc : List AV) (f : Bool) (K : List AV → Bool → Prop), (∀ ys, ys.length = xs.length → (∀ y ∈ ys, P y) → K (acc ++ ys) f) → compL el co xs acc f K
  | [], _, _, _, acc, f, K, h => by
    rw [compL_nil]
    have := h [] rfl (fun y hy => nomatch hy)
    rwa [List.append_nil] at this
  | x :: xs, h1, h2, h3, acc, f, K, h => by
    rw [compL_cons]
    refine h2 x (.head _) _ ?_
    rw [if_pos rfl]
    refine h1 x (.head _) _ fun y hy => ⟨hm, compL_all P m hm xs (fun y q => h1 y (.tail _ q)) (fun y q => h2 y (.tail _ q)) h3 _ _ K fun ys hl hp => ?_⟩
    rw [h3 y hy, Bool.and_true, List.append_assoc]
    exact h (y :: ys) (by rw [List.length_cons, List.length_cons, hl]) fun z hz => by
      rcases List.mem_cons.mp hz with rfl | hz
      · exact hy
      · exact hp z hz

namespace LP
theorem gates_of (b most : Nat) : ∀ (ys : List AV), (∀ y ∈ ys, ∃ g : Gte, g.Ok b most ∧ y = gAV g) → ∃ gs : List Gte, ys = gs.map gAV ∧ gs.length = ys.length ∧ ∀ g ∈ gs, g.Ok b most
  | [], _ => ⟨[], rfl, rfl, fun g hg => nomatch hg⟩
  | y :: ys, h => by
    obtain ⟨g, ok, rfl⟩ := h y (.head _)
    obtain ⟨gs, rfl, hl, hg⟩ := gates_of b most ys fun z hz => h z (.tail _ hz)
    exact ⟨g :: gs, rfl, by rw [List.length_cons, List.length_cons, hl], fun z hz => by
      rcases List.mem_cons.mp hz with rfl | hz
      · exact ok
      · exact hg z hz⟩
theorem Gte.Ok.in {g : Gte} {a b most : Nat} (h : g.Ok a most) (e : a = b) : g.Ok b most := e ▸ h
section
variable {t : Th}

noncomputable def ms_loose : List MS :=
  [(.asg 3 (.slc (.var 0) (.cst (.int 3)) (.cst (.int 203)))),
   (.asg 4 (.call (B "_law_cell_at") [(.var 0), (.cst (.int 1))])),
   (.ite (.cmp .Eq (.bin .Mod (.var 4) (.cst (.int 8))) (.cst (.int 2))) [(.asg 5 (.bin .Add (.cst (.int 60)) (.bin .Mod (.bin .FloorDiv (.var 4) (.cst (.int 8))) (.cst (.int 131))))), (.asg 6 (.comp (.tup [(.cst (.str (B "not"))), (.tup [(.bin .Add (.var 1) (.bin .Mod (.bin .Add (.var 7) (.cst (.int 1))) (.var 5)))]), (.cst (.int 1))]) (.bi (B "range") [(.var 5)]) none)), (.ret (.tup [(.var 1), (.bin .Add (.var 6) (.comp (.call (B "_law_gate_by") [(.var 7), (.bin .Add (.var 1) (.var 5)), (.var 2)]) (.slc (.var 0) (.cst (.int 3)) (.cst (.int 13))) none))]))] []),
   (.ite (.cmp .Eq (.bin .Mod (.var 4) (.cst (.int 8))) (.cst (.int 5))) [(.asg 3 (.bin .Add (.comp (.bin .Add (.bin .FloorDiv (.var 4) (.cst (.int 8))) (.bin .Mult (.cst (.int 5)) (.var 7))) (.bi (B "range") [(.bin .Add (.cst (.int 60)) (.bin .Mod (.bin .FloorDiv (.var 4) (.cst (.int 8))) (.cst (.int 131))))]) none) (.slc (.var 0) (.cst (.int 3)) (.cst (.int 13)))))] []),
   (.ret (.tup [(.var 1), (.comp (.call (B "_law_gate_by") [(.var 7), (.bin .Add (.var 1) (.bi (B "len") [(.var 3)])), (.var 2)]) (.var 3) none)]))]
structure Loose (many most : Nat) (gs : List Gte) : Prop where
  len : gs.length ≤ 200
  ok : ∀ g ∈ gs, g.Ok (many + gs.length) most
theorem mem2 {p q : AV × Md} (h1 : p.2 ≠ .bo) (h2 : q.2 ≠ .bo) : ∀ x ∈ [p, q], x.2 ≠ .bo := fun x hx => by
  rcases List.mem_cons.mp hx with rfl | hx
  · exact h1
  · cases List.mem_singleton.mp hx; exact h2
theorem loose_end (b : Bas t) (hg : CGate t) (many most : Nat) (hm : 0 < most) (cs : List Int) (hc : cs.length ≤ 200) (s0 s4 s5 s6 : Slot) (m3 : Sm) (hm3 : slotMd m3 ≠ .bo) (N : Rho → Prop) (Q : AV → Md → Prop) (X : Rho → Str → Prop) (h : ∀ gs, Loose many most gs → Q (pAV many gs) .fr) :
    wpSs t (ms_loose.drop 4) [s0, some (.int many, .sh), some (.int most, .sh), some (.lst (cs.map .int), m3), s4, s5, s6] N (fun _ => False) Q X := by
  have tt : top = 16777216 := rfl
  refine s_Ret <| w_tup <| w_cv rfl <| w_cons <| w_comp b.loops <| w_var rfl <| nd (r := cs.map .int) rfl ⟨by rw [List.length_map]; (first | lia | omega), ?_⟩
  refine compL_all (fun y => ∃ g : Gte, g.Ok (many + cs.length) most ∧ y = gAV g) .fr nofun _ (fun x hx k hk => ?_) (fun x _ k hk => hk) (fun y _ => rfl) [] true _ fun ys hl hp => ?_
  · obtain ⟨c, _, rfl⟩ := List.mem_map.mp hx
    refine w_call <| w_cv rfl <| w_cons <| w_bin <| w_var rfl <| w_len b.toBas0 rfl <| nd (add_int ..) <| w_cv rfl <| w_nil ?_
    rw [List.length_map, show ((many : Nat) : Int) + (cs.length : Nat) = ((many + cs.length : Nat) : Int) from rfl]
    exact hg c _ most _ _ hm fun g ok => hk _ ⟨g, ok, rfl⟩
  · obtain ⟨gs, rfl, hl2, hg2⟩ := gates_of _ _ ys hp
    rw [List.length_map] at hl
    have hl3 : gs.length = cs.length := hl2.trans ((List.length_map ..).trans (by rw [hl2, List.length_map] at *; exact hl)) |>.trans rfl
    exact w_nil ⟨mem2 nofun nofun, (by decide : (2 : Nat) ≤ top), nofun, rfl, h gs ⟨by (first | lia | omega), fun g hg' => (hg2 g hg').in (by (first | lia | omega))⟩⟩
end
end LP
end Mine

namespace Mine
open PySem
namespace LP
section
variable {t : Th}
theorem sl_ow (ns : List Int) (xs : List AV) : slcMd (.lst (ns.map .int)) .sh (.lst xs) = .ow := by
  show (if frE .sh (.lst (ns.map .int)) = true then Md.ow else .sh) = .ow
  rw [if_pos]
  show (Md.sh != .sh || AV.lfs (ns.map .int)) = true
  rw [lfs_ints]; rfl
noncomputable def linF (far : Int) : AV → AV
  | .int k => .int (far.fdiv 8 + 5 * k)
  | v => v
theorem linF_map (far : Int) (n : Nat) : (nAV (List.range n)).map (linF far) = ((List.range n).map fun (k : Nat) => far.fdiv 8 + 5 * (k : Int)).map .int := by
  unfold nAV
  rw [List.map_map, List.map_map]; rfl
noncomputable def bodyLr : List MS := [(.asg 6 (.comp (.tup [(.cst (.str (B "not"))), (.tup [(.bin .Add (.var 1) (.bin .Mod (.bin .Add (.var 7) (.cst (.int 1))) (.var 5)))]), (.cst (.int 1))]) (.bi (B "range") [(.var 5)]) none)), (.ret (.tup [(.var 1), (.bin .Add (.var 6) (.comp (.call (B "_law_gate_by") [(.var 7), (.bin .Add (.var 1) (.var 5)), (.var 2)]) (.slc (.var 0) (.cst (.int 3)) (.cst (.int 13))) none))]))]
theorem ring_gate (many most c j : Nat) (hm : 0 < most) (hcp : 0 < c) (ρ : Rho) (m1 m5 m7 : Sm) (X : Str → Prop) (h1 : ρ[1]?.join = some (.int many, m1)) (h5 : ρ[5]?.join = some (.int c, m5)) (h7 : ρ[7]?.join = some (.int j, m7)) (k : AV → Md → Prop) (hk : ∀ y, (∃ g : Gte, g.Ok (many + c) most ∧ y = gAV g) → k y .fr) :
    wpE t (.tup [(.cst (.str (B "not"))), (.tup [(.bin .Add (.var 1) (.bin .Mod (.bin .Add (.var 7) (.cst (.int 1))) (.var 5)))]), (.cst (.int 1))]) ρ k X := by
  refine w_tup <| w_cc <| w_cons <| w_tup <| w_cons <| w_bin <| w_var h1 <| w_bin <| w_bin <| w_var h7 <| w_cst <| nd (add_int ..) <| w_var h5 <| nd (mod_int _ _ (by (first | lia | omega))) <| nd (add_int ..) <| w_nil ⟨?_, (by decide : (1 : Nat) ≤ top), ?_⟩
  · intro p hp; cases List.mem_singleton.mp hp; rw [md_int]; nofun
  have em : (((j + 1 : Nat) : Int)).fmod (c : Int) = (((j + 1) % c : Nat) : Int) := by rw [Int.fmod_eq_emod_of_nonneg _ (by (first | lia | omega))]; rfl
  have lt := Nat.mod_lt (j + 1) hcp
  rw [show ((j : Nat) : Int) + 1 = ((j + 1 : Nat) : Int) from rfl, em, show ((many : Nat) : Int) + (((j + 1) % c : Nat) : Int) = ((many + (j + 1) % c : Nat) : Int) from rfl, md_int]
  refine w_cc <| w_nil ⟨?_, (by decide : (3 : Nat) ≤ top), ?_⟩
  · intro p hp
    rcases List.mem_cons.mp hp with rfl | hp
    · nofun
    · rcases List.mem_cons.mp hp with rfl | hp
      · nofun
      · cases List.mem_singleton.mp hp; nofun
  exact hk _ ⟨⟨3, [many + (j + 1) % c], 1⟩, ⟨(by decide : 3 < 9), (by decide : fits 3 1 = true), fun s hs => by have := List.mem_singleton.mp hs; (first | lia | omega), (by decide : 1 ≤ 1), hm⟩, rfl⟩
theorem ring_join {many most c : Nat} {gs1 gs2 : List Gte} (l1 : gs1.length = c) (l2 : gs2.length ≤ 10) (hc : c ≤ 190) (o1 : ∀ g ∈ gs1, g.Ok (many + c) most) (o2 : ∀ g ∈ gs2, g.Ok (many + c) most) : Loose many most (gs1 ++ gs2) ∧ binop .Add (.lst (gs1.map gAV)) (.lst (gs2.map gAV)) = some (.lst ((gs1 ++ gs2).map gAV)) := by
  have tt : top = 16777216 := rfl
  refine ⟨⟨by rw [List.length_append]; (first | lia | omega), fun g hg' => ?_⟩, ?_⟩
  · rw [List.length_append]
    rcases List.mem_append.mp hg' with q | q
    · exact (o1 g q).up (by (first | lia | omega))
    · exact (o2 g q).up (by (first | lia | omega))
  · rw [List.map_append]
    exact if_pos (by rw [List.length_map, List.length_map]; (first | lia | omega))
theorem loose_ring (b : Bas t) (hg : CGate t) (ns ds : List Int) (dl : ds.length ≤ 10) (de : slices (.lst (ns.map .int)) (.int 3) (.int 13) = some (.lst (ds.map .int))) (many most c : Nat) (hm : 0 < most) (hcn : c ≤ 190) (hcp : 0 < c) (s3 s4 s6 : Slot) (N : Rho → Prop) (Q : AV → Md → Prop) (X : Rho → Str → Prop) (h : ∀ gs, Loose many most gs → Q (pAV many gs) .fr) :
    wpSs t bodyLr [some (.lst (ns.map .int), .sh), some (.int many, .sh), some (.int most, .sh), s3, s4, some (.int (c : Int), .fr), s6] N (fun _ => False) Q X := by
  refine s_Asg <| w_comp b.loops <| w_bi <| w_vn rfl <| (b.range _ _ _ (small62 (by (first | lia | omega)))).mpr <| nd (rng_items0 _) ⟨rng_top (by (first | lia | omega)), ?_⟩
  refine compL_all (fun y => ∃ g : Gte, g.Ok (many + c) most ∧ y = gAV g) .fr nofun _ (fun y hy k hk => ?_) (fun x _ k hk => hk) (fun y _ => rfl) [] true _ fun ys hl hp => ?_
  · obtain ⟨j, _, rfl⟩ := List.mem_map.mp hy
    exact ring_gate many most c j hm hcp _ _ _ _ _ rfl rfl rfl k hk
  obtain ⟨gs1, rfl, gl1, go1⟩ := gates_of _ _ ys hp
  have gl1 : gs1.length = c := by
    rw [List.length_map] at hl
    exact hl.trans ((List.length_map ..).trans List.length_range)
  refine ⟨nofun, s_Ret <| w_tup <| w_cv rfl <| w_cons <| w_bin <| w_var rfl <| w_comp b.loops <| w_slc <| w_var rfl <| w_cst <| w_cst <| nd de ?_⟩
  rw [show slotMd .sh = .sh from rfl, sl_ow]
  refine nd (r := ds.map .int) rfl ⟨map_top (Nat.le_trans dl (by decide)), ?_⟩
  refine compL_all (fun y => ∃ g : Gte, g.Ok (many + c) most ∧ y = gAV g) .fr nofun _ (fun y hy k hk => ?_) (fun x _ k hk => hk) (fun y _ => rfl) [] true _ fun ys hl hp => ?_
  · obtain ⟨d, _, rfl⟩ := List.mem_map.mp hy
    exact w_call <| w_cv rfl <| w_cons <| w_bvv rfl rfl <| nd (add_int ..) <| w_vn rfl <| hg d (many + c) most _ _ hm fun g ok => hk _ ⟨g, ok, rfl⟩
  obtain ⟨gs2, rfl, gl2, go2⟩ := gates_of _ _ ys hp
  have gl2 : gs2.length ≤ 10 := by
    rw [List.length_map, List.length_map] at hl
    exact hl ▸ dl
  obtain ⟨lo, ad⟩ := ring_join gl1 gl2 hcn go1 go2
  exact nd ad <| w_nil ⟨mem2 nofun nofun, (by decide : (2 : Nat) ≤ top), nofun, rfl, h (gs1 ++ gs2) lo⟩
noncomputable def eLin : ME := .bin .Add (.comp (.bin .Add (.bin .FloorDiv (.var 4) (.cst (.int 8))) (.bin .Mult (.cst (.int 5)) (.var 7))) (.bi (B "range") [(.bin .Add (.cst (.int 60)) (.bin .Mod (.bin .FloorDiv (.var 4) (.cst (.int 8))) (.cst (.int 131))))]) none) (.slc (.var 0) (.cst (.int 3)) (.cst (.int 13)))
theorem loose_lin (b : Bas t) (ns ds : List Int) (dl : ds.length ≤ 10) (de : slices (.lst (ns.map .int)) (.int 3) (.int 13) = some (.lst (ds.map .int))) (far : Int) (x : Nat) (hx : (far.fdiv 8).fmod 131 = (x : Int)) (hx2 : x < 131) (s1 s2 s3 s5 s6 : Slot) (X : Str → Prop) (Q : AV → Md → Prop) (h : ∀ es : List Int, es.length ≤ 200 → Q (.lst (es.map .int)) .ow) :
    wpE t eLin [some (.lst (ns.map .int), .sh), s1, s2, s3, some (.int far, .fr), s5, s6] Q X := by
  have tt : top = 16777216 := rfl
  refine w_bin <| w_comp b.loops <| w_bi <| w_cons <| w_bin <| w_cst <| w_bin <| w_bvc rfl <| nd (div_int _ 8 (by decide)) <| w_cst <| nd (mod_int _ 131 (by decide)) <| nd (add_int ..) <| w_nil ?_
  rw [hx, show (60 : Int) + (x : Nat) = ((60 + x : Nat) : Int) from rfl]
  refine (b.range _ _ _ (small62 (by (first | lia | omega)))).mpr <| nd (rng_items0 _) ⟨rng_top (by (first | lia | omega)), ?_⟩
  refine compL_map (linF far) .fr nofun _ (fun y hy k hk => ?_) (fun x _ k hk => hk) (fun x _ => rfl) [] true _ ?_
  · obtain ⟨j, _, rfl⟩ := List.mem_map.mp hy
    exact w_bin <| w_bvc rfl <| nd (div_int _ 8 (by decide)) <| w_bin <| w_cst <| w_var rfl <| nd (mul_int 5 _ (.inl (by decide))) <| nd (add_int ..) hk
  rw [List.nil_append, linF_map]
  refine w_slc <| w_var rfl <| w_cst <| w_cst <| nd de ?_
  rw [show slotMd .sh = .sh from rfl, sl_ow]
  have rl : ((List.range (60 + x)).map fun (k : Nat) => far.fdiv 8 + 5 * (k : Int)).length = 60 + x := by rw [List.length_map, List.length_range]
  generalize ((List.range (60 + x)).map fun (k : Nat) => far.fdiv 8 + 5 * (k : Int)) = es at rl ⊢
  have ad : binop .Add (.lst (es.map .int)) (.lst (ds.map .int)) = some (.lst ((es ++ ds).map .int)) := by
    rw [List.map_append]
    exact if_pos (by rw [List.length_map, List.length_map]; (first | lia | omega))
  exact nd ad (h (es ++ ds) (by rw [List.length_append]; (first | lia | omega)))
theorem loose_wp (b : Bas t) (hg : CGate t) (hc : CCell t) (ns : List Int) (many most : Nat) (hm : 0 < most) (N : Rho → Prop) (Q : AV → Md → Prop) (X : Rho → Str → Prop) (h : ∀ gs, Loose many most gs → Q (pAV many gs) .fr) :
    wpSs t ms_loose (rho0 7 [.lst (ns.map .int), .int many, .int most]) N (fun _ => False) Q X := by
  obtain ⟨cs, cl, ce⟩ := slc_ints ns 203
  obtain ⟨ds, dl, de⟩ := slc_ints ns 13
  refine s_Asg <| w_slc <| w_var rfl <| w_cst <| w_cst <| nd ce ⟨by rw [show slotMd .sh = .sh from rfl, sl_ow]; nofun, ?_⟩
  rw [show slotMd .sh = .sh from rfl, sl_ow]
  refine s_Asg <| w_2vc rfl <| hc ns 1 _ _ (by decide) ⟨nofun, ?_⟩
  generalize ns.getD (1 : Int).toNat 0 = far
  have p1 := Int.fmod_nonneg_of_pos (far.fdiv 8) (b := 131) (by decide)
  have p2 := Int.fmod_lt_of_pos (far.fdiv 8) (b := 131) (by decide)
  obtain ⟨x, hx⟩ := Int.eq_ofNat_of_zero_le p1
  rw [hx] at p2
  have hx2 : x < 131 := by (first | lia | omega)
  clear p1 p2
  refine s_Ite <| t_cmp <| w_bvc rfl <| nd (mod_int _ 8 (by decide)) <| w_cst <| nd (eq_int ..) ?_
  by_cases q1 : (far.fmod 8 == 2) = true
  · refine i_pos q1 <| s_Asg <| w_bin <| w_cst <| w_bin <| w_bvc rfl <| nd (div_int _ 8 (by decide)) <| w_cst <| nd (mod_int _ 131 (by decide)) <| nd (add_int ..) ⟨nofun, ?_⟩
    rw [hx, show (60 : Int) + (x : Nat) = ((60 + x : Nat) : Int) from rfl]
    exact loose_ring b hg ns ds dl de many most (60 + x) hm (by (first | lia | omega)) (by (first | lia | omega)) _ _ _ _ Q X h
  refine i_neg q1 <| s_nil <| s_Ite <| t_cmp <| w_bvc rfl <| nd (mod_int _ 8 (by decide)) <| w_cst <| nd (eq_int ..) ?_
  by_cases q2 : (far.fmod 8 == 5) = true
  · exact i_pos q2 <| s_Asg <| loose_lin b ns ds dl de far x hx hx2 _ _ _ _ _ _ _ fun es el => ⟨nofun, s_nil <| loose_end b hg many most hm es el _ _ _ _ .fr nofun N Q X h⟩
  · exact i_neg q2 <| s_nil <| loose_end b hg many most hm cs (by (first | lia | omega)) _ _ _ _ .fr nofun N Q X h

theorem all_bools (bs : List Bool) (m : Md) : allB [(.lst (bs.map .bool), m)] = some (.bool (bs.all id), .fr) := by
  show ((boolsO (bs.map .bool)).map fun bs => (AV.bool (bs.all id), Md.fr)) = _
  rw [bools_map]; rfl



end
end LP
end Mine

namespace Mine
open PySem
namespace LP
noncomputable def own11 : List Str := [B "SignalError", B "NoSize", B "NoKind", B "NoSources", B "NoLine", B "NoDelay", B "NoValues", B "Ringed", B "NoDeed", B "NoText"]
noncomputable def clsW : List (Str × Str) := [(B "NoSize", B "size"), (B "NoKind", B "kind"), (B "NoSources", B "sources"), (B "NoLine", B "line"), (B "NoDelay", B "delay"), (B "NoValues", B "values"), (B "Ringed", B "ring"), (B "NoDeed", B "deed"), (B "NoText", B "text")]
section
variable {t : Th}
noncomputable def ms_class : List MS :=
  [(.asm 1 (.lst [])),
   (.ite (.isi (.var 0) (B "NoSize")) [(.app 1 (.cst (.str (B "size"))))] []),
   (.ite (.isi (.var 0) (B "NoKind")) [(.app 1 (.cst (.str (B "kind"))))] []),
   (.ite (.isi (.var 0) (B "NoSources")) [(.app 1 (.cst (.str (B "sources"))))] []),
   (.ite (.isi (.var 0) (B "NoLine")) [(.app 1 (.cst (.str (B "line"))))] []),
   (.ite (.isi (.var 0) (B "NoDelay")) [(.app 1 (.cst (.str (B "delay"))))] []),
   (.ite (.isi (.var 0) (B "NoValues")) [(.app 1 (.cst (.str (B "values"))))] []),
   (.ite (.isi (.var 0) (B "Ringed")) [(.app 1 (.cst (.str (B "ring"))))] []),
   (.ite (.isi (.var 0) (B "NoDeed")) [(.app 1 (.cst (.str (B "deed"))))] []),
   (.ite (.isi (.var 0) (B "NoText")) [(.app 1 (.cst (.str (B "text"))))] []),
   (.ite (.bop true [(.cmp .Eq (.bi (B "len") [(.var 1)]) (.cst (.int 1))), (.isi (.var 0) (B "ValueError"))]) [(.ret (.sub (.var 1) (.cst (.int 0))))] []),
   (.ret (.cst (.str (B "other"))))]
theorem cls_no {c C w : Str} {m : Sm} {v : Slot} {ss : List MS} {N K : Rho → Prop} {R : AV → Md → Prop} {X : Rho → Str → Prop} (e : t.sub c C = some false) (h : wpSs t ss [some (.exc c, m), v] N K R X) : wpSs t ((.ite (.isi (.var 0) C) [(.app 1 (.cst (.str w)))] []) :: ss) [some (.exc c, m), v] N K R X :=
  s_Ite <| t_isi <| w_var rfl <| nd e <| i_neg (by decide) <| s_nil h
theorem cls_yes {c C w : Str} {m : Sm} {ss : List MS} {N K : Rho → Prop} {R : AV → Md → Prop} {X : Rho → Str → Prop} (e : t.sub c C = some true) (h : wpSs t ss [some (.exc c, m), some (.lst [.str w], .mu)] N K R X) : wpSs t ((.ite (.isi (.var 0) C) [(.app 1 (.cst (.str w)))] []) :: ss) [some (.exc c, m), some (.lst [], .mu)] N K R X :=
  s_Ite <| t_isi <| w_var rfl <| nd e <| i_pos rfl <| s_App rfl <| w_cst ⟨nofun, rfl, by decide, s_nil h⟩
theorem class_wp (b : Bas0 t) (hs : t.sub = subT own11) (c w : Str) (hm : (c, w) ∈ clsW) (N : Rho → Prop) (Q : AV → Md → Prop) (X : Rho → Str → Prop) (h : Q (.str w) .fr) : wpSs t ms_class (rho0 2 [.exc c]) N (fun _ => False) Q X := by
  have fin : t.sub c (B "ValueError") = some true → wpSs t (ms_class.drop 10) [some (.exc c, .sh), some (.lst [.str w], .mu)] N (fun _ => False) Q X := fun e =>
    s_Ite <| t_bop <| t_cons <| t_cmp <| w_len b rfl <| w_cst <| nd (eq_int ..) <| i_pos rfl <| t_cons <| t_isi <| w_var rfl <| nd e <| i_pos rfl <| t_nil <| i_pos rfl <| s_Ret <| w_svc rfl <| nd (sub_lst _ 0 _ rfl) ⟨nofun, rfl, h⟩
  refine s_Asm <| w_lst <| w_nil ⟨fun p hp => (nomatch hp), by decide, rfl, ?_⟩
  simp only [clsW, List.mem_cons, List.not_mem_nil, or_false, Prod.mk.injEq] at hm
  rcases hm with ⟨rfl, rfl⟩ | ⟨rfl, rfl⟩ | ⟨rfl, rfl⟩ | ⟨rfl, rfl⟩ | ⟨rfl, rfl⟩ | ⟨rfl, rfl⟩ | ⟨rfl, rfl⟩ | ⟨rfl, rfl⟩ | ⟨rfl, rfl⟩
  all_goals
    rw [hs] at fin
    iterate 9 (first | refine cls_no (by rw [hs]; rfl) ?_ | refine cls_yes (by rw [hs]; rfl) ?_)
    exact fin rfl
end
end LP
end Mine

namespace Mine
open PySem
namespace LP
theorem mem3 {p q r : AV × Md} (h1 : p.2 ≠ .bo) (h2 : q.2 ≠ .bo) (h3 : r.2 ≠ .bo) : ∀ x ∈ [p, q, r], x.2 ≠ .bo := fun x hx => by
  rcases List.mem_cons.mp hx with rfl | hx
  · exact h1
  · exact mem2 h2 h3 x hx
section
variable {t : Th} {ρ : Rho} {Q : AV → Md → Prop} {X : Str → Prop}
end
section
variable {t : Th}
theorem Gte.Ok.most {g : Gte} {a m n : Nat} (h : g.Ok a m) (l : m ≤ n) : g.Ok a n := ⟨h.kind, h.fit, h.src, h.lo, Nat.le_trans h.hi l⟩
noncomputable def ms_plan_by : List MS :=
  [(.asg 2 (.call (B "_law_many") [(.call (B "_law_cell_at") [(.var 0), (.cst (.int 0))])])),
   (.ite (.cmp .Gt (.bin .Mod (.call (B "_law_cell_at") [(.var 0), (.cst (.int 1))]) (.cst (.int 3))) (.cst (.int 0))) [(.ret (.call (B "_law_loose") [(.var 0), (.var 2), (.var 1)]))] []),
   (.ret (.call (B "_law_turned") [(.var 2), (.call (B "_law_gates_by") [(.var 0), (.var 2), (.var 1)]), (.call (B "_law_cell_at") [(.var 0), (.cst (.int 2))])]))]
noncomputable def CLoose (t : Th) : Prop := ∀ (ns : List Int) (many most : Nat) (Q : AV → Md → Prop) (X : Str → Prop), 0 < most → (∀ gs, Loose many most gs → Q (pAV many gs) .fr) → t.call (B "_law_loose") [.lst (ns.map .int), .int many, .int most] Q X
theorem plan_by_wp (hc : CCell t) (h1 : CMany t) (h2 : CGates t) (h3 : CTurn t) (h4 : CLoose t) (ns : List Int) (most : Nat) (hm : 0 < most) (hm' : most ≤ 60) (N : Rho → Prop) (Q : AV → Md → Prop) (X : Rho → Str → Prop) (h : ∀ many gs, Valid many gs → Q (pAV many gs) .fr) : wpSs t ms_plan_by (rho0 3 [.lst (ns.map .int), .int most]) N (fun _ => False) Q X := by
  refine s_Asg <| w_one <| w_2vc rfl <| hc _ _ _ _ (by decide) <| h1 _ _ _ fun many h60 => ⟨nofun, ?_⟩
  refine s_Ite <| t_cmp <| w_bin <| w_2vc rfl <| hc _ _ _ _ (by decide) <| w_cst <| nd (mod_int _ 3 (by decide)) <| w_cst <| nd (gt_int ..) ?_
  cases decide ((0 : Int) < (ns.getD (1 : Int).toNat 0).fmod 3) with
  | true => exact i_pos rfl <| s_Ret <| w_call <| w_cv rfl <| w_cv rfl <| w_vn rfl <| h4 _ _ _ _ _ hm fun gs lo => ⟨nofun, rfl, h many gs ⟨h60, lo.len, fun g hg => (lo.ok g hg).most hm'⟩⟩
  | false =>
    refine i_neg (by decide) <| s_nil <| s_Ret <| w_call <| w_cv rfl <| w_cons <| w_call <| w_cv rfl <| w_cv rfl <| w_vn rfl <| h2 _ _ _ _ _ hm fun gs hr hl => ?_
    refine w_cons <| w_2vc rfl <| hc _ _ _ _ (by decide) <| w_nil <| h3 _ _ _ _ _ _ (by (first | lia | omega)) hr.all ⟨nofun, rfl, ?_⟩
    exact h many _ ⟨h60, by rw [trL_len]; exact hl, fun g hg => (trL_ok hr.all g hg).most hm'⟩
end
end LP
end Mine

namespace Mine
open PySem
namespace LP
noncomputable def rAV (k : Str) (ss : List Int) (d : Int) : AV := .tup [.str k, .tup (ss.map .int), .int d]
inductive GB (count : Nat) : Nat → Str → List Int → Int → Prop
  | kind {k : Str} {ss : List Int} {d : Int} (hk : kidx k = none) : GB count 0 k ss d
  | sources {k : Str} {ss : List Int} {d : Int} {i : Nat} (hk : kidx k = some i) (hf : fits i ss.length = false) : GB count 1 k ss d
  | line {k : Str} {ss : List Int} {d : Int} {i : Nat} (hk : kidx k = some i) (hf : fits i ss.length = true) (hs : ∃ s ∈ ss, s < 0 ∨ (count : Int) ≤ s) : GB count 2 k ss d
  | delay {k : Str} {ss : List Int} {d : Int} {i : Nat} (hk : kidx k = some i) (hf : fits i ss.length = true) (hs : ∀ s ∈ ss, 0 ≤ s ∧ s < (count : Int)) (hd : d < 1 ∨ 60 < d) : GB count 3 k ss d
noncomputable def faults : List Str := [B "NoKind", B "NoSources", B "NoLine", B "NoDelay"]
inductive PB : Str → AV → Prop
  | size {m : Int} {vs : List AV} (h : m < 0 ∨ 60 < m ∨ 200 < vs.length) : PB (B "NoSize") (.tup [.int m, .lst vs])
  | gate {many way : Nat} {pre : List Gte} {k : Str} {ss : List Int} {d : Int} {post : List AV} {c : Str} (hm : many ≤ 60) (hl : pre.length + 1 + post.length ≤ 200) (ok : ∀ g ∈ pre, g.Ok (many + (pre.length + 1 + post.length)) 60) (bad : GB (many + (pre.length + 1 + post.length)) way k ss d) (hc : faults[way]? = some c) :
      PB c (.tup [.int (many : Int), .lst (pre.map gAV ++ rAV k ss d :: post)])

section
variable {t : Th}
theorem src_bad (hl : t.loops = true) (s0 s2 s3 : Slot) (count : Nat) (m1 m : Sm) (N K : Rho → Prop) (R : AV → Md → Prop) (X : Rho → Str → Prop) (h : ∀ ρ, X ρ (B "NoLine")) : ∀ (ss : List Int) (v : Slot), (∃ s ∈ ss, s < 0 ∨ (count : Int) ≤ s) →
    loopF 4 m (fun ρ' k => wpSs t [(.ite (.bop false [(.cmp .Lt (.var 4) (.cst (.int 0))), (.cmp .GtE (.var 4) (.var 1))]) [(.rai (B "NoLine"))] [])] ρ' k K R X) (ss.map .int) [s0, some (.int count, m1), s2, s3, v] N
  | [], v, hs => by obtain ⟨s, hm, _⟩ := hs; cases hm
  | s :: ss, v, hs => by
    refine s_cons <| s_ite <| t_bop <| t_cons <| t_cmp <| w_var rfl <| w_cst <| nd (lt_int ..) ?_
    by_cases q : s < 0
    · exact i_neg (by rw [decide_eq_true q]; decide) <| i_pos rfl <| s_cons <| s_rai hl (h _)
    · refine i_pos (decide_eq_false q) <| t_cons <| t_cmp <| w_var rfl <| w_var rfl <| nd (ge_int ..) ?_
      by_cases q2 : (count : Int) ≤ s
      · exact i_neg (by rw [decide_eq_true q2]; decide) <| i_pos rfl <| s_cons <| s_rai hl (h _)
      · refine i_pos (decide_eq_false q2) <| t_nil <| i_neg (by decide) <| s_nil <| s_nil <| src_bad hl s0 s2 s3 count m1 m N K R X h ss _ ?_
        obtain ⟨z, hz, b⟩ := hs
        cases hz with
        | head => exact absurd b (by (first | lia | omega))
        | tail _ hz => exact ⟨z, hz, b⟩
theorem src_good (s0 s2 s3 : Slot) (count : Nat) (m1 m : Sm) (N K : Rho → Prop) (R : AV → Md → Prop) (X : Rho → Str → Prop) (h : ∀ v, N [s0, some (.int count, m1), s2, s3, v]) : ∀ (ss : List Int) (v : Slot), (∀ s ∈ ss, 0 ≤ s ∧ s < (count : Int)) →
    loopF 4 m (fun ρ' k => wpSs t [(.ite (.bop false [(.cmp .Lt (.var 4) (.cst (.int 0))), (.cmp .GtE (.var 4) (.var 1))]) [(.rai (B "NoLine"))] [])] ρ' k K R X) (ss.map .int) [s0, some (.int count, m1), s2, s3, v] N
  | [], v, _ => h v
  | s :: ss, v, hs => by
    have := hs s (.head _)
    exact s_cons <| s_ite <| t_bop <| t_cons <| t_cmp <| w_var rfl <| w_cst <| nd (lt_int ..) <| i_pos (decide_eq_false (by (first | lia | omega))) <| t_cons <| t_cmp <| w_var rfl <| w_var rfl <| nd (ge_int ..) <| i_pos (decide_eq_false (by (first | lia | omega))) <| t_nil <| i_neg (by decide) <|
      s_nil <| s_nil <| src_good s0 s2 s3 count m1 m N K R X h ss _ fun z hz => hs z (.tail _ hz)

theorem len_ints (ss : List Int) : (ss.map AV.int).length = ss.length := List.length_map ..
noncomputable def CWan (t : Th) : Prop := ∀ (k : Str) (i : Nat) (Q : AV → Md → Prop) (X : Str → Prop), kidx k = some i → Q (bnd i) .fr → t.call (B "wants") [.str k] Q X
theorem check_head (b : Bas t) (hw : CWan t) {k : Str} {ss : List Int} {d : Int} {i : Nat} (hk : kidx k = some i) (count : Nat) (N : Rho → Prop) (Q : AV → Md → Prop) (X : Rho → Str → Prop)
    (h0 : fits i ss.length = false → ∀ ρ, X ρ (B "NoSources"))
    (h1 : fits i ss.length = true → ∀ s2 s3, loopF 4 .sh (fun ρ' k => wpSs t [(.ite (.bop false [(.cmp .Lt (.var 4) (.cst (.int 0))), (.cmp .GtE (.var 4) (.var 1))]) [(.rai (B "NoLine"))] [])] ρ' k (fun ρ' => wpSs t (ms_check_gate.drop 3) ρ' N (fun _ => False) Q X) Q X) (ss.map .int) [some (rAV k ss d, .sh), some (.int count, .sh), s2, s3, none] (fun ρ' => wpSs t (ms_check_gate.drop 3) ρ' N (fun _ => False) Q X)) :
    wpSs t ms_check_gate (rho0 5 [rAV k ss d, .int count]) N (fun _ => False) Q X := by
  have ll := len_ints ss
  refine s_cons <| s_unp b.loops <| w_one <| w_sub <| w_var rfl <| w_cst <| nd (sub_tup _ 0 _ rfl) <| hw k i _ _ hk ⟨nofun, rfl, ?_⟩
  have hlt : cmpop .Lt (.int ((ss.map AV.int).length : Int)) (.int ((wideN.getD i (0, 0)).1 : Int)) = some (decide ((ss.length : Int) < ((wideN.getD i (0, 0)).1 : Int))) := by rw [ll]; rfl
  have hgt : cmpop .Gt (.int ((ss.map AV.int).length : Int)) (.int ((wideN.getD i (0, 0)).2 : Int)) = some (decide (((wideN.getD i (0, 0)).2 : Int) < (ss.length : Int))) := by rw [ll]; rfl
  refine s_cons <| s_ite <| t_bop <| t_cons <| t_cmp <| w_bi <| w_cons <| w_sub <| w_var rfl <| w_cst <| nd (sub_tup _ 1 _ rfl) <| w_nil <| (b.lent ..).mpr <| w_var rfl <| nd hlt ?_
  cases q : fits i ss.length with
  | true =>
    have a := of_decide_eq_true (Bool.and_eq_true_iff.mp q).1
    have c := of_decide_eq_true (Bool.and_eq_true_iff.mp q).2
    have f9 := (fit_le (kidx_some hk).1 q).2.2
    refine i_pos (decide_eq_false (by (first | lia | omega))) <| t_cons <| t_cmp <| w_bi <| w_cons <| w_sub <| w_var rfl <| w_cst <| nd (sub_tup _ 1 _ rfl) <| w_nil <| (b.lent ..).mpr <| w_var rfl <| nd hgt ?_
    refine i_pos (decide_eq_false (by (first | lia | omega))) <| t_nil <| i_neg (by decide) <| s_nil ?_
    exact s_cons <| s_for b.loops <| w_sub <| w_var rfl <| w_cst <| nd (sub_tup _ 1 _ rfl) ⟨nofun, nd (r := ss.map .int) rfl ⟨map_top (le_of9 f9), h1 q _ _⟩⟩
  | false =>
    by_cases q1 : (ss.length : Int) < ((wideN.getD i (0, 0)).1 : Int)
    · exact i_neg (by rw [decide_eq_true q1]; decide) <| i_pos rfl <| s_cons <| s_rai b.loops (h0 q _)
    · refine i_pos (decide_eq_false q1) <| t_cons <| t_cmp <| w_bi <| w_cons <| w_sub <| w_var rfl <| w_cst <| nd (sub_tup _ 1 _ rfl) <| w_nil <| (b.lent ..).mpr <| w_var rfl <| nd hgt ?_
      have q2 : ((wideN.getD i (0, 0)).2 : Int) < (ss.length : Int) := by
        by_cases z : ((wideN.getD i (0, 0)).2 : Int) < (ss.length : Int)
        · exact z
        · exact absurd q (by rw [fits, decide_eq_true (by (first | lia | omega)), decide_eq_true (by (first | lia | omega))]; decide)
      exact i_neg (by rw [decide_eq_true q2]; decide) <| i_pos rfl <| s_cons <| s_rai b.loops (h0 q _)
theorem check_bad (b : Bas t) (hd : t.data (B "MOST_DELAY") = some (.int 60)) (hw : CWan t) (hn : ∀ (k : Str) (Q : AV → Md → Prop) (X : Str → Prop), kidx k = none → X (B "NoKind") → t.call (B "wants") [.str k] Q X)
    {count way : Nat} {k : Str} {ss : List Int} {d : Int} {c : Str} (bad : GB count way k ss d) (hc : faults[way]? = some c) (N : Rho → Prop) (Q : AV → Md → Prop) (X : Rho → Str → Prop) (h : ∀ ρ, X ρ c) : wpSs t ms_check_gate (rho0 5 [rAV k ss d, .int count]) N (fun _ => False) Q X := by
  cases bad with
  | kind hk =>
    cases hc
    exact s_cons <| s_unp b.loops <| w_one <| w_sub <| w_var rfl <| w_cst <| nd (sub_tup _ 0 _ rfl) <| hn k _ _ hk (h _)
  | sources hk hf =>
    cases hc
    exact check_head b hw hk count N Q X (fun _ => h) fun q => by rw [hf] at q; cases q
  | line hk hf hs =>
    cases hc
    exact check_head b hw hk count N Q X (fun q => by rw [hf] at q; cases q) fun _ s2 s3 => src_bad b.loops _ _ _ count _ _ _ _ _ _ h ss _ hs
  | delay hk hf hs hd' =>
    cases hc
    refine check_head b hw hk count N Q X (fun q => by rw [hf] at q; cases q) fun _ s2 s3 => src_good _ _ _ count _ _ _ _ _ _ (fun v => ?_) ss _ hs
    refine s_cons <| s_ite <| t_bop <| t_cons <| t_cmp <| w_sub <| w_var rfl <| w_cst <| nd (sub_tup _ 2 _ rfl) <| w_cst <| nd (lt_int ..) ?_
    by_cases q : d < 1
    · exact i_neg (by rw [decide_eq_true q]; decide) <| i_pos rfl <| s_cons <| s_rai b.loops (h _)
    · refine i_pos (decide_eq_false q) <| t_cons <| t_cmp <| w_sub <| w_var rfl <| w_cst <| nd (sub_tup _ 2 _ rfl) <| w_gv hd <| nd (gt_int ..) ?_
      exact i_neg (by rw [decide_eq_true (show (60 : Int) < d by (first | lia | omega))]; decide) <| i_pos rfl <| s_cons <| s_rai b.loops (h _)

theorem gates_bad (s0 s1 s2 : Slot) (count : Nat) (m3 m : Sm) (N K : Rho → Prop) (R : AV → Md → Prop) (X : Rho → Str → Prop) {c : Str} (h : ∀ ρ, X ρ c) (v : AV) (post : List AV)
    (hc : ∀ (g : Gte) (Q : AV → Md → Prop) (X : Str → Prop), g.Ok count 60 → Q .none .fr → t.call (B "check_gate") [gAV g, .int count] Q X) (hb : ∀ (Q : AV → Md → Prop) (X : Str → Prop), X c → t.call (B "check_gate") [v, .int count] Q X) : ∀ (gs : List Gte) (s : Slot), (∀ g ∈ gs, g.Ok count 60) →
    loopF 4 m (fun ρ' k => wpSs t [(.ex (.call (B "check_gate") [(.var 4), (.var 3)]))] ρ' k K R X) (gs.map gAV ++ v :: post) [s0, s1, s2, some (.int count, m3), s] N
  | [], _, _ => s_cons <| s_ex <| w_two <| w_var rfl <| w_var rfl <| hb _ _ (h _)
  | g :: gs, _, hs => s_cons <| s_ex <| w_two <| w_var rfl <| w_var rfl <| hc g _ _ (hs g (.head _)) <| s_nil <| gates_bad s0 s1 s2 count m3 m N K R X h v post hc hb gs _ fun z hz => hs z (.tail _ hz)
theorem checked_bad (b : Bas t) (h1 : t.data (B "MOST_INPUTS") = some (.int 60)) (h2 : t.data (B "MOST_GATES") = some (.int 200))
    (hc : ∀ (g : Gte) (count : Nat) (Q : AV → Md → Prop) (X : Str → Prop), g.Ok count 60 → Q .none .fr → t.call (B "check_gate") [gAV g, .int count] Q X)
    (hb : ∀ (count way : Nat) (k : Str) (ss : List Int) (d : Int) (c : Str) (Q : AV → Md → Prop) (X : Str → Prop), GB count way k ss d → faults[way]? = some c → X c → t.call (B "check_gate") [rAV k ss d, .int count] Q X)
    {c : Str} {v : AV} (bad : PB c v) (N : Rho → Prop) (Q : AV → Md → Prop) (X : Rho → Str → Prop) (h : ∀ ρ, X ρ c) : wpSs t ms_checked (rho0 5 [v]) N (fun _ => False) Q X := by
  have tt : top = 16777216 := rfl
  cases bad with
  | @size m vs hz =>
    refine s_cons <| s_asg <| w_sub <| w_var rfl <| w_cst <| nd (sub_tup _ 0 _ rfl) ⟨nofun, ?_⟩
    refine s_cons <| s_asg <| w_sub <| w_var rfl <| w_cst <| nd (sub_tup _ 1 _ rfl) ⟨nofun, ?_⟩
    refine s_cons <| s_ite <| t_bop <| t_cons <| t_cmp <| w_var rfl <| w_cst <| nd (lt_int ..) ?_
    by_cases q : m < 0
    · exact i_neg (by rw [decide_eq_true q]; decide) <| i_pos rfl <| s_cons <| s_rai b.loops (h _)
    · refine i_pos (decide_eq_false q) <| t_cons <| t_cmp <| w_var rfl <| w_gv h1 <| nd (gt_int ..) ?_
      by_cases q1 : 60 < m
      · exact i_neg (by rw [decide_eq_true q1]; decide) <| i_pos rfl <| s_cons <| s_rai b.loops (h _)
      · exact i_pos (decide_eq_false q1) <| t_cons <| t_cmp <| w_bi <| w_cons <| w_var rfl <| w_nil <| (b.len ..).mpr <| w_gv h2 <| nd (gt_int ..) <| i_neg (by rw [decide_eq_true (by (first | lia | omega))]; decide) <| i_pos rfl <| s_cons <| s_rai b.loops (h _)
  | @gate many way pre k ss d post _ hm hl ok bad hf =>
    have ll : (pre.map gAV ++ rAV k ss d :: post).length = pre.length + 1 + post.length := by rw [List.length_append, List.length_map, List.length_cons]; (first | lia | omega)
    have had : binop .Add (.int (many : Int)) (.int ((pre.map gAV ++ rAV k ss d :: post).length : Int)) = some (.int ((many + (pre.length + 1 + post.length) : Nat) : Int)) := by rw [ll]; rfl
    refine s_cons <| s_asg <| w_sub <| w_var rfl <| w_cst <| nd (sub_tup _ 0 _ rfl) ⟨nofun, ?_⟩
    refine s_cons <| s_asg <| w_sub <| w_var rfl <| w_cst <| nd (sub_tup _ 1 _ rfl) ⟨nofun, ?_⟩
    refine s_cons <| s_ite <| t_bop <| t_cons <| t_cmp <| w_var rfl <| w_cst <| nd (lt_int ..) <| i_pos (decide_eq_false (by (first | lia | omega))) <| t_cons <| t_cmp <| w_var rfl <| w_gv h1 <| nd (gt_int ..) <| i_pos (decide_eq_false (by (first | lia | omega))) <|
      t_cons <| t_cmp <| w_bi <| w_cons <| w_var rfl <| w_nil <| (b.len ..).mpr <| w_gv h2 <| nd (gt_int ..) <| i_pos (decide_eq_false (by rw [ll]; (first | lia | omega))) <| t_nil <| i_neg (by decide) <| s_nil ?_
    refine s_cons <| s_asg <| w_bin <| w_var rfl <| w_bi <| w_cons <| w_var rfl <| w_nil <| (b.len ..).mpr <| nd had ⟨nofun, ?_⟩
    exact s_cons <| s_for b.loops <| w_var rfl ⟨nofun, nd (r := pre.map gAV ++ rAV k ss d :: post) rfl ⟨by rw [ll]; (first | lia | omega), gates_bad _ _ _ _ _ _ _ _ _ _ h _ _ (fun g Q X => hc g _ Q X) (fun Q X hx => hb _ way k ss d c Q X bad hf hx) pre _ ok⟩⟩
end
end LP
end Mine

namespace Mine
open PySem
namespace LP
section
variable {t : Th}
noncomputable def CWhole (t : Th) : Prop := ∀ (i : Int) (Q : AV → Md → Prop) (X : Str → Prop), Q (.bool true) .fr → t.call (B "_law_whole") [.int i] Q X
noncomputable def bodySp : List MS := [(.asg 3 (.sub (.sub (.var 0) (.cst (.int 1))) (.var 2))), (.ite (.bop false [(.not (.isi (.var 3) (B "tuple"))), (.cmp .NotEq (.bi (B "len") [(.var 3)]) (.cst (.int 3))), (.not (.isi (.sub (.var 3) (.cst (.int 1))) (B "tuple"))), (.cmp .NotEq (.var 3) (.sub (.sub (.var 1) (.cst (.int 1))) (.var 2)))]) [(.ret (.cst (.bool false)))] []), (.ite (.bop false [(.not (.isi (.sub (.var 3) (.cst (.int 0))) (B "str"))), (.not (.call (B "_law_whole") [(.sub (.var 3) (.cst (.int 2)))])), (.not (.lbi (B "all") [(.comp (.call (B "_law_whole") [(.var 4)]) (.sub (.var 3) (.cst (.int 1))) none)]))]) [(.ret (.cst (.bool false)))] [])]
noncomputable def ms_same : List MS :=
  [(.ite (.bop false [(.not (.isi (.var 0) (B "tuple"))), (.cmp .NotEq (.bi (B "len") [(.var 0)]) (.cst (.int 2))), (.not (.call (B "_law_whole") [(.sub (.var 0) (.cst (.int 0)))])), (.cmp .NotEq (.sub (.var 0) (.cst (.int 0))) (.sub (.var 1) (.cst (.int 0))))]) [(.ret (.cst (.bool false)))] []),
   (.ite (.bop false [(.not (.isi (.sub (.var 0) (.cst (.int 1))) (B "list"))), (.cmp .NotEq (.bi (B "len") [(.sub (.var 0) (.cst (.int 1)))]) (.bi (B "len") [(.sub (.var 1) (.cst (.int 1)))]))]) [(.ret (.cst (.bool false)))] []),
   (.for 2 (.bi (B "range") [(.bi (B "len") [(.sub (.var 1) (.cst (.int 1)))])]) bodySp),
   (.ret (.cst (.bool true)))]
theorem ne_gate (g : Gte) : cmpop .NotEq (gAV g) (gAV g) = some false := by
  have d : dat 8 (gAV g) = true := by
    show (true && (dats 6 (nAV g.src) && (true && true))) = true
    rw [dats_nAV]; rfl
  have e : eqq (gAV g) (gAV g) = true := by
    show ((B (kindS.getD g.kind "") == B (kindS.getD g.kind "")) && (eqqs (nAV g.src) (nAV g.src) && (((g.dly : Int) == (g.dly : Int)) && true))) = true
    rw [eqqs_nAV, beq_self_eq_true, beq_self_eq_true]; rfl
  show (if (dat 8 (gAV g) && dat 8 (gAV g)) = true then some (eqq (gAV g) (gAV g)) else none).map (!·) = _
  rw [d, e]; rfl
theorem same_loop (b : Bas t) (hlb : ∀ vs, t.lbis (B "all") vs = allB vs) (hw : CWhole t) (many : Nat) (gs : List Gte) (hs : ∀ g ∈ gs, g.src.length ≤ 9) (m : Sm) (N K : Rho → Prop) (R : AV → Md → Prop) (X : Rho → Str → Prop) (h : ∀ v v', N [some (pAV many gs, .sh), some (pAV many gs, .sh), v, v']) : ∀ (ks : List Nat) (v v' : Slot), (∀ k ∈ ks, k < gs.length) → loopF 2 m (fun ρ' kk => wpSs t bodySp ρ' kk K R X) (nAV ks) [some (pAV many gs, .sh), some (pAV many gs, .sh), v, v'] N
  | [], v, v', _ => h v v'
  | k :: ks, v, v', hk => by
    have hkl := hk k (.head _)
    have e := get_gate gs k hkl
    have k9 := hs _ (getD_mem gs k hkl)
    generalize gs.getD k ⟨0, [], 1⟩ = g at *
    have l3 : t.bis (B "len") [(gAV g, .sh)] = some (.int 3, .fr) := by rw [b.bln]; rfl
    refine s_Asg <| w_sub <| w_t1 rfl <| w_var rfl <| nd e ⟨nofun, ?_⟩
    refine s_Ite <| t_bop <| t_cons <| t_not <| t_isi <| w_var rfl <| nd (r := true) rfl <| i_pos rfl <| t_cons <| t_cmp <| w_bi <| w_vn rfl <| nd l3 <| w_cst <| nd (ne_int ..) <| i_pos rfl <| t_cons <| t_not <| t_isi <| w_t1 rfl <| nd (r := true) rfl <| i_pos rfl <| t_cons <| t_cmp <| w_var rfl <| w_sub <| w_t1 rfl <| w_var rfl <| nd e <| nd (ne_gate g) <| i_pos rfl <| t_nil <| i_neg (by decide) <| s_nil ?_
    refine s_Ite <| t_bop <| t_cons <| t_not <| t_isi <| w_t0 rfl <| nd (r := true) rfl <| i_pos rfl <| t_cons <| t_not <| t_call <| w_cons <| w_t2 rfl <| w_nil <| hw _ _ _ <| nd (r := true) rfl <| i_pos rfl <| t_cons <| t_not <| t_lbi b.loops <| w_cons <| w_comp b.loops <| w_t1 rfl <| nd (r := nAV g.src) rfl ⟨nAV_top (le_of9 k9), ?_⟩
    refine compL_map (fun _ => .bool true) .fr nofun _ (fun x hx k hk => ?_) (fun x _ k hk => hk) (fun x _ => rfl) [] true _ ?_
    · obtain ⟨s, _, rfl⟩ := List.mem_map.mp hx
      exact w_1v rfl <| hw _ _ _ hk
    have e' : (nAV g.src).map (fun _ => AV.bool true) = (g.src.map fun _ => true).map .bool := by unfold nAV; rw [List.map_map, List.map_map]; rfl
    have al : ((g.src.map fun _ => true).all id) = true := by rw [List.all_map]; exact List.all_eq_true.mpr fun _ _ => rfl
    rw [List.nil_append, e']
    refine w_nil ?_
    rw [hlb]
    exact nd (all_bools _ _) <| nd (r := true) (congrArg some al) <| i_pos rfl <| t_nil <| i_neg (by decide) <| s_nil <| s_nil <| same_loop b hlb hw many gs hs m N K R X h ks _ _ fun z q => hk z (.tail _ q)
theorem same_wp (b : Bas t) (hlb : ∀ vs, t.lbis (B "all") vs = allB vs) (hw : CWhole t) (many : Nat) (gs : List Gte) (hl : gs.length ≤ 1000) (hs : ∀ g ∈ gs, g.src.length ≤ 9) (N : Rho → Prop) (Q : AV → Md → Prop) (X : Rho → Str → Prop) (h : Q (.bool true) .fr) : wpSs t ms_same (rho0 4 [pAV many gs, pAV many gs]) N (fun _ => False) Q X := by
  have ll : (gs.map gAV).length = gs.length := List.length_map ..
  have l2 : t.bis (B "len") [(pAV many gs, .sh)] = some (.int 2, .fr) := by rw [b.bln]; rfl
  refine s_Ite <| t_bop <| t_cons <| t_not <| t_isi <| w_var rfl <| nd (r := true) rfl <| i_pos rfl <| t_cons <| t_cmp <| w_bi <| w_vn rfl <| nd l2 <| w_cst <| nd (ne_int ..) <| i_pos rfl <| t_cons <| t_not <| t_call <| w_cons <| w_t0 rfl <| w_nil <| hw _ _ _ <| nd (r := true) rfl <| i_pos rfl <| t_cons <| t_cmp <| w_t0 rfl <| w_t0 rfl <| nd (ne_int ..) <| i_pos (by rw [beq_self_eq_true]; rfl) <| t_nil <| i_neg (by decide) <| s_nil ?_
  refine s_Ite <| t_bop <| t_cons <| t_not <| t_isi <| w_t1 rfl <| nd (r := true) rfl <| i_pos rfl <| t_cons <| t_cmp <| w_len1 b.toBas0 rfl <| w_len1 b.toBas0 rfl <| nd (ne_int ..) <| i_pos (by rw [beq_self_eq_true]; rfl) <| t_nil <| i_neg (by decide) <| s_nil ?_
  refine s_For b.loops <| w_bi <| w_cons <| w_len1 b.toBas0 rfl <| w_nil ?_
  rw [ll]
  exact (b.range _ _ _ (small62 (by (first | lia | omega)))).mpr ⟨nofun, nd (rng_items0 _) ⟨rng_top (by (first | lia | omega)), same_loop b hlb hw many gs hs _ _ _ _ _ (fun v v' => s_Ret <| w_cst ⟨nofun, rfl, h⟩) _ none none fun k hk => List.mem_range.mp hk⟩⟩
end
end LP
end Mine

namespace Mine
open PySem
namespace LP
theorem txt_inj {a b : List Nat} (h : txt a = txt b) : a = b := congrArg sgs h
theorem txt_beq (a b : List Nat) : (txt a == txt b) = (a == b) := by
  by_cases q : a = b
  · rw [q, beq_self_eq_true, beq_self_eq_true]
  · rw [beq_eq_false_iff_ne.mpr q, beq_eq_false_iff_ne.mpr fun z => q (txt_inj z)]
theorem txt_app (a b : List Nat) : txt a ++ txt b = txt (a ++ b) := by
  show (⟨a.toArray ++ b.toArray⟩ : Str) = ⟨(a ++ b).toArray⟩
  rw [List.append_toArray]
section
variable {c : Nat}
theorem cut_ne : ∀ l : List Nat, ∃ p ps, cutC c l = p :: ps
  | [] => ⟨[], [], rfl⟩
  | x :: r => by
    obtain ⟨p, ps, e⟩ := cut_ne r
    rw [cut_cons, e]
    by_cases q : x = c
    · rw [if_pos q]; exact ⟨_, _, rfl⟩
    · rw [if_neg q]; exact ⟨_, _, rfl⟩
theorem cut_not : ∀ (l p : List Nat), p ∈ cutC c l → c ∉ p
  | [], p, h => by cases List.mem_singleton.mp h; nofun
  | x :: r, p, h => by
    obtain ⟨q, qs, e⟩ := cut_ne (c := c) r
    have ih := cut_not r
    rw [cut_cons, e] at h
    rw [e] at ih
    by_cases z : x = c
    · rw [if_pos z] at h
      rcases List.mem_cons.mp h with rfl | h
      · nofun
      · exact ih p h
    · rw [if_neg z] at h
      rcases List.mem_cons.mp h with rfl | h
      · exact fun w => (List.mem_cons.mp w).elim (fun e => z e.symm) (ih q (.head _))
      · exact ih p (.tail _ h)
theorem cutC_len : ∀ (l : List Nat), (∀ p ∈ cutC c l, p.length ≤ l.length) ∧ (cutC c l).length ≤ l.length + 1
  | [] => ⟨fun p h => by cases List.mem_singleton.mp h; exact Nat.le_refl _, Nat.le_refl _⟩
  | x :: r => by
    obtain ⟨q, qs, e⟩ := cut_ne (c := c) r
    obtain ⟨i1, i2⟩ := cutC_len r
    rw [cut_cons, e]
    rw [e] at i1 i2
    by_cases z : x = c
    · rw [if_pos z]
      exact ⟨fun p h => (List.mem_cons.mp h).elim (fun w => by rw [w]; exact Nat.zero_le _) fun w => Nat.le_succ_of_le (i1 p w), Nat.succ_le_succ i2⟩
    · rw [if_neg z]
      exact ⟨fun p h => (List.mem_cons.mp h).elim (fun w => by rw [w]; exact Nat.succ_le_succ (i1 q (.head _))) fun w => Nat.le_succ_of_le (i1 p (.tail _ w)), Nat.le_succ_of_le i2⟩
theorem glue_cut : ∀ (l : List Nat), glue [c] (cutC c l) = l
  | [] => rfl
  | x :: r => by
    obtain ⟨q, qs, e⟩ := cut_ne (c := c) r
    have ih := glue_cut r
    rw [cut_cons]
    rw [e] at ih ⊢
    by_cases z : x = c
    · rw [if_pos z, glue_cons, ih, z]; rfl
    · rw [if_neg z]
      show glue [c] ((x :: q) :: qs) = x :: r
      cases qs with
      | nil => rw [← ih]; rfl
      | cons a b => rw [glue_cons, ← ih, glue_cons]; rfl
end
noncomputable def numL (n : Nat) : List Nat := (Nat.toDigits 10 n).map Char.toNat
theorem numT_L (n : Nat) : numT (n : Int) = txt (numL n) := by
  unfold numT numL txt
  rw [Str.ofString_eq_toList]
  show (⟨((Nat.repr n).toList.map Char.toNat).toArray⟩ : Str) = _
  rw [Nat.toList_repr]
theorem digC : ∀ d, d < 10 → (Nat.digitChar d).toNat = 48 + d := by decide
theorem numL_lt {n : Nat} (h : n < 10) : numL n = [48 + n] := by
  unfold numL
  rw [Nat.toDigits_of_lt_base h, List.map_singleton, digC n h]
theorem numL_ge {n : Nat} (h : 10 ≤ n) : numL n = numL (n / 10) ++ [48 + n % 10] := by
  unfold numL
  rw [Nat.toDigits_of_base_le (by decide) h, List.map_append, List.map_singleton, digC _ (Nat.mod_lt _ (by decide))]
noncomputable def isF (c : Nat) : Bool := decide (48 ≤ c ∧ c ≤ 57)
theorem numL_all (n : Nat) : numL n ≠ [] ∧ (∀ c ∈ numL n, 48 ≤ c ∧ c ≤ 57) ∧ (0 < n → (numL n).head? ≠ some 48) ∧ valC (numL n) = n ∧ ∀ k, n < 10 ^ (k + 1) → (numL n).length ≤ k + 1 := by
  induction n using Nat.strongRecOn with
  | _ n ih =>
    rcases Nat.lt_or_ge n 10 with h | h
    · rw [numL_lt h]
      refine ⟨nofun, fun c hc => by cases List.mem_singleton.mp hc; (first | lia | omega), fun p e => ?_, ?_, fun k _ => Nat.succ_le_succ (Nat.zero_le k)⟩
      · have e : some (48 + n) = some 48 := e
        have := Option.some.inj e
        (first | lia | omega)
      · show 0 * 10 + (48 + n - 48) = n
        (first | lia | omega)
    · obtain ⟨a, b, c, d, e⟩ := ih (n / 10) (Nat.div_lt_self (by (first | lia | omega)) (by decide))
      have m10 := Nat.mod_lt n (show 0 < 10 by decide)
      rw [numL_ge h]
      refine ⟨fun z => a (List.append_eq_nil_iff.mp z).1, fun x hx => ?_, fun _ z => ?_, ?_, fun k hk => ?_⟩
      · rcases List.mem_append.mp hx with z | z
        · exact b x z
        · cases List.mem_singleton.mp z; (first | lia | omega)
      · refine c (Nat.div_pos h (by decide)) ?_
        cases q : numL (n / 10) with
        | nil => exact absurd q a
        | cons y r => rw [q] at z; exact z
      · unfold valC at d ⊢
        rw [List.foldl_append, d]
        show n / 10 * 10 + (48 + n % 10 - 48) = n
        (first | lia | omega)
      · rw [List.length_append, List.length_singleton]
        cases k with
        | zero => exact absurd hk (by (first | lia | omega))
        | succ k =>
          refine Nat.succ_le_succ (e k ?_)
          rw [Nat.pow_succ] at hk
          exact Nat.div_lt_of_lt_mul (by rw [Nat.mul_comm]; exact hk)
noncomputable def numO (w : List Nat) : Option Nat := if (w.isEmpty || decide (9 < w.length) || (w.head? == some 48 && w != [48]) || !w.all isF) = true then none else some (valC w)
theorem num_ok {n : Nat} (h : n < 1000000000) : numO (numL n) = some n := by
  obtain ⟨a, b, c, d, e⟩ := numL_all n
  have hl : (numL n).length ≤ 9 := e 8 h
  have e1 : (numL n).isEmpty = false := by cases q : numL n with | nil => exact absurd q a | cons _ _ => rfl
  have e2 : ((numL n).head? == some 48 && numL n != [48]) = false := by
    rcases Nat.eq_zero_or_pos n with z | z
    · subst z; rfl
    · rw [beq_eq_false_iff_ne.mpr (c z)]; rfl
  have e3 : (numL n).all isF = true := List.all_eq_true.mpr fun x hx => decide_eq_true (b x hx)
  unfold numO
  rw [e1, e2, e3, decide_eq_false (Nat.not_lt.mpr hl), d]; rfl
noncomputable def mapN {α β : Type} (f : α → Option β) : List α → Option (List β)
  | [] => some []
  | x :: r => (f x).bind fun y => (mapN f r).map (y :: ·)
theorem mapN_len {α β : Type} {f : α → Option β} : ∀ {l : List α} {r : List β}, mapN f l = some r → r.length = l.length
  | [], r, h => by cases h; rfl
  | x :: l, r, h => by
    obtain ⟨y, _, h1⟩ := Option.bind_eq_some_iff.mp h
    obtain ⟨ys, h2, rfl⟩ := Option.map_eq_some_iff.mp h1
    rw [List.length_cons, List.length_cons, mapN_len h2]
theorem mapN_map {α β γ : Type} {f : α → Option β} {g : γ → α} {h : γ → β} : ∀ (l : List γ), (∀ x ∈ l, f (g x) = some (h x)) → mapN f (l.map g) = some (l.map h)
  | [], _ => rfl
  | x :: l, e => by
    show (f (g x)).bind _ = _
    rw [e x (.head _), List.map_cons]
    show (mapN f (l.map g)).map _ = _
    rw [mapN_map l fun y hy => e y (.tail _ hy)]; rfl
theorem mapN_app {α β : Type} {f : α → Option β} : ∀ (a b : List α), mapN f (a ++ b) = (mapN f a).bind fun x => (mapN f b).map (x ++ ·)
  | [], b => by
    show mapN f b = (mapN f b).map ([] ++ ·)
    cases mapN f b <;> rfl
  | x :: a, b => by
    show (f x).bind (fun y => (mapN f (a ++ b)).map (y :: ·)) = ((f x).bind fun y => (mapN f a).map (y :: ·)).bind _
    rw [mapN_app a b]
    cases f x with
    | none => rfl
    | some y =>
      cases mapN f a with
      | none => rfl
      | some ys => cases mapN f b <;> rfl
theorem mapN_none {α β : Type} {f : α → Option β} {x : α} (h : f x = none) : ∀ (l : List α), x ∈ l → mapN f l = none
  | y :: l, hm => by
    show (f y).bind _ = _
    rcases List.mem_cons.mp hm with rfl | hm
    · rw [h]; rfl
    · rw [mapN_none h l hm]
      cases f y <;> rfl
noncomputable def lets : List Nat := List.range' 97 26
noncomputable def isL (c : Nat) : Bool := lets.contains c
noncomputable def byL : List Nat := [98, 121]
noncomputable abbrev Raw := List Nat × List Nat × Nat
noncomputable def wordsO (ws : List (List Nat)) : Option Raw :=
  if (decide (ws.length < 3) || (ws.headD []).isEmpty || ws.getD (ws.length - 2) [] != byL || !(ws.headD []).all isL) = true then none
  else (mapN numO ((ws.drop 1).take (ws.length - 2 - 1))).bind fun ss => (numO (ws.getD (ws.length - 1) [])).map fun d => (ws.headD [], ss, d)
noncomputable def gateO (row : List Nat) : Option Raw := wordsO (cutC 32 row)
noncomputable def inL : List Nat := [105, 110]
noncomputable def headW : List (List Nat) → Option Nat
  | [a, b] => if a = inL then numO b else none
  | _ => none
theorem headW_no {hw : List (List Nat)} (h : hw.length ≠ 2) : headW hw = none := by
  match hw with
  | [] => rfl
  | [_] => rfl
  | [_, _] => exact absurd rfl h
  | _ :: _ :: _ :: _ => rfl
noncomputable def headO (h : List Nat) : Option Nat := headW (cutC 32 h)
noncomputable def rowsO (rows : List (List Nat)) : Option (Nat × List Raw) := (headO (rows.headD [])).bind fun m => (mapN gateO rows.tail).map fun gs => (m, gs)
noncomputable def textO (t : List Nat) : Option (Nat × List Raw) := rowsO (cutC 10 t)
noncomputable def rowL (k ss : List Nat) (d : Nat) : List Nat := glue [32] (k :: ss.map numL ++ [byL, numL d])
theorem numL_no {n c : Nat} (h : c < 48) : c ∉ numL n := fun z => absurd ((numL_all n).2.1 c z).1 (Nat.not_le.mpr h)
theorem words_ok {k ss : List Nat} {d : Nat} (hk : k ≠ []) (hl : k.all isL = true) (hs : ∀ s ∈ ss, s < 1000000000) (hd : d < 1000000000) : wordsO (k :: ss.map numL ++ [byL, numL d]) = some (k, ss, d) := by
  have ln : (k :: ss.map numL ++ [byL, numL d]).length = ss.length + 3 := by rw [List.length_append, List.length_cons, List.length_map]; rfl
  have l1 : (k :: ss.map numL).length = ss.length + 1 := by rw [List.length_cons, List.length_map]
  have e1 : (k :: ss.map numL ++ [byL, numL d]).getD (ss.length + 3 - 2) [] = byL := by
    rw [List.getD_eq_getElem?_getD, List.getElem?_append_right (by rw [l1]; (first | lia | omega)), l1, show ss.length + 3 - 2 - (ss.length + 1) = 0 by (first | lia | omega)]; rfl
  have e2 : (k :: ss.map numL ++ [byL, numL d]).getD (ss.length + 3 - 1) [] = numL d := by
    rw [List.getD_eq_getElem?_getD, List.getElem?_append_right (by rw [l1]; (first | lia | omega)), l1, show ss.length + 3 - 1 - (ss.length + 1) = 1 by (first | lia | omega)]; rfl
  have e3 : ((k :: ss.map numL ++ [byL, numL d]).drop 1).take (ss.length + 3 - 2 - 1) = ss.map numL := by
    show (ss.map numL ++ [byL, numL d]).take _ = _
    rw [List.take_left' (by rw [List.length_map]; (first | lia | omega))]
  have e4 : (k :: ss.map numL ++ [byL, numL d]).headD [] = k := rfl
  have e5 : k.isEmpty = false := by cases k with | nil => exact absurd rfl hk | cons _ _ => rfl
  have e6 := mapN_map (f := numO) (g := numL) (h := fun s => s) ss fun s hz => num_ok (hs s hz)
  rw [List.map_id'] at e6
  unfold wordsO
  rw [ln, e1, e2, e3, e4, e5, hl, e6, num_ok hd, decide_eq_false (by (first | lia | omega)), bne_self_eq_false]; rfl
theorem row_ok {k ss : List Nat} {d : Nat} (hk : k ≠ []) (hl : k.all isL = true) (hs : ∀ s ∈ ss, s < 1000000000) (hd : d < 1000000000) : gateO (rowL k ss d) = some (k, ss, d) := by
  unfold gateO rowL
  rw [cut_glue (c := 32) (k :: ss.map numL ++ [byL, numL d]) (fun z => nomatch z) fun p hp => ?_]
  · exact words_ok hk hl hs hd
  · rcases List.mem_cons.mp hp with rfl | hp
    · exact fun z => absurd (List.all_eq_true.mp hl 32 z) (by decide)
    · rcases List.mem_append.mp hp with hp | hp
      · obtain ⟨s, _, rfl⟩ := List.mem_map.mp hp
        exact numL_no (by decide)
      · rcases List.mem_cons.mp hp with rfl | hp
        · decide
        · cases List.mem_singleton.mp hp; exact numL_no (by decide)
end LP
end Mine

namespace Mine
open PySem
namespace LP
noncomputable abbrev tV (l : List Nat) : AV := .str (txt l)
theorem eq_txt (a b : List Nat) : cmpop .Eq (tV a) (tV b) = some (a == b) := congrArg some (txt_beq a b)
theorem ne_txt (a b : List Nat) : cmpop .NotEq (tV a) (tV b) = some (!(a == b)) := by
  show some (!(txt a == txt b)) = _
  rw [txt_beq]
theorem lits : B "" = txt [] ∧ B "0" = txt [48] ∧ B " " = txt [32] ∧ B "\n" = txt [10] ∧ B "by" = txt byL ∧ B "in" = txt inL ∧ B "in " = txt [105, 110, 32] ∧ B " by " = txt [32, 98, 121, 32] ∧ sgs (B "0123456789") = List.range' 48 10 ∧ sgs (B "abcdefghijklmnopqrstuvwxyz") = lets := by decide +kernel
theorem fig_in (c : Nat) : (List.range' 48 10).contains c = isF c := by
  unfold isF
  rw [Bool.eq_iff_iff, List.contains_iff_mem, List.mem_range'_1, decide_eq_true_iff]
  (first | lia | omega)
theorem inS_fig (c : Nat) : inV (tV [c]) (.str (B "0123456789")) = some (isF c) := by
  show some ((sgs (B "0123456789")).contains c) = _
  rw [lits.2.2.2.2.2.2.2.2.1, fig_in]
theorem inS_let (c : Nat) : inV (tV [c]) (.str (B "abcdefghijklmnopqrstuvwxyz")) = some (isL c) := by
  show some ((sgs (B "abcdefghijklmnopqrstuvwxyz")).contains c) = _
  rw [lits.2.2.2.2.2.2.2.2.2]; rfl
theorem notin {x b : AV} {r : Bool} (h : inV x b = some r) : cmpop .NotIn x b = some (!r) := by
  show (inV x b).map (!·) = _
  rw [h]; rfl
noncomputable abbrev tVs (l : List (List Nat)) : List AV := l.map tV
noncomputable def chV (w : List Nat) : List AV := w.map fun c => tV [c]
theorem split_V (c : Nat) (l : List Nat) (h : l.length + 2 ≤ top) : mtV 0 (tV l) (tV [c]) = some (.lst (tVs (cutC c l)), .ow) := if_pos h
theorem head_V (l : List Nat) (h : l ≠ []) : subs (tV l) (.int 0) = some (tV [l.headD 0]) := by
  cases l with
  | nil => exact absurd rfl h
  | cons x r =>
    show (seqIdx 0 (r.length + 1)).bind (fun j => (x :: r).toArray[j]?.map fun c => AV.str ⟨#[c]⟩) = _
    unfold seqIdx
    rw [if_pos ⟨by decide, by (first | lia | omega)⟩]; rfl
section
variable {t : Th}
theorem signs_loop (hl : t.loops = true) (i : Nat) (g : ME) (p : Nat → Bool) (ρ : Rho) (m : Sm) (N K : Rho → Prop) (R : AV → Md → Prop) (X : Rho → Str → Prop)
    (hg : ∀ c (Q : Bool → Prop) (Y : Str → Prop), Q (!p c) → wpT t (.cmp .NotIn (.var i) g) (ρ.set i (some (tV [c], m))) Q Y) : ∀ (w : List Nat) (s : Slot), (w.all p = true → ∀ s', N (ρ.set i s')) → (w.all p = false → ∀ ρ, X ρ (B "NoText")) →
    loopF i m (fun ρ' k => wpSs t [(.ite (.cmp .NotIn (.var i) g) [(.rai (B "NoText"))] [])] ρ' k K R X) (chV w) (ρ.set i s) N
  | [], s, h, _ => h rfl s
  | c :: w, s, h, hX => by
    show wpSs t _ ((ρ.set i s).set i (some (tV [c], m))) _ _ _ _
    rw [List.set_set]
    refine s_Ite <| hg c _ _ ?_
    rw [List.all_cons] at h hX
    cases q : p c with
    | false =>
      rw [q] at hX
      exact i_pos rfl <| s_cons <| s_rai hl (hX rfl _)
    | true =>
      rw [q] at h hX
      exact i_neg (by decide) <| s_nil <| s_nil <| signs_loop hl i g p ρ m N K R X hg w _ h hX
theorem compL_opt {α β : Type} {el : AV → (AV → Md → Prop) → Prop} {co : AV → (Bool → Prop) → Prop} (f : α → Option β) (a : α → AV) (o : β → AV) (m : Md) (hm : m ≠ .bo) {N : Prop} (ho : ∀ y, okF m (o y) = true) : ∀ (xs : List α),
    (∀ x ∈ xs, ∀ k : AV → Md → Prop, (∀ y, f x = some y → k (o y) m) → (f x = none → N) → el (a x) k) → (∀ x ∈ xs, ∀ k : Bool → Prop, k true → co (a x) k) →
    ∀ (acc : List AV) (g : Bool) (K : List AV → Bool → Prop), (∀ ys, mapN f xs = some ys → K (acc ++ ys.map o) g) → (mapN f xs = none → N) → compL el co (xs.map a) acc g K
  | [], _, _, acc, g, K, h, _ => by
    have := h [] rfl
    rw [List.map_nil, List.append_nil] at this
    rw [List.map_nil, compL_nil]; exact this
  | x :: xs, h1, h2, acc, g, K, h, hN => by
    rw [List.map_cons, compL_cons]
    refine h2 x (.head _) _ ?_
    rw [if_pos rfl]
    refine h1 x (.head _) _ (fun y ey => ⟨hm, ?_⟩) fun ex => hN (by show (f x).bind _ = _; rw [ex]; rfl)
    rw [ho y, Bool.and_true]
    refine compL_opt f a o m hm ho xs (fun z hz => h1 z (.tail _ hz)) (fun z hz => h2 z (.tail _ hz)) _ g K (fun ys e => ?_) fun e => hN (by show (f x).bind _ = _; rw [ey]; show (mapN f xs).map _ = _; rw [e]; rfl)
    have := h (y :: ys) (by show (f x).bind _ = _; rw [ey]; show (mapN f xs).map _ = _; rw [e]; rfl)
    rw [List.map_cons] at this
    rw [List.append_assoc]
    exact this

noncomputable def ms_number_of : List MS :=
  [(.ite (.bop false [(.cmp .Eq (.var 0) (.cst (.str (B "")))), (.cmp .Gt (.bi (B "len") [(.var 0)]) (.gv (B "MOST_FIGURES"))), (.bop true [(.cmp .Eq (.sub (.var 0) (.cst (.int 0))) (.cst (.str (B "0")))), (.cmp .NotEq (.var 0) (.cst (.str (B "0"))))])]) [(.rai (B "NoText"))] []),
   (.for 1 (.var 0) [(.ite (.cmp .NotIn (.var 1) (.gv (B "FIGURES"))) [(.rai (B "NoText"))] [])]),
   (.ret (.bi (B "int") [(.var 0)]))]
theorem int_V (w : List Nat) (m : Md) (h0 : w ≠ []) (h1 : w.length ≤ 9) (h : w.all isF = true) : intB [(tV w, m)] = some (.int (valC w), .fr) := if_pos ⟨List.length_pos_iff.mpr h0, h1, h⟩
theorem lenT (b : Bas0 t) (w : List Nat) (m : Md) : t.bis (B "len") [(tV w, m)] = some (.int (w.length : Int), .fr) := by rw [b.bln]; rfl
theorem number_wp (b : Bas t) (hi : ∀ vs, t.bis (B "int") vs = intB vs) (d1 : t.data (B "MOST_FIGURES") = some (.int 9)) (d2 : t.data (B "FIGURES") = some (.str (B "0123456789"))) (w : List Nat) (N : Rho → Prop) (Q : AV → Md → Prop) (X : Rho → Str → Prop)
    (h1 : ∀ n, numO w = some n → Q (.int (n : Int)) .fr) (h2 : numO w = none → ∀ ρ, X ρ (B "NoText")) : wpSs t ms_number_of (rho0 2 [tV w]) N (fun _ => False) Q X := by
  obtain ⟨l0, l1, _⟩ := lits
  unfold ms_number_of
  rw [l0, l1]
  refine s_Ite <| t_bop <| t_cons <| t_cvc rfl <| nd (eq_txt ..) ?_
  unfold numO at h1 h2
  cases q0 : w == [] with
  | true =>
    have e : w = [] := eq_of_beq q0
    subst e
    exact i_neg (by decide) <| i_pos rfl <| s_cons <| s_rai b.loops (h2 rfl _)
  | false =>
    have ne : w ≠ [] := fun z => by rw [z] at q0; cases q0
    have em : w.isEmpty = false := by cases w with | nil => exact absurd rfl ne | cons _ _ => rfl
    rw [em] at h1 h2
    refine i_pos rfl <| t_cons <| t_cmp <| w_bi <| w_vn rfl <| nd (lenT b.toBas0 ..) <| w_gv d1 <| nd (gt_int ..) ?_
    by_cases q1 : 9 < w.length
    · rw [decide_eq_true q1] at h2
      exact i_neg (by rw [decide_eq_true (show (9 : Int) < (w.length : Int) by (first | lia | omega))]; decide) <| i_pos rfl <| s_cons <| s_rai b.loops (h2 rfl _)
    · rw [decide_eq_false q1] at h1 h2
      refine i_pos (decide_eq_false (show ¬ (9 : Int) < (w.length : Int) by (first | lia | omega))) <| t_cons <| t_bop <| t_cons <| t_cmp <| w_svc rfl <| nd (head_V w ne) <| w_cst <| nd (eq_txt ..) ?_
      have go : ((w.head? == some 48 && w != [48]) = false) → wpSs t [(.for 1 (.var 0) [(.ite (.cmp .NotIn (.var 1) (.gv (B "FIGURES"))) [(.rai (B "NoText"))] [])]), (.ret (.bi (B "int") [(.var 0)]))] (rho0 2 [tV w]) N (fun _ => False) Q X := fun z => by
        rw [z] at h1 h2
        refine s_For b.loops <| w_var rfl ⟨nofun, nd (r := chV w) rfl ⟨by unfold chV; rw [List.length_map]; exact Nat.le_trans (Nat.not_lt.mp q1) (by decide), ?_⟩⟩
        refine signs_loop b.loops 1 _ isF [some (tV w, .sh), none] .sh _ _ _ X (fun c H Y hH => t_cmp <| w_var rfl <| w_gv d2 <| nd (notin (inS_fig c)) hH) w none (fun q2 s' => ?_) fun q2 => ?_
        · rw [q2] at h1
          refine s_Ret <| w_bi <| w_vn rfl ?_
          rw [hi]
          exact nd (int_V w _ ne (Nat.not_lt.mp q1) q2) ⟨nofun, rfl, h1 _ rfl⟩
        · rw [q2] at h2
          exact h2 rfl
      have hh : (w.head? == some 48) = ([w.headD 0] == [48]) := by
        cases w with
        | nil => exact absurd rfl ne
        | cons x r =>
          show (some x == some 48) = ([x] == [48])
          by_cases e : x = 48
          · rw [e]; rfl
          · rw [beq_eq_false_iff_ne.mpr fun z => e (Option.some.inj z), beq_eq_false_iff_ne.mpr fun z => e (List.cons.inj z).1]
      rw [← hh]
      cases q3 : w.head? == some 48 with
      | false => exact i_neg (by decide) <| i_pos rfl <| t_nil <| i_neg (by decide) <| s_nil <| go (by rw [q3]; rfl)
      | true =>
        refine i_pos rfl <| t_cons <| t_cvc rfl <| nd (ne_txt ..) ?_
        cases q4 : w == [48] with
        | true => exact i_neg (by decide) <| i_pos rfl <| t_nil <| i_neg (by decide) <| s_nil <| go (by rw [q3]; show (!(w == [48])) = false; rw [q4]; rfl)
        | false =>
          have z : (w.head? == some 48 && w != [48]) = true := by rw [q3]; show (!(w == [48])) = true; rw [q4]; rfl
          rw [z] at h2
          exact i_pos rfl <| t_nil <| i_neg (by decide) <| i_pos rfl <| s_cons <| s_rai b.loops (h2 rfl _)
end
end LP
end Mine

namespace Mine
open PySem
namespace LP
noncomputable def wAV (g : Raw) : AV := .tup [tV g.1, .tup (nAV g.2.1), .int (g.2.2 : Int)]
theorem tVs_get (ws : List (List Nat)) (i : Nat) (h : i < ws.length) : (tVs ws)[i]? = some (tV (ws.getD i [])) := by
  rw [List.getElem?_map, List.getD_eq_getElem?_getD, List.getElem?_eq_getElem h]; rfl
theorem sub_tV (ws : List (List Nat)) (i : Nat) (h : i < ws.length) : subs (.lst (tVs ws)) (.int (i : Int)) = some (tV (ws.getD i [])) := sub_lst _ _ _ (tVs_get ws i h)
theorem sub_tV0 (ws : List (List Nat)) (h : 0 < ws.length) : subs (.lst (tVs ws)) (.int 0) = some (tV (ws.headD [])) := by
  have := sub_tV ws 0 h
  cases ws with
  | nil => exact absurd h (Nat.lt_irrefl _)
  | cons a r => exact this
theorem sub_tVn (ws : List (List Nat)) (i : Nat) (h0 : 0 < i) (h : i ≤ ws.length) : subs (.lst (tVs ws)) (.int (-(i : Int))) = some (tV (ws.getD (ws.length - i) [])) := by
  have ll : (tVs ws).length = ws.length := List.length_map ..
  show (seqIdx (-(i : Int)) (tVs ws).length).bind (fun j => (tVs ws)[j]?) = _
  unfold seqIdx
  rw [ll, if_neg (by (first | lia | omega)), if_pos ⟨by (first | lia | omega), by (first | lia | omega)⟩, show (-(i : Int) + (ws.length : Int)).toNat = ws.length - i by (first | lia | omega)]
  exact tVs_get ws _ (by (first | lia | omega))
theorem cut_tVs (ws : List (List Nat)) (a b : Nat) : cut (tVs ws) a b = tVs ((ws.drop a).take (b - a)) := by
  unfold cut
  show _ = ((ws.drop a).take (b - a)).map tV
  rw [List.map_take, List.map_drop]
theorem slc_mid (ws : List (List Nat)) (h : 3 ≤ ws.length) : slices (.lst (tVs ws)) (.int 1) (.int (-2)) = some (.lst (tVs ((ws.drop 1).take (ws.length - 2 - 1)))) := by
  have ll : (tVs ws).length = ws.length := List.length_map ..
  show some (AV.lst (cut (tVs ws) (min (1 : Int).toNat (tVs ws).length) ((-2 : Int) + ((tVs ws).length : Int)).toNat)) = _
  rw [ll, show min (1 : Int).toNat ws.length = 1 by (first | lia | omega), show ((-2 : Int) + (ws.length : Int)).toNat = ws.length - 2 by (first | lia | omega), cut_tVs]
noncomputable def CNumO (t : Th) : Prop := ∀ (w : List Nat) (Q : AV → Md → Prop) (X : Str → Prop), (∀ n, numO w = some n → Q (.int (n : Int)) .fr) → (numO w = none → X (B "NoText")) → t.call (B "number_of") [tV w] Q X
noncomputable def ms_gate_of : List MS :=
  [(.asg 1 (.mt (.var 0) 0 (.cst (.str (B " "))))),
   (.ite (.bop false [(.cmp .Lt (.bi (B "len") [(.var 1)]) (.cst (.int 3))), (.cmp .Eq (.sub (.var 1) (.cst (.int 0))) (.cst (.str (B "")))), (.cmp .NotEq (.sub (.var 1) (.neg (.cst (.int 2)))) (.cst (.str (B "by"))))]) [(.rai (B "NoText"))] []),
   (.for 2 (.sub (.var 1) (.cst (.int 0))) [(.ite (.cmp .NotIn (.var 2) (.gv (B "LETTERS"))) [(.rai (B "NoText"))] [])]),
   (.asg 3 (.comp (.call (B "number_of") [(.var 4)]) (.slc (.var 1) (.cst (.int 1)) (.neg (.cst (.int 2)))) none)),
   (.ret (.tup [(.sub (.var 1) (.cst (.int 0))), (.bi (B "tuple") [(.var 3)]), (.call (B "number_of") [(.sub (.var 1) (.neg (.cst (.int 1))))])]))]
section
variable {t : Th}
theorem isE_beq (w : List Nat) : w.isEmpty = (w == []) := by cases w <;> rfl
theorem gate_of_wp (b : Bas t) (hn : CNumO t) (d2 : t.data (B "LETTERS") = some (.str (B "abcdefghijklmnopqrstuvwxyz"))) (row : List Nat) (hz : row.length ≤ 1000000) (N : Rho → Prop) (Q : AV → Md → Prop) (X : Rho → Str → Prop)
    (h1 : ∀ g, gateO row = some g → Q (wAV g) .fr) (h2 : gateO row = none → ∀ ρ, X ρ (B "NoText")) : wpSs t ms_gate_of (rho0 4 [tV row]) N (fun _ => False) Q X := by
  obtain ⟨l0, _, l2, _, l4, _⟩ := lits
  have tt : top = 16777216 := rfl
  unfold ms_gate_of
  rw [l0, l2, l4]
  refine s_Asg <| w_mt <| w_var rfl <| w_cst <| nd (split_V 32 row (by (first | lia | omega))) ⟨nofun, ?_⟩
  obtain ⟨c1, c2⟩ := cutC_len (c := 32) row
  unfold gateO wordsO at h1 h2
  have hp : 0 < (cutC 32 row).length := by obtain ⟨p, ps, e⟩ := cut_ne (c := 32) row; rw [e]; exact Nat.succ_pos _
  have hm : (cutC 32 row).headD [] ∈ cutC 32 row := by obtain ⟨p, ps, e⟩ := cut_ne (c := 32) row; rw [e]; exact .head _
  generalize cutC 32 row = ws at *
  have ll : (tVs ws).length = ws.length := List.length_map ..
  have hw0 := c1 _ hm
  refine s_Ite <| t_bop <| t_cons <| t_cmp <| w_len b.toBas0 rfl <| w_cst <| nd (lt_int ..) ?_
  rw [ll]
  by_cases q1 : ws.length < 3
  · rw [decide_eq_true q1] at h2
    exact i_neg (by rw [decide_eq_true (show (ws.length : Int) < 3 by (first | lia | omega))]; decide) <| i_pos rfl <| s_cons <| s_rai b.loops (h2 rfl _)
  rw [decide_eq_false q1] at h1 h2
  rw [isE_beq] at h1 h2
  have eby : (ws.getD (ws.length - 2) [] != byL) = !(ws.getD (ws.length - 2) [] == byL) := rfl
  rw [eby] at h1 h2
  refine i_pos (decide_eq_false (show ¬ (ws.length : Int) < 3 by (first | lia | omega))) <| t_cons <| t_cmp <| w_svc rfl <| nd (sub_tV0 ws hp) <| w_cst <| nd (eq_txt ..) ?_
  cases q2 : ws.headD [] == [] with
  | true =>
    rw [q2] at h2
    exact i_neg (by decide) <| i_pos rfl <| s_cons <| s_rai b.loops (h2 rfl _)
  | false =>
    rw [q2] at h1 h2
    refine i_pos rfl <| t_cons <| t_cmp <| w_sub <| w_var rfl <| w_neg <| w_cst <| nd (sub_tVn ws 2 (by decide) (by (first | lia | omega))) <| w_cst <| nd (ne_txt ..) ?_
    cases q3 : ws.getD (ws.length - 2) [] == byL with
    | false =>
      rw [q3] at h2
      exact i_neg (by decide) <| i_pos rfl <| s_cons <| s_rai b.loops (h2 rfl _)
    | true =>
      rw [q3] at h1 h2
      refine i_pos rfl <| t_nil <| i_neg (by decide) <| s_nil <| s_For b.loops <| w_svc rfl <| nd (sub_tV0 ws hp) ⟨nofun, nd (r := chV (ws.headD [])) rfl ⟨by unfold chV; rw [List.length_map]; (first | lia | omega), ?_⟩⟩
      refine signs_loop b.loops 2 _ isL [some (tV row, .sh), some (.lst (tVs ws), .fr), none, none] .fr _ _ _ X (fun c H Y hH => t_cmp <| w_var rfl <| w_gv d2 <| nd (notin (inS_let c)) hH) (ws.headD []) none (fun q4 s' => ?_) fun q4 => ?_
      · rw [q4] at h1 h2
        have h2 : (mapN numO ((ws.drop 1).take (ws.length - 2 - 1))).bind (fun ss => (numO (ws.getD (ws.length - 1) [])).map fun d => (ws.headD [], ss, d)) = none → ∀ ρ, X ρ (B "NoText") := h2
        have h1 : ∀ g, (mapN numO ((ws.drop 1).take (ws.length - 2 - 1))).bind (fun ss => (numO (ws.getD (ws.length - 1) [])).map fun d => (ws.headD [], ss, d)) = some g → Q (wAV g) .fr := h1
        refine s_Asg <| w_comp b.loops <| w_slc <| w_var rfl <| w_cst <| w_neg <| w_cst <| nd (slc_mid ws (Nat.not_lt.mp q1)) <| nd (r := tVs ((ws.drop 1).take (ws.length - 2 - 1))) rfl ⟨?_, ?_⟩
        · rw [List.length_map, List.length_take, List.length_drop]; (first | lia | omega)
        refine compL_opt numO tV (fun (n : Nat) => .int (n : Int)) .fr nofun (fun _ => rfl) _ (fun w _ k k1 k2 => w_1v rfl <| hn w _ _ k1 k2) (fun x _ k hk => hk) [] true _ (fun ss e => ?_) fun e => h2 (by rw [e]; rfl) _
        rw [e] at h1 h2
        refine ⟨nofun, ?_⟩
        have tu : t.bis (B "tuple") [(.lst (nAV ss), .fr)] = some (.tup (nAV ss), .fr) := by rw [b.btp]; rfl
        refine s_Ret <| w_tup <| w_cons <| w_svc rfl <| nd (sub_tV0 ws hp) <| w_cons <| w_bi <| w_vn rfl <| nd tu <| w_cons <| w_one <| w_sub <| w_var rfl <| w_neg <| w_cst <| nd (sub_tVn ws 1 (by decide) hp) <| hn _ _ _ (fun d ed => w_nil ⟨mem3 nofun nofun nofun, (show 3 ≤ top by decide), nofun, rfl, h1 (ws.headD [], ss, d) (by rw [ed]; rfl)⟩) fun ed => h2 (by rw [ed]; rfl) _
      · rw [q4] at h2
        exact h2 rfl
end
end LP
end Mine

namespace Mine
open PySem
namespace LP
noncomputable def fauO (count : Nat) (g : Raw) : Option Nat := match kidx (txt g.1) with
  | none => some 0
  | some i => if fits i g.2.1.length = false then some 1 else if (g.2.1.any fun s => decide (count ≤ s)) = true then some 2 else if g.2.2 < 1 ∨ 60 < g.2.2 then some 3 else none
noncomputable def dueW : List Str := [B "kind", B "sources", B "line", B "delay"]
noncomputable def dueO (m : Nat) (gs : List Raw) : Option (Str × Str) :=
  if 60 < m ∨ 200 < gs.length then some (B "NoSize", B "size") else (gs.findSome? (fauO (m + gs.length))).map fun w => (faults.getD w (B ""), dueW.getD w (B ""))
noncomputable def qAV (m : Nat) (gs : List Raw) : AV := .tup [.int (m : Int), .lst (gs.map wAV)]
theorem wAV_r (g : Raw) : wAV g = rAV (txt g.1) (g.2.1.map fun (n : Nat) => (n : Int)) (g.2.2 : Int) := by
  unfold wAV rAV nAV
  rw [List.map_map]; rfl
theorem gte_of {count : Nat} {g : Raw} (h : fauO count g = none) : ∃ g' : Gte, wAV g = gAV g' ∧ g'.Ok count 60 := by
  unfold fauO at h
  cases hk : kidx (txt g.1) with
  | none => rw [hk] at h; cases h
  | some i =>
    rw [hk] at h
    obtain ⟨k1, k2⟩ := kidx_some hk
    have h : (if fits i g.2.1.length = false then some 1 else if (g.2.1.any fun s => decide (count ≤ s)) = true then some 2 else if g.2.2 < 1 ∨ 60 < g.2.2 then some 3 else none) = none := h
    by_cases q1 : fits i g.2.1.length = false
    · rw [if_pos q1] at h; cases h
    rw [if_neg q1] at h
    by_cases q2 : (g.2.1.any fun s => decide (count ≤ s)) = true
    · rw [if_pos q2] at h; cases h
    rw [if_neg q2] at h
    by_cases q3 : g.2.2 < 1 ∨ 60 < g.2.2
    · rw [if_pos q3] at h; cases h
    refine ⟨⟨i, g.2.1, g.2.2⟩, by show AV.tup [.str (txt g.1), _, _] = _; rw [k2]; rfl, k1, Bool.not_eq_false _ ▸ q1, fun s hs => ?_, by (first | lia | omega), by show g.2.2 ≤ 60; (first | lia | omega)⟩
    refine Nat.lt_of_not_le fun z => q2 (List.any_eq_true.mpr ⟨s, hs, decide_eq_true z⟩)
theorem gb_of {count w : Nat} {g : Raw} (h : fauO count g = some w) : GB count w (txt g.1) (g.2.1.map fun (n : Nat) => (n : Int)) (g.2.2 : Int) ∧ w < 4 := by
  unfold fauO at h
  have ll : (g.2.1.map fun (n : Nat) => (n : Int)).length = g.2.1.length := List.length_map ..
  cases hk : kidx (txt g.1) with
  | none => rw [hk] at h; cases h; exact ⟨.kind hk, by decide⟩
  | some i =>
    rw [hk] at h
    have h : (if fits i g.2.1.length = false then some 1 else if (g.2.1.any fun s => decide (count ≤ s)) = true then some 2 else if g.2.2 < 1 ∨ 60 < g.2.2 then some 3 else none) = some w := h
    by_cases q1 : fits i g.2.1.length = false
    · rw [if_pos q1] at h; cases h
      exact ⟨.sources hk (by rw [ll]; exact q1), by decide⟩
    rw [if_neg q1] at h
    have q1 : fits i g.2.1.length = true := Bool.not_eq_false _ ▸ q1
    by_cases q2 : (g.2.1.any fun s => decide (count ≤ s)) = true
    · rw [if_pos q2] at h; cases h
      obtain ⟨s, hs, e⟩ := List.any_eq_true.mp q2
      exact ⟨.line hk (by rw [ll]; exact q1) ⟨_, List.mem_map.mpr ⟨s, hs, rfl⟩, .inr (Int.ofNat_le.mpr (of_decide_eq_true e))⟩, by decide⟩
    rw [if_neg q2] at h
    by_cases q3 : g.2.2 < 1 ∨ 60 < g.2.2
    · rw [if_pos q3] at h; cases h
      refine ⟨.delay hk (by rw [ll]; exact q1) (fun s hs => ?_) (by (first | lia | omega)), by decide⟩
      obtain ⟨n, hn, rfl⟩ := List.mem_map.mp hs
      have : n < count := Nat.lt_of_not_le fun z => q2 (List.any_eq_true.mpr ⟨n, hn, decide_eq_true z⟩)
      (first | lia | omega)
    · rw [if_neg q3] at h; cases h
theorem gtes_of {count : Nat} : ∀ {gs : List Raw}, (∀ g ∈ gs, fauO count g = none) → ∃ gs' : List Gte, gs.map wAV = gs'.map gAV ∧ gs'.length = gs.length ∧ ∀ g ∈ gs', g.Ok count 60
  | [], _ => ⟨[], rfl, rfl, nofun⟩
  | g :: gs, h => by
    obtain ⟨g', e1, e2⟩ := gte_of (h g (.head _))
    obtain ⟨gs', a, b, c⟩ := gtes_of fun x hx => h x (.tail _ hx)
    exact ⟨g' :: gs', by rw [List.map_cons, List.map_cons, e1, a], congrArg (· + 1) b, fun x hx => (List.mem_cons.mp hx).elim (fun e => e ▸ e2) (c x)⟩
theorem due_none {m : Nat} {gs : List Raw} (h : dueO m gs = none) : ∃ gs' : List Gte, qAV m gs = pAV m gs' ∧ Valid m gs' := by
  unfold dueO at h
  by_cases q : 60 < m ∨ 200 < gs.length
  · rw [if_pos q] at h; cases h
  rw [if_neg q, Option.map_eq_none_iff, List.findSome?_eq_none_iff] at h
  obtain ⟨gs', a, b, c⟩ := gtes_of h
  refine ⟨gs', by unfold qAV pAV; rw [a], by (first | lia | omega), by (first | lia | omega), by rw [b]; exact c⟩
theorem due_some {m : Nat} {gs : List Raw} {c w : Str} (h : dueO m gs = some (c, w)) : PB c (qAV m gs) := by
  unfold dueO at h
  by_cases q : 60 < m ∨ 200 < gs.length
  · rw [if_pos q] at h
    cases h
    exact .size (by rw [List.length_map]; (first | lia | omega))
  rw [if_neg q] at h
  obtain ⟨y, h1, h2⟩ := Option.map_eq_some_iff.mp h
  obtain ⟨pre, g, post, e, e1, e2⟩ := List.findSome?_eq_some_iff.mp h1
  obtain ⟨gb, y4⟩ := gb_of e1
  cases h2
  obtain ⟨pre', a, b, ok⟩ := gtes_of e2
  have ln : gs.length = pre'.length + 1 + (post.map wAV).length := by rw [e, b, List.length_append, List.length_cons, List.length_map]; (first | lia | omega)
  have hf : faults[y]? = some (faults.getD y (B "")) := by
    rw [List.getD_eq_getElem?_getD, List.getElem?_eq_getElem (show y < faults.length from y4)]; rfl
  have : qAV m gs = .tup [.int (m : Int), .lst (pre'.map gAV ++ rAV (txt g.1) (g.2.1.map fun (n : Nat) => (n : Int)) (g.2.2 : Int) :: post.map wAV)] := by
    unfold qAV
    rw [e, List.map_append, List.map_cons, a, wAV_r]
  rw [this]
  rw [ln] at gb ok q
  exact .gate (by (first | lia | omega)) (by (first | lia | omega)) ok gb hf
noncomputable def CGateO (t : Th) : Prop := ∀ (row : List Nat) (Q : AV → Md → Prop) (X : Str → Prop), row.length ≤ 1000000 → (∀ g, gateO row = some g → Q (wAV g) .fr) → (gateO row = none → X (B "NoText")) → t.call (B "gate_of") [tV row] Q X
noncomputable def CCheckedN (t : Th) : Prop := ∀ (c : Str) (v : AV) (Q : AV → Md → Prop) (X : Str → Prop), PB c v → X c → t.call (B "checked") [v] Q X
noncomputable def ms_read : List MS :=
  [(.asg 1 (.mt (.var 0) 0 (.cst (.str (B "\n"))))),
   (.asg 2 (.mt (.sub (.var 1) (.cst (.int 0))) 0 (.cst (.str (B " "))))),
   (.ite (.bop false [(.cmp .NotEq (.bi (B "len") [(.var 2)]) (.cst (.int 2))), (.cmp .NotEq (.sub (.var 2) (.cst (.int 0))) (.cst (.str (B "in"))))]) [(.rai (B "NoText"))] []),
   (.asg 3 (.tup [(.call (B "number_of") [(.sub (.var 2) (.cst (.int 1)))]), (.comp (.call (B "gate_of") [(.var 4)]) (.slc (.var 1) (.cst (.int 1)) (.cst .none)) none)])),
   (.ex (.call (B "checked") [(.var 3)])),
   (.ret (.var 3))]
theorem slc_tail (ws : List (List Nat)) (h : 0 < ws.length) : slices (.lst (tVs ws)) (.int 1) .none = some (.lst (tVs ws.tail)) := by
  have ll : (tVs ws).length = ws.length := List.length_map ..
  show some (AV.lst (cut (tVs ws) (min (1 : Int).toNat (tVs ws).length) (tVs ws).length)) = _
  rw [ll, show min (1 : Int).toNat ws.length = 1 by (first | lia | omega), cut_tVs, List.take_of_length_le (by rw [List.length_drop]; exact Nat.le_refl _), List.drop_one]
theorem ne_i (a c : Nat) : cmpop .NotEq (.int (a : Int)) (.int (c : Int)) = some (!(a == c)) := by
  rw [ne_int]
  by_cases q : a = c
  · rw [q, beq_self_eq_true, beq_self_eq_true]
  · have e : ((a : Int) == (c : Int)) = false := beq_eq_false_iff_ne.mpr fun z => q (Int.ofNat.inj z)
    rw [beq_eq_false_iff_ne.mpr q, e]
section
variable {t : Th}
theorem two_of {l : List (List Nat)} (h : l.length = 2) : ∃ a b, l = [a, b] := by
  cases l with
  | nil => cases h
  | cons a l => cases l with
    | nil => cases h
    | cons b l => cases l with
      | nil => exact ⟨a, b, rfl⟩
      | cons => cases h
theorem read_wp (b : Bas t) (hn : CNumO t) (hg : CGateO t) (hc : CChecked t) (hcn : CCheckedN t) (text : List Nat) (hz : text.length ≤ 900000) (N : Rho → Prop) (Q : AV → Md → Prop) (X : Rho → Str → Prop)
    (h0 : textO text = none → ∀ ρ, X ρ (B "NoText")) (h1 : ∀ m gs c w, textO text = some (m, gs) → dueO m gs = some (c, w) → ∀ ρ, X ρ c) (h2 : ∀ m gs, textO text = some (m, gs) → dueO m gs = none → Q (qAV m gs) .fr) : wpSs t ms_read (rho0 4 [tV text]) N (fun _ => False) Q X := by
  obtain ⟨_, _, l2, l3, _, l5, _⟩ := lits
  have tt : top = 16777216 := rfl
  unfold ms_read
  rw [l2, l3, l5]
  refine s_Asg <| w_mt <| w_var rfl <| w_cst <| nd (split_V 10 text (by (first | lia | omega))) ⟨nofun, ?_⟩
  obtain ⟨c1, c2⟩ := cutC_len (c := 10) text
  unfold textO rowsO at h0 h1 h2
  have hp : 0 < (cutC 10 text).length := by obtain ⟨p, ps, e⟩ := cut_ne (c := 10) text; rw [e]; exact Nat.succ_pos _
  have hm : (cutC 10 text).headD [] ∈ cutC 10 text := by obtain ⟨p, ps, e⟩ := cut_ne (c := 10) text; rw [e]; exact .head _
  generalize cutC 10 text = rows at *
  have c0 := c1 _ hm
  refine s_Asg <| w_mt <| w_svc rfl <| nd (sub_tV0 rows hp) <| w_cst <| nd (split_V 32 _ (by (first | lia | omega))) ⟨nofun, ?_⟩
  unfold headO at h0 h1 h2
  have hp2 : 0 < (cutC 32 (rows.headD [])).length := by obtain ⟨p, ps, e⟩ := cut_ne (c := 32) (rows.headD []); rw [e]; exact Nat.succ_pos _
  generalize cutC 32 (rows.headD []) = hw at *
  have ll : (tVs hw).length = hw.length := List.length_map ..
  refine s_Ite <| t_bop <| t_cons <| t_cmp <| w_len b.toBas0 rfl <| w_cst <| nd (ne_i _ 2) ?_
  rw [ll]
  have bad : headW hw = none → ∀ ρ, X ρ (B "NoText") := fun z => h0 (by rw [z]; rfl)
  cases q1 : hw.length == 2 with
  | false =>
    have ne : hw.length ≠ 2 := fun z => by rw [z] at q1; cases q1
    exact i_neg (by decide) <| i_pos rfl <| s_cons <| s_rai b.loops (bad (headW_no ne) _)
  | true =>
    have e2 : hw.length = 2 := eq_of_beq q1
    obtain ⟨a, b', rfl⟩ := two_of e2
    refine i_pos rfl <| t_cons <| t_cmp <| w_svc rfl <| nd (sub_tV0 [a, b'] (Nat.succ_pos _)) <| w_cst <| nd (ne_txt ..) ?_
    show if (!(a == inL)) = false then _ else _
    by_cases q2 : a = inL
    · subst q2
      refine i_pos (by rw [beq_self_eq_true]; rfl) <| t_nil <| i_neg (by decide) <| s_nil ?_
      have hw2 : headW [inL, b'] = numO b' := by unfold headW; exact if_pos rfl
      rw [hw2] at h0 h1 h2
      have h0 : (numO b').bind (fun m => (mapN gateO rows.tail).map fun gs => (m, gs)) = none → ∀ ρ, X ρ (B "NoText") := h0
      have h1 : ∀ m gs c w, (numO b').bind (fun m => (mapN gateO rows.tail).map fun gs => (m, gs)) = some (m, gs) → dueO m gs = some (c, w) → ∀ ρ, X ρ c := h1
      have h2 : ∀ m gs, (numO b').bind (fun m => (mapN gateO rows.tail).map fun gs => (m, gs)) = some (m, gs) → dueO m gs = none → Q (qAV m gs) .fr := h2
      refine s_Asg <| w_tup <| w_cons <| w_one <| w_svc rfl <| nd (sub_tV [inL, b'] 1 (Nat.lt_succ_self 1)) <| hn _ _ _ (fun m em => ?_) fun em => h0 (by show (numO b').bind _ = _; rw [show numO b' = none from em]; rfl) _
      have em : numO b' = some m := em
      rw [em] at h0 h1 h2
      refine w_cons <| w_comp b.loops <| w_slc <| w_var rfl <| w_cst <| w_cst <| nd (slc_tail rows hp) <| nd (r := tVs rows.tail) rfl ⟨?_, ?_⟩
      · rw [List.length_map, List.length_tail]; (first | lia | omega)
      refine compL_opt gateO tV wAV .fr nofun (fun _ => rfl) rows.tail (fun row hr k k1 k2 => w_1v rfl <| hg row _ _ (Nat.le_trans (c1 row (List.mem_of_mem_tail hr)) (by (first | lia | omega))) k1 k2) (fun x _ k hk => hk) [] true _ (fun gs e => ?_) fun e => h0 (by rw [e]; rfl) _
      rw [e] at h1 h2
      refine w_nil ⟨mem2 nofun nofun, (show 2 ≤ top by decide), nofun, ?_⟩
      show wpSs t _ [some (tV text, .sh), some (.lst (tVs rows), .fr), some (.lst (tVs [inL, b']), .fr), some (qAV m gs, .fr)] N (fun _ => False) Q X
      cases q3 : dueO m gs with
      | some p =>
        obtain ⟨c, w⟩ := p
        exact s_Ex <| w_1v rfl <| hcn c _ _ _ (due_some q3) (h1 m gs c w rfl q3 _)
      | none =>
        obtain ⟨gs', e1, va⟩ := due_none q3
        have h2 := h2 m gs rfl q3
        rw [e1] at h2 ⊢
        exact s_Ex <| w_1v rfl <| hc _ _ _ _ va <| s_Ret <| w_var rfl ⟨nofun, rfl, h2⟩
    · refine i_neg (by rw [beq_eq_false_iff_ne.mpr q2]; decide) <| i_pos rfl <| s_cons <| s_rai b.loops (bad ?_ _)
      unfold headW; exact if_neg q2
end
end LP
end Mine

namespace Mine
open PySem
namespace LP
theorem sl_hi (l : List Nat) (k : Nat) : slices (tV l) .none (.int (k : Int)) = some (tV (l.take k)) := by
  show some (AV.str ⟨(cut l 0 (if (k : Int) < 0 then ((k : Int) + (l.length : Int)).toNat else min (k : Int).toNat l.length)).toArray⟩) = _
  rw [if_neg (by (first | lia | omega)), Int.toNat_natCast]
  unfold cut
  rw [List.drop_zero, Nat.sub_zero]
  show some (tV (l.take (min k l.length))) = _
  rw [← List.take_eq_take_min]
theorem sl_lo (l : List Nat) (k : Nat) : slices (tV l) (.int (k : Int)) .none = some (tV (l.drop k)) := by
  show some (AV.str ⟨(cut l (if (k : Int) < 0 then ((k : Int) + (l.length : Int)).toNat else min (k : Int).toNat l.length) l.length).toArray⟩) = _
  rw [if_neg (by (first | lia | omega)), Int.toNat_natCast]
  unfold cut
  show some (tV ((l.drop (min k l.length)).take (l.length - min k l.length))) = _
  rw [List.take_of_length_le (by rw [List.length_drop]; exact Nat.le_refl _)]
  rcases Nat.le_total k l.length with z | z
  · rw [Nat.min_eq_left z]
  · rw [Nat.min_eq_right z, List.drop_length, List.drop_eq_nil_of_le z]
theorem slL_hi (l : List (List Nat)) (k : Nat) : slices (.lst (tVs l)) .none (.int (k : Int)) = some (.lst (tVs (l.take k))) := by
  have ll : (tVs l).length = l.length := List.length_map ..
  show some (AV.lst (cut (tVs l) 0 (if (k : Int) < 0 then ((k : Int) + ((tVs l).length : Int)).toNat else min (k : Int).toNat (tVs l).length))) = _
  rw [ll, if_neg (by (first | lia | omega)), Int.toNat_natCast, cut_tVs, List.drop_zero, Nat.sub_zero, ← List.take_eq_take_min]
theorem slL_lo (l : List (List Nat)) (k : Nat) : slices (.lst (tVs l)) (.int (k : Int)) .none = some (.lst (tVs (l.drop k))) := by
  have ll : (tVs l).length = l.length := List.length_map ..
  show some (AV.lst (cut (tVs l) (if (k : Int) < 0 then ((k : Int) + ((tVs l).length : Int)).toNat else min (k : Int).toNat (tVs l).length) (tVs l).length)) = _
  rw [ll, if_neg (by (first | lia | omega)), Int.toNat_natCast, cut_tVs, List.take_of_length_le (by rw [List.length_drop]; exact Nat.le_refl _)]
  rcases Nat.le_total k l.length with z | z
  · rw [Nat.min_eq_left z]
  · rw [Nat.min_eq_right z, List.drop_length, List.drop_eq_nil_of_le z]
noncomputable def figI (w : List Nat) : Int := match numO w with
  | some n => (n : Int)
  | none => -1
theorem mapN_some {α β : Type} (p : α → β) : ∀ l : List α, mapN (fun c => some (p c)) l = some (l.map p)
  | [] => rfl
  | x :: l => by
    show (mapN (fun c => some (p c)) l).map _ = _
    rw [mapN_some p l]; rfl
theorem lead {w : List Nat} (h : w ≠ []) : (w.head? == some 48 && w != [48]) = (decide (1 < w.length) && ([w.headD 0] == [48])) := by
  cases w with
  | nil => exact absurd rfl h
  | cons x r =>
    show ((some x == some 48) && !((x :: r) == [48])) = (decide (1 < r.length + 1) && ([x] == [48]))
    by_cases e : x = 48
    · subst e
      cases r with
      | nil => rfl
      | cons y r =>
        rw [show ((48 :: y :: r) == [48]) = false from rfl, show decide (1 < (y :: r).length + 1) = true from decide_eq_true (by rw [List.length_cons]; (first | lia | omega))]; rfl
    · have e1 : (some x == some 48) = false := beq_eq_false_iff_ne.mpr fun z => e (Option.some.inj z)
      have e2 : ([x] == [48]) = false := beq_eq_false_iff_ne.mpr fun z => e (List.cons.inj z).1
      rw [e1, e2, Bool.and_false]; rfl
noncomputable def ms_figures : List MS :=
  [(.ite (.bop false [(.cmp .Eq (.var 0) (.cst (.str (B "")))), (.cmp .Gt (.bi (B "len") [(.var 0)]) (.cst (.int 9))), (.bop true [(.cmp .Gt (.bi (B "len") [(.var 0)]) (.cst (.int 1))), (.cmp .Eq (.sub (.var 0) (.cst (.int 0))) (.cst (.str (B "0"))))])]) [(.ret (.neg (.cst (.int 1))))] []),
   (.ite (.not (.lbi (B "all") [(.comp (.cmp .In (.var 1) (.cst (.str (B "0123456789")))) (.var 0) none)])) [(.ret (.neg (.cst (.int 1))))] []),
   (.ret (.bi (B "int") [(.var 0)]))]
section
variable {t : Th}
theorem all_signs (b : Bas t) (ha : ∀ vs, t.lbis (B "all") vs = allB vs) {e g : ME} {ρ : Rho} {w : List Nat} (p : Nat → Bool) {m : Md} {P : Bool → Prop} {X : Str → Prop} {n : Nat} (hn : ρ.length = n) (hw : w.length ≤ 1000000) (he : ∀ (Q : AV → Md → Prop) , Q (tV w) m → wpE t e ρ Q X)
    (hg : ∀ c m (Q : AV → Md → Prop) (Y : Str → Prop), Q (.bool (p c)) .fr → wpE t (.cmp .In (.var n) g) (ρ ++ [some (tV [c], m)]) Q Y) (h : P (w.all p)) : wpT t (.lbi (B "all") [(.comp (.cmp .In (.var n) g) e none)]) ρ P X := by
  have tt : top = 16777216 := rfl
  refine t_lbi b.loops <| w_cons <| w_comp b.loops <| he _ <| nd (r := chV w) rfl ⟨by unfold chV; rw [List.length_map]; (first | lia | omega), ?_⟩
  refine compL_opt (N := False) (fun c => some (p c)) (fun c => tV [c]) .bool .fr nofun (fun _ => rfl) w (fun c _ k k1 _ => hg c _ _ _ (k1 _ rfl)) (fun x _ k hk => hk) [] true _ (fun ys e => ?_) fun e => ?_
  · rw [mapN_some] at e
    cases e
    refine w_nil ?_
    rw [ha, List.nil_append]
    refine nd (all_bools _ _) <| nd (r := w.all p) ?_ h
    show some ((w.map p).all id) = _
    rw [List.all_map]; rfl
  · rw [mapN_some] at e; cases e
theorem figures_wp (b : Bas t) (ha : ∀ vs, t.lbis (B "all") vs = allB vs) (hi : ∀ vs, t.bis (B "int") vs = intB vs) (w : List Nat) (N : Rho → Prop) (Q : AV → Md → Prop) (X : Rho → Str → Prop) (h : Q (.int (figI w)) .fr) : wpSs t ms_figures (rho0 1 [tV w]) N (fun _ => False) Q X := by
  obtain ⟨l0, l1, _⟩ := lits
  unfold ms_figures
  rw [l0, l1]
  unfold figI numO at h
  refine s_Ite <| t_bop <| t_cons <| t_cvc rfl <| nd (eq_txt ..) ?_
  cases q0 : w == [] with
  | true =>
    have e : w = [] := eq_of_beq q0
    subst e
    exact i_neg (by decide) <| i_pos rfl <| s_Ret <| w_neg <| w_cst ⟨nofun, rfl, h⟩
  | false =>
    have ne : w ≠ [] := fun z => by rw [z] at q0; cases q0
    have em : w.isEmpty = false := by cases w with | nil => exact absurd rfl ne | cons _ _ => rfl
    rw [em, lead ne] at h
    refine i_pos rfl <| t_cons <| t_cmp <| w_bi <| w_vn rfl <| nd (lenT b.toBas0 ..) <| w_cst <| nd (gt_int ..) ?_
    by_cases q1 : 9 < w.length
    · rw [decide_eq_true q1] at h
      exact i_neg (by rw [decide_eq_true (show (9 : Int) < (w.length : Int) by (first | lia | omega))]; decide) <| i_pos rfl <| s_Ret <| w_neg <| w_cst ⟨nofun, rfl, h⟩
    · rw [decide_eq_false q1] at h
      refine i_pos (decide_eq_false (show ¬ (9 : Int) < (w.length : Int) by (first | lia | omega))) <| t_cons <| t_bop <| t_cons <| t_cmp <| w_bi <| w_vn rfl <| nd (lenT b.toBas0 ..) <| w_cst <| nd (gt_int ..) ?_
      have go : (decide (1 < w.length) && ([w.headD 0] == [48])) = false → wpSs t [(.ite (.not (.lbi (B "all") [(.comp (.cmp .In (.var 1) (.cst (.str (B "0123456789")))) (.var 0) none)])) [(.ret (.neg (.cst (.int 1))))] []), (.ret (.bi (B "int") [(.var 0)]))] (rho0 1 [tV w]) N (fun _ => False) Q X := fun z => by
        rw [z] at h
        refine s_Ite <| t_not <| all_signs b ha isF rfl (by (first | lia | omega)) (fun Q hQ => w_var rfl hQ) (fun c m Q Y hQ => w_cmp <| w_var rfl <| w_cst <| nd (inS_fig c) hQ) ?_
        cases q2 : w.all isF with
        | false =>
          rw [q2] at h
          exact i_pos rfl <| s_Ret <| w_neg <| w_cst ⟨nofun, rfl, h⟩
        | true =>
          rw [q2] at h
          refine i_neg (by decide) <| s_nil <| s_Ret <| w_bi <| w_vn rfl ?_
          rw [hi]
          exact nd (int_V w _ ne (Nat.not_lt.mp q1) q2) ⟨nofun, rfl, h⟩
      by_cases q3 : 1 < w.length
      · rw [decide_eq_true q3] at go h
        refine i_pos (decide_eq_true (show (1 : Int) < (w.length : Int) by (first | lia | omega))) <| t_cons <| t_cmp <| w_svc rfl <| nd (head_V w ne) <| w_cst <| nd (eq_txt ..) ?_
        cases q4 : [w.headD 0] == [48] with
        | false =>
          rw [q4] at go
          exact i_neg (by decide) <| i_pos rfl <| t_nil <| i_neg (by decide) <| s_nil <| go rfl
        | true =>
          rw [q4] at h
          exact i_pos rfl <| t_nil <| i_neg (by decide) <| i_pos rfl <| s_Ret <| w_neg <| w_cst ⟨nofun, rfl, h⟩
      · rw [decide_eq_false q3] at go
        exact i_neg (by rw [decide_eq_false (show ¬ (1 : Int) < (w.length : Int) by (first | lia | omega))]; decide) <| i_pos rfl <| t_nil <| i_neg (by decide) <| s_nil <| go rfl
theorem in_ints (i : Int) (l : List Int) : inV (.int i) (.lst (l.map .int)) = some (l.any (· == i)) := by
  have d : dats 8 (l.map .int) = true := by
    induction l with
    | nil => rfl
    | cons x l ih => exact ih
  show (if (dat 8 (.int i) && dats 8 (l.map .int)) = true then some ((l.map AV.int).any fun y => eqq y (.int i)) else none) = _
  rw [d]
  show some ((l.map AV.int).any fun y => eqq y (.int i)) = _
  rw [List.any_map]; rfl
theorem figs_in (l : List (List Nat)) : ((l.map figI).any (· == -1)) = (mapN numO l).isNone := by
  induction l with
  | nil => rfl
  | cons w l ih =>
    rw [List.map_cons, List.any_cons, ih]
    show ((figI w == -1) || (mapN numO l).isNone) = ((numO w).bind fun y => (mapN numO l).map (y :: ·)).isNone
    unfold figI
    cases numO w with
    | none => rfl
    | some n =>
      have e : ((n : Int) == -1) = false := beq_eq_false_iff_ne.mpr (by (first | lia | omega))
      show (((n : Int) == -1) || (mapN numO l).isNone) = ((mapN numO l).map (n :: ·)).isNone
      rw [e]
      cases mapN numO l <;> rfl
theorem figs_some : ∀ {l : List (List Nat)} {ss : List Nat}, mapN numO l = some ss → l.map figI = ss.map fun (n : Nat) => (n : Int)
  | [], _, h => by cases h; rfl
  | w :: l, _, h => by
    obtain ⟨n, h1, h2⟩ := Option.bind_eq_some_iff.mp h
    obtain ⟨ns, h3, rfl⟩ := Option.map_eq_some_iff.mp h2
    rw [List.map_cons, List.map_cons, figs_some h3]
    unfold figI
    rw [h1]
noncomputable def CFig (t : Th) : Prop := ∀ (w : List Nat) (Q : AV → Md → Prop) (X : Str → Prop), Q (.int (figI w)) .fr → t.call (B "_law_figures") [tV w] Q X
noncomputable def goV : Option Raw → AV
  | some g => wAV g
  | none => .none
noncomputable def ms_lgate : List MS :=
  [(.asg 1 (.mt (.var 0) 0 (.cst (.str (B " "))))),
   (.ite (.bop false [(.cmp .Lt (.bi (B "len") [(.var 1)]) (.cst (.int 3))), (.cmp .NotEq (.sub (.var 1) (.bin .Sub (.bi (B "len") [(.var 1)]) (.cst (.int 2)))) (.cst (.str (B "by")))), (.cmp .Eq (.sub (.var 1) (.cst (.int 0))) (.cst (.str (B ""))))]) [(.ret (.cst .none))] []),
   (.ite (.not (.lbi (B "all") [(.comp (.cmp .In (.var 3) (.cst (.str (B "abcdefghijklmnopqrstuvwxyz")))) (.sub (.var 1) (.cst (.int 0))) none)])) [(.ret (.cst .none))] []),
   (.asg 2 (.comp (.call (B "_law_figures") [(.var 3)]) (.slc (.var 1) (.cst (.int 1)) (.bin .Sub (.bi (B "len") [(.var 1)]) (.cst (.int 2)))) none)),
   (.ite (.bop false [(.cmp .In (.neg (.cst (.int 1))) (.var 2)), (.cmp .Lt (.call (B "_law_figures") [(.sub (.var 1) (.bin .Sub (.bi (B "len") [(.var 1)]) (.cst (.int 1))))]) (.cst (.int 0)))]) [(.ret (.cst .none))] []),
   (.ret (.tup [(.sub (.var 1) (.cst (.int 0))), (.bi (B "tuple") [(.var 2)]), (.call (B "_law_figures") [(.sub (.var 1) (.bin .Sub (.bi (B "len") [(.var 1)]) (.cst (.int 1))))])]))]
theorem slc_mid2 (ws : List (List Nat)) (h : 3 ≤ ws.length) : slices (.lst (tVs ws)) (.int 1) (.int ((ws.length - 2 : Nat) : Int)) = some (.lst (tVs ((ws.drop 1).take (ws.length - 2 - 1)))) := by
  have ll : (tVs ws).length = ws.length := List.length_map ..
  show some (AV.lst (cut (tVs ws) (min (1 : Int).toNat (tVs ws).length) (if ((ws.length - 2 : Nat) : Int) < 0 then (((ws.length - 2 : Nat) : Int) + ((tVs ws).length : Int)).toNat else min ((ws.length - 2 : Nat) : Int).toNat (tVs ws).length))) = _
  rw [ll, if_neg (by (first | lia | omega)), show min (1 : Int).toNat ws.length = 1 by (first | lia | omega), Int.toNat_natCast, Nat.min_eq_left (Nat.sub_le ..), cut_tVs]
theorem lgate_wp (b : Bas t) (ha : ∀ vs, t.lbis (B "all") vs = allB vs) (hf : CFig t) (row : List Nat) (hz : row.length ≤ 900000) (N : Rho → Prop) (Q : AV → Md → Prop) (X : Rho → Str → Prop) (h : Q (goV (gateO row)) .fr) : wpSs t ms_lgate (rho0 3 [tV row]) N (fun _ => False) Q X := by
  obtain ⟨l0, _, l2, _, l4, _⟩ := lits
  have tt : top = 16777216 := rfl
  unfold ms_lgate
  rw [l0, l2, l4]
  refine s_Asg <| w_mt <| w_var rfl <| w_cst <| nd (split_V 32 row (by (first | lia | omega))) ⟨nofun, ?_⟩
  obtain ⟨c1, c2⟩ := cutC_len (c := 32) row
  unfold gateO wordsO at h
  have hp : 0 < (cutC 32 row).length := by obtain ⟨p, ps, e⟩ := cut_ne (c := 32) row; rw [e]; exact Nat.succ_pos _
  have hm : (cutC 32 row).headD [] ∈ cutC 32 row := by obtain ⟨p, ps, e⟩ := cut_ne (c := 32) row; rw [e]; exact .head _
  generalize cutC 32 row = ws at *
  have ll : (tVs ws).length = ws.length := List.length_map ..
  have hw0 := c1 _ hm
  have rn : Q .none .fr → ∀ {ρ : Rho} {ss : List MS} {M : Rho → Prop}, wpSs t ((.ret (.cst .none)) :: ss) ρ M (fun _ => False) Q X := fun z => s_Ret <| w_cst ⟨nofun, rfl, z⟩
  refine s_Ite <| t_bop <| t_cons <| t_cmp <| w_len b.toBas0 rfl <| w_cst <| nd (lt_int ..) ?_
  rw [ll]
  by_cases q1 : ws.length < 3
  · rw [decide_eq_true q1] at h
    exact i_neg (by rw [decide_eq_true (show (ws.length : Int) < 3 by (first | lia | omega))]; decide) <| i_pos rfl <| rn h
  rw [decide_eq_false q1, isE_beq] at h
  have eby : (ws.getD (ws.length - 2) [] != byL) = !(ws.getD (ws.length - 2) [] == byL) := rfl
  rw [eby] at h
  have s2 : binop .Sub (.int (ws.length : Int)) (.int 2) = some (.int ((ws.length - 2 : Nat) : Int)) := by rw [sub_int]; congr 2; (first | lia | omega)
  have s1 : binop .Sub (.int (ws.length : Int)) (.int 1) = some (.int ((ws.length - 1 : Nat) : Int)) := by rw [sub_int]; congr 2; (first | lia | omega)
  refine i_pos (decide_eq_false (show ¬ (ws.length : Int) < 3 by (first | lia | omega))) <| t_cons <| t_cmp <| w_sub <| w_var rfl <| w_bin <| w_len b.toBas0 rfl <| w_cst ?_
  rw [ll]
  refine nd s2 <| nd (sub_tV ws (ws.length - 2) (by (first | lia | omega))) <| w_cst <| nd (ne_txt ..) ?_
  cases q3 : ws.getD (ws.length - 2) [] == byL with
  | false =>
    rw [q3] at h
    have h : Q .none .fr := by
      revert h
      cases ws.headD [] == [] <;> exact fun h => h
    exact i_neg (by decide) <| i_pos rfl <| rn h
  | true =>
    rw [q3] at h
    refine i_pos rfl <| t_cons <| t_cmp <| w_svc rfl <| nd (sub_tV0 ws hp) <| w_cst <| nd (eq_txt ..) ?_
    cases q2 : ws.headD [] == [] with
    | true =>
      rw [q2] at h
      exact i_neg (by decide) <| i_pos rfl <| rn h
    | false =>
      rw [q2] at h
      refine i_pos rfl <| t_nil <| i_neg (by decide) <| s_nil <| s_Ite <| t_not <| all_signs b ha isL rfl (by (first | lia | omega)) (fun Q hQ => w_svc rfl <| nd (sub_tV0 ws hp) hQ) (fun c m Q Y hQ => w_cmp <| w_var rfl <| w_cst <| nd (inS_let c) hQ) ?_
      cases q4 : (ws.headD []).all isL with
      | false =>
        rw [q4] at h
        exact i_pos rfl <| rn h
      | true =>
        rw [q4] at h
        have h : Q (goV ((mapN numO ((ws.drop 1).take (ws.length - 2 - 1))).bind (fun ss => (numO (ws.getD (ws.length - 1) [])).map fun d => (ws.headD [], ss, d)))) .fr := h
        refine i_neg (by decide) <| s_nil <| s_Asg <| w_comp b.loops <| w_slc <| w_var rfl <| w_cst <| w_bin <| w_len b.toBas0 rfl <| w_cst ?_
        rw [ll]
        refine nd s2 <| nd (slc_mid2 ws (Nat.not_lt.mp q1)) <| nd (r := tVs ((ws.drop 1).take (ws.length - 2 - 1))) rfl ⟨?_, ?_⟩
        · rw [List.length_map, List.length_take, List.length_drop]; (first | lia | omega)
        refine compL_opt (N := False) (fun w => some (figI w)) tV .int .fr nofun (fun _ => rfl) _ (fun w _ k k1 _ => w_1v rfl <| hf w _ _ (k1 _ rfl)) (fun x _ k hk => hk) [] true _ (fun ys e => ?_) fun e => by rw [mapN_some] at e; cases e
        rw [mapN_some] at e
        cases e
        rw [List.nil_append]
        refine ⟨nofun, s_Ite <| t_bop <| t_cons <| t_cmp <| w_neg <| w_cst <| w_var rfl <| nd (in_ints ..) ?_⟩
        show if ((((ws.drop 1).take (ws.length - 2 - 1)).map figI).any (· == -1)) = false then _ else _
        rw [figs_in]
        cases q5 : mapN numO ((ws.drop 1).take (ws.length - 2 - 1)) with
        | none =>
          rw [q5] at h
          exact i_neg (by decide) <| i_pos rfl <| rn h
        | some ss =>
          rw [q5] at h
          have h : Q (goV ((numO (ws.getD (ws.length - 1) [])).map fun d => (ws.headD [], ss, d))) .fr := h
          refine i_pos rfl <| t_cons <| t_cmp <| w_one <| w_sub <| w_var rfl <| w_bin <| w_len b.toBas0 rfl <| w_cst ?_
          rw [ll]
          refine nd s1 <| nd (sub_tV ws (ws.length - 1) (by (first | lia | omega))) <| hf _ _ _ <| w_cst <| nd (lt_int ..) ?_
          have fe : figI (ws.getD (ws.length - 1) []) = match numO (ws.getD (ws.length - 1) []) with | some n => (n : Int) | none => -1 := rfl
          cases q6 : numO (ws.getD (ws.length - 1) []) with
          | none =>
            rw [q6] at h fe
            rw [fe]
            exact i_neg (by decide) <| i_pos rfl <| rn h
          | some d =>
            rw [q6] at h fe
            have fe : figI (ws.getD (ws.length - 1) []) = (d : Int) := fe
            rw [fe, figs_some q5]
            have tu : t.bis (B "tuple") [(.lst ((ss.map fun (n : Nat) => (n : Int)).map .int), .fr)] = some (.tup (nAV ss), .fr) := by rw [b.btp]; unfold nAV; rw [List.map_map]; rfl
            refine i_pos (decide_eq_false (Int.not_lt.mpr (Int.natCast_nonneg d))) <| t_nil <| i_neg (by decide) <| s_nil <| s_Ret <| w_tup <| w_cons <| w_svc rfl <| nd (sub_tV0 ws hp) <| w_cons <| w_bi <| w_vn rfl <| nd tu <| w_cons <| w_one <| w_sub <| w_var rfl <| w_bin <| w_len b.toBas0 rfl <| w_cst ?_
            rw [ll]
            refine nd s1 <| nd (sub_tV ws (ws.length - 1) (by (first | lia | omega))) <| hf _ _ _ ?_
            rw [fe]
            exact w_nil ⟨mem3 nofun nofun nofun, (show 3 ≤ top by decide), nofun, rfl, h⟩
end
end LP
end Mine

namespace Mine
open PySem
namespace LP
noncomputable def in3 : List Nat := [105, 110, 32]
theorem num_sp {w : List Nat} (h : 32 ∈ w) : numO w = none := by
  have e : w.all isF = false := Bool.eq_false_iff.mpr fun z => absurd (List.all_eq_true.mp z 32 h) (by decide)
  unfold numO
  rw [e, Bool.not_false, Bool.or_true]; rfl
theorem head_eq (h : List Nat) : headO h = if h.take 3 = in3 then numO (h.drop 3) else none := by
  unfold headO
  by_cases q : h.take 3 = in3
  · rw [if_pos q]
    have e : h = inL ++ 32 :: h.drop 3 := by
      conv => lhs; rw [← List.take_append_drop 3 h, q]
      rfl
    generalize h.drop 3 = r at e
    subst e
    rw [cut_at inL r (by decide)]
    by_cases z : 32 ∈ r
    · rw [num_sp z]
      obtain ⟨p, ps, ec⟩ := cut_ne (c := 32) r
      cases ps with
      | nil =>
        have g := glue_cut (c := 32) r
        have n := cut_not (c := 32) r p (by rw [ec]; exact .head _)
        rw [ec] at g
        have g : p = r := g
        rw [g] at n
        exact absurd z n
      | cons a b => rw [ec]; exact headW_no (by rw [List.length_cons, List.length_cons, List.length_cons]; (first | lia | omega))
    · rw [cut_free r z]
      unfold headW
      exact if_pos rfl
  · rw [if_neg q]
    have g := glue_cut (c := 32) h
    generalize cutC 32 h = hw at g
    match hw, g with
    | [], _ => rfl
    | [_], _ => rfl
    | [a, b], g =>
      unfold headW
      refine if_neg fun e => q ?_
      subst e
      rw [← g]; rfl
    | _ :: _ :: _ :: _, _ => rfl
theorem goV_dat : ∀ l : List (Option Raw), dats 8 (l.map goV) = true
  | [] => rfl
  | some g :: l => by
    show (dat 8 (wAV g) && dats 8 (l.map goV)) = true
    rw [goV_dat l]
    show ((true && (dats 6 (nAV g.2.1) && (true && true))) && true) = true
    rw [dats_nAV]; rfl
  | none :: l => by
    show (true && dats 8 (l.map goV)) = true
    rw [goV_dat l]; rfl
theorem none_in (l : List (Option Raw)) : inV .none (.lst (l.map goV)) = some (l.any (·.isNone)) := by
  show (if (dat 8 .none && dats 8 (l.map goV)) = true then some ((l.map goV).any fun y => eqq y .none) else none) = _
  rw [goV_dat, List.any_map]
  show some (l.any _) = _
  congr 1
  refine List.any_congr rfl fun x => ?_
  cases x <;> rfl
theorem gos_none (l : List (List Nat)) : (l.map gateO).any (·.isNone) = (mapN gateO l).isNone := by
  induction l with
  | nil => rfl
  | cons w l ih =>
    rw [List.map_cons, List.any_cons, ih]
    show ((gateO w).isNone || (mapN gateO l).isNone) = ((gateO w).bind fun y => (mapN gateO l).map (y :: ·)).isNone
    cases gateO w with
    | none => rfl
    | some n => cases mapN gateO l <;> rfl
theorem gos_some : ∀ {l : List (List Nat)} {gs : List Raw}, mapN gateO l = some gs → (l.map gateO).map goV = gs.map wAV
  | [], _, h => by cases h; rfl
  | w :: l, _, h => by
    obtain ⟨n, h1, h2⟩ := Option.bind_eq_some_iff.mp h
    obtain ⟨ns, h3, rfl⟩ := Option.map_eq_some_iff.mp h2
    rw [List.map_cons, List.map_cons, List.map_cons, gos_some h3, h1]; rfl
noncomputable def poV : Option (Nat × List Raw) → AV
  | some p => qAV p.1 p.2
  | none => .none
noncomputable def CLGate (t : Th) : Prop := ∀ (row : List Nat) (Q : AV → Md → Prop) (X : Str → Prop), row.length ≤ 900000 → Q (goV (gateO row)) .fr → t.call (B "_law_gate_of") [tV row] Q X
noncomputable def ms_parsed : List MS :=
  [(.asg 1 (.mt (.var 0) 0 (.cst (.str (B "\n"))))),
   (.asg 2 (.comp (.call (B "_law_gate_of") [(.var 3)]) (.slc (.var 1) (.cst (.int 1)) (.cst .none)) none)),
   (.ite (.bop false [(.cmp .NotEq (.slc (.sub (.var 1) (.cst (.int 0))) (.cst .none) (.cst (.int 3))) (.cst (.str (B "in ")))), (.cmp .Lt (.call (B "_law_figures") [(.slc (.sub (.var 1) (.cst (.int 0))) (.cst (.int 3)) (.cst .none))]) (.cst (.int 0))), (.cmp .In (.cst .none) (.var 2))]) [(.ret (.cst .none))] []),
   (.ret (.tup [(.call (B "_law_figures") [(.slc (.sub (.var 1) (.cst (.int 0))) (.cst (.int 3)) (.cst .none))]), (.var 2)]))]
section
variable {t : Th}
theorem parsed_wp (b : Bas t) (hf : CFig t) (hg : CLGate t) (text : List Nat) (hz : text.length ≤ 900000) (N : Rho → Prop) (Q : AV → Md → Prop) (X : Rho → Str → Prop) (h : Q (poV (textO text)) .fr) : wpSs t ms_parsed (rho0 3 [tV text]) N (fun _ => False) Q X := by
  obtain ⟨_, _, _, l3, _, _, l6, _⟩ := lits
  have tt : top = 16777216 := rfl
  unfold ms_parsed
  rw [l3, l6]
  refine s_Asg <| w_mt <| w_var rfl <| w_cst <| nd (split_V 10 text (by (first | lia | omega))) ⟨nofun, ?_⟩
  obtain ⟨c1, c2⟩ := cutC_len (c := 10) text
  unfold textO rowsO at h
  have hp : 0 < (cutC 10 text).length := by obtain ⟨p, ps, e⟩ := cut_ne (c := 10) text; rw [e]; exact Nat.succ_pos _
  generalize cutC 10 text = rows at *
  rw [head_eq] at h
  refine s_Asg <| w_comp b.loops <| w_slc <| w_var rfl <| w_cst <| w_cst <| nd (slc_tail rows hp) <| nd (r := tVs rows.tail) rfl ⟨?_, ?_⟩
  · rw [List.length_map, List.length_tail]; (first | lia | omega)
  refine compL_opt (N := False) (fun row => some (gateO row)) tV goV .fr nofun (fun _ => rfl) rows.tail (fun row hr k k1 _ => w_1v rfl <| hg row _ _ (Nat.le_trans (c1 row (List.mem_of_mem_tail hr)) hz) (k1 _ rfl)) (fun x _ k hk => hk) [] true _ (fun ys e => ?_) fun e => by rw [mapN_some] at e; cases e
  rw [mapN_some] at e
  cases e
  rw [List.nil_append]
  have rn : Q .none .fr → ∀ {ρ : Rho} {ss : List MS} {M : Rho → Prop}, wpSs t ((.ret (.cst .none)) :: ss) ρ M (fun _ => False) Q X := fun z => s_Ret <| w_cst ⟨nofun, rfl, z⟩
  refine ⟨nofun, s_Ite <| t_bop <| t_cons <| t_cmp <| w_slc <| w_svc rfl <| nd (sub_tV0 rows hp) <| w_cst <| w_cst <| nd (sl_hi (rows.headD []) 3) <| w_cst <| nd (ne_txt _ in3) ?_⟩
  show if (!((rows.headD []).take 3 == in3)) = false then _ else _
  by_cases q1 : (rows.headD []).take 3 = in3
  · rw [if_pos q1] at h
    refine i_pos (by rw [q1, beq_self_eq_true]; rfl) <| t_cons <| t_cmp <| w_one <| w_slc <| w_svc rfl <| nd (sub_tV0 rows hp) <| w_cst <| w_cst <| nd (sl_lo (rows.headD []) 3) <| hf _ _ _ <| w_cst <| nd (lt_int ..) ?_
    have fe : figI ((rows.headD []).drop 3) = match numO ((rows.headD []).drop 3) with | some n => (n : Int) | none => -1 := rfl
    cases q2 : numO ((rows.headD []).drop 3) with
    | none =>
      rw [q2] at h fe
      rw [fe]
      exact i_neg (by decide) <| i_pos rfl <| rn h
    | some m =>
      rw [q2] at h fe
      have fe : figI ((rows.headD []).drop 3) = (m : Int) := fe
      rw [fe]
      refine i_pos (decide_eq_false (Int.not_lt.mpr (Int.natCast_nonneg m))) <| t_cons <| t_cmp <| w_cst <| w_var rfl <| nd (none_in ..) ?_
      show if ((rows.tail.map gateO).any (·.isNone)) = false then _ else _
      rw [gos_none]
      have h : Q (poV ((mapN gateO rows.tail).map fun gs => (m, gs))) .fr := h
      cases q3 : mapN gateO rows.tail with
      | none =>
        rw [q3] at h
        exact i_neg (by decide) <| i_pos rfl <| rn h
      | some gs =>
        rw [q3] at h
        rw [gos_some q3]
        refine i_pos rfl <| t_nil <| i_neg (by decide) <| s_nil <| s_Ret <| w_tup <| w_cons <| w_one <| w_slc <| w_svc rfl <| nd (sub_tV0 rows hp) <| w_cst <| w_cst <| nd (sl_lo (rows.headD []) 3) <| hf _ _ _ ?_
        rw [fe]
        exact w_vn rfl ⟨mem2 nofun nofun, (show 2 ≤ top by decide), nofun, rfl, h⟩
  · rw [if_neg q1] at h
    exact i_neg (by rw [beq_eq_false_iff_ne.mpr q1]; decide) <| i_pos rfl <| rn h
end
end LP
end Mine

namespace Mine
open PySem
namespace LP
noncomputable def fauW : Option Nat → Str
  | some w => dueW.getD w (B "")
  | none => B ""
noncomputable def pmL : List Nat := [0, 1, 2, 3, 7, 8, 4, 5, 6]
noncomputable def loL : List Int := [0, 0, 1, 1, 3, 3, 2, 2, 2]
noncomputable def hiL : List Int := [0, 0, 1, 1, 3, 3, 9, 9, 9]
theorem pm_tab : ∀ k, k < 9 → pmL.getD k 0 < 9 ∧ loL[k]? = some (((wideN.getD (pmL.getD k 0) (0, 0)).1 : Nat) : Int) ∧ hiL[k]? = some (((wideN.getD (pmL.getD k 0) (0, 0)).2 : Nat) : Int) := by decide
theorem pm_on : ∀ i, i < 9 → ∃ k ∈ List.range 9, pmL.getD k 0 = i := by decide
noncomputable def kdL : List Str := [B "yes", B "no", B "keep", B "not", B "pick", B "most", B "both", B "either", B "unlike"]
theorem kd_tab : ∀ k, k < 9 → kdL[k]? = some (B (kindS.getD (pmL.getD k 0) "")) := by decide +kernel
theorem kidx_iff {k : Str} {i : Nat} (hi : i < 9) : (k == B (kindS.getD i "")) = decide (kidx k = some i) := by
  rw [Bool.eq_iff_iff, decide_eq_true_iff]
  exact ⟨fun z => by rw [eq_of_beq z]; exact kidx_kind i hi, fun z => by rw [(kidx_some z).2]; exact beq_self_eq_true _⟩
noncomputable def faultR : List MS := [(.asg 3 (.sub (.lst [(.cst (.int 0)), (.cst (.int 0)), (.cst (.int 1)), (.cst (.int 1)), (.cst (.int 3)), (.cst (.int 3)), (.cst (.int 2)), (.cst (.int 2)), (.cst (.int 2))]) (.var 2))), (.asg 4 (.sub (.lst [(.cst (.int 0)), (.cst (.int 0)), (.cst (.int 1)), (.cst (.int 1)), (.cst (.int 3)), (.cst (.int 3)), (.cst (.int 9)), (.cst (.int 9)), (.cst (.int 9))]) (.var 2))), (.ite (.bop false [(.cmp .Lt (.bi (B "len") [(.sub (.var 0) (.cst (.int 1)))]) (.var 3)), (.cmp .Gt (.bi (B "len") [(.sub (.var 0) (.cst (.int 1)))]) (.var 4))]) [(.ret (.cst (.str (B "sources"))))] []), (.ite (.not (.lbi (B "all") [(.comp (.cmp .Lt (.var 5) (.var 1)) (.sub (.var 0) (.cst (.int 1))) none)])) [(.ret (.cst (.str (B "line"))))] []), (.ret (.sub (.lst [(.cst (.str (B ""))), (.cst (.str (B "delay")))]) (.bi (B "int") [(.bop false [(.cmp .Lt (.sub (.var 0) (.cst (.int 2))) (.cst (.int 1))), (.cmp .Gt (.sub (.var 0) (.cst (.int 2))) (.cst (.int 60)))])])))]
noncomputable def faultI : List MS := [(.ite (.cmp .Eq (.sub (.var 0) (.cst (.int 0))) (.sub (.lst [(.cst (.str (B "yes"))), (.cst (.str (B "no"))), (.cst (.str (B "keep"))), (.cst (.str (B "not"))), (.cst (.str (B "pick"))), (.cst (.str (B "most"))), (.cst (.str (B "both"))), (.cst (.str (B "either"))), (.cst (.str (B "unlike")))]) (.var 2))) faultR [])]
noncomputable def ms_fault : List MS :=
  [(.for 2 (.bi (B "range") [(.cst (.int 9))]) faultI),
   (.ret (.cst (.str (B "kind"))))]
section
variable {t : Th}
theorem fauR_wp (b : Bas t) (ha : ∀ vs, t.lbis (B "all") vs = allB vs) (hi : ∀ vs, t.bis (B "int") vs = intB vs) (g : Raw) (count k : Nat) (hk : k < 9) (hg : kidx (txt g.1) = some (pmL.getD k 0)) (hz : g.2.1.length ≤ 1000000) (m2 : Sm) (N M : Rho → Prop) (Q : AV → Md → Prop) (X : Rho → Str → Prop) (h : Q (.str (fauW (fauO count g))) .fr) :
    wpSs t faultR [some (wAV g, .sh), some (.int (count : Int), .sh), some (.int (k : Int), m2), none, none] N M Q X := by
  obtain ⟨p1, p2, p3⟩ := pm_tab k hk
  have tt : top = 16777216 := rfl
  have ll : (nAV g.2.1).length = g.2.1.length := List.length_map ..
  unfold fauO at h
  rw [hg] at h
  have h : Q (.str (fauW (if fits (pmL.getD k 0) g.2.1.length = false then some 1 else if (g.2.1.any fun s => decide (count ≤ s)) = true then some 2 else if g.2.2 < 1 ∨ 60 < g.2.2 then some 3 else none))) .fr := h
  have e3 : subs (.lst (loL.map .int)) (.int (k : Int)) = some (.int (((wideN.getD (pmL.getD k 0) (0, 0)).1 : Nat) : Int)) := sub_lst _ _ _ (by rw [List.getElem?_map, p2]; rfl)
  have e4 : subs (.lst (hiL.map .int)) (.int (k : Int)) = some (.int (((wideN.getD (pmL.getD k 0) (0, 0)).2 : Nat) : Int)) := sub_lst _ _ _ (by rw [List.getElem?_map, p3]; rfl)
  have fe : fits (pmL.getD k 0) g.2.1.length = (decide ((wideN.getD (pmL.getD k 0) (0, 0)).1 ≤ g.2.1.length) && decide (g.2.1.length ≤ (wideN.getD (pmL.getD k 0) (0, 0)).2)) := rfl
  rw [fe] at h
  generalize (wideN.getD (pmL.getD k 0) (0, 0)).1 = lo at *
  generalize (wideN.getD (pmL.getD k 0) (0, 0)).2 = hi' at *
  have ln : ∀ m, t.bis (B "len") [(.tup (nAV g.2.1), m)] = some (.int (g.2.1.length : Int), .fr) := fun m => by rw [b.bln]; show some (AV.int ((nAV g.2.1).length : Int), Md.fr) = _; rw [ll]
  refine s_Asg <| w_sub <| wp_lstc _ _ (loL.map .int) _ (by decide) <| w_var rfl <| nd e3 ⟨nofun, ?_⟩
  refine s_Asg <| w_sub <| wp_lstc _ _ (hiL.map .int) _ (by decide) <| w_var rfl <| nd e4 ⟨nofun, ?_⟩
  refine s_Ite <| t_bop <| t_cons <| t_cmp <| w_bi <| w_cons <| w_t1 rfl <| w_nil <| nd (ln _) <| w_var rfl <| nd (lt_int ..) ?_
  have src : (decide (lo ≤ g.2.1.length) && decide (g.2.1.length ≤ hi')) = false → ∀ {ρ : Rho} {ss : List MS} {M' : Rho → Prop}, wpSs t ((.ret (.cst (.str (B "sources")))) :: ss) ρ M' M Q X := fun z => by
    rw [if_pos z] at h
    exact s_Ret <| w_cst ⟨nofun, rfl, h⟩
  by_cases q1 : g.2.1.length < lo
  · exact i_neg (by rw [decide_eq_true (Int.ofNat_lt.mpr q1)]; decide) <| i_pos rfl <| src (by rw [decide_eq_false (Nat.not_le.mpr q1)]; rfl)
  refine i_pos (decide_eq_false fun z => q1 (Int.ofNat_lt.mp z)) <| t_cons <| t_cmp <| w_bi <| w_cons <| w_t1 rfl <| w_nil <| nd (ln _) <| w_var rfl <| nd (gt_int ..) ?_
  by_cases q2 : hi' < g.2.1.length
  · exact i_neg (by rw [decide_eq_true (Int.ofNat_lt.mpr q2)]; decide) <| i_pos rfl <| src (by rw [decide_eq_false (Nat.not_le.mpr q2), Bool.and_false])
  rw [decide_eq_true (Nat.not_lt.mp q1), decide_eq_true (Nat.not_lt.mp q2), if_neg (by decide)] at h
  refine i_pos (decide_eq_false fun z => q2 (Int.ofNat_lt.mp z)) <| t_nil <| i_neg (by decide) <| s_nil ?_
  refine s_Ite <| t_not <| t_lbi b.loops <| w_cons <| w_comp b.loops <| w_t1 rfl <| nd (r := nAV g.2.1) rfl ⟨by rw [ll]; (first | lia | omega), ?_⟩
  refine compL_opt (N := False) (fun (s : Nat) => some (decide (s < count))) (fun s => .int (s : Int)) .bool .fr nofun (fun _ => rfl) g.2.1 (fun s _ k k1 _ => w_cmp <| w_var rfl <| w_var rfl <| nd (lt_int ..) ?_) (fun x _ k hk => hk) [] true _ (fun ys e => ?_) fun e => by rw [mapN_some] at e; cases e
  · have e : decide ((s : Int) < (count : Int)) = decide (s < count) := decide_eq_decide.mpr Int.ofNat_lt
    rw [e]; exact k1 _ rfl
  rw [mapN_some] at e
  cases e
  refine w_nil ?_
  rw [ha, List.nil_append]
  refine nd (all_bools _ _) <| nd (r := g.2.1.all fun s => decide (s < count)) (by show some ((g.2.1.map _).all id) = _; rw [List.all_map]; rfl) ?_
  have an : (g.2.1.any fun s => decide (count ≤ s)) = !(g.2.1.all fun s => decide (s < count)) := by
    rw [List.any_eq_not_all_not]
    congr 2
    funext s
    rw [← decide_not]
    exact decide_eq_decide.mpr Nat.not_le
  rw [an] at h
  cases q3 : g.2.1.all fun s => decide (s < count) with
  | false =>
    rw [q3] at h
    have h : Q (.str (B "line")) .fr := h
    exact i_pos rfl <| s_Ret <| w_cst ⟨nofun, rfl, h⟩
  | true =>
    rw [q3] at h
    have h : Q (.str (fauW (if g.2.2 < 1 ∨ 60 < g.2.2 then some 3 else none))) .fr := h
    refine i_neg (by decide) <| s_nil <| s_Ret <| w_sub <| wp_lstc _ _ [.str (B ""), .str (B "delay")] _ (by decide) <| w_bi <| w_cons <| w_bop <| w_b <| w_cmp <| w_t2 rfl <| w_cst <| nd (lt_int ..) <| nd (r := decide ((g.2.2 : Int) < 1)) rfl ?_
    by_cases q4 : (g.2.2 : Int) < 1
    · rw [decide_eq_true q4]
      rw [if_pos (.inl (by (first | lia | omega)))] at h
      refine i_neg nofun <| w_nil ?_
      rw [hi]
      exact nd (r := (.int 1, .fr)) rfl <| nd (sub_lst _ 1 _ rfl) ⟨nofun, rfl, h⟩
    · rw [decide_eq_false q4]
      refine i_pos rfl <| w_b1 <| w_cmp <| w_t2 rfl <| w_cst <| nd (gt_int ..) <| w_nil ?_
      rw [hi]
      by_cases q5 : 60 < (g.2.2 : Int)
      · rw [decide_eq_true q5]
        rw [if_pos (.inr (by (first | lia | omega)))] at h
        exact nd (r := (.int 1, .fr)) rfl <| nd (sub_lst _ 1 _ rfl) ⟨nofun, rfl, h⟩
      · rw [decide_eq_false q5]
        rw [if_neg (by (first | lia | omega))] at h
        exact nd (r := (.int 0, .fr)) rfl <| nd (sub_lst _ 0 _ rfl) ⟨nofun, rfl, h⟩
theorem fault_loop (b : Bas t) (ha : ∀ vs, t.lbis (B "all") vs = allB vs) (hi : ∀ vs, t.bis (B "int") vs = intB vs) (g : Raw) (count : Nat) (hz : g.2.1.length ≤ 1000000) (N K : Rho → Prop) (Q : AV → Md → Prop) (X : Rho → Str → Prop) (h : Q (.str (fauW (fauO count g))) .fr) :
    ∀ (ks : List Nat) (s : Slot), (∀ k ∈ ks, k < 9) → (∀ i, kidx (txt g.1) = some i → ∃ k ∈ ks, pmL.getD k 0 = i) → (kidx (txt g.1) = none → ∀ s, N [some (wAV g, .sh), some (.int (count : Int), .sh), s, none, none]) →
    loopF 2 .fr (fun ρ' kk => wpSs t faultI ρ' kk K Q X) (nAV ks) [some (wAV g, .sh), some (.int (count : Int), .sh), s, none, none] N
  | [], s, _, ho, hN => by
    refine hN ?_ s
    cases q : kidx (txt g.1) with
    | none => rfl
    | some i =>
      obtain ⟨k, hk, _⟩ := ho i q
      cases hk
  | k :: ks, s, hk, ho, hN => by
    have k9 := hk k (.head _)
    obtain ⟨p1, _⟩ := pm_tab k k9
    have e0 : subs (.lst (kdL.map .str)) (.int (k : Int)) = some (.str (B (kindS.getD (pmL.getD k 0) ""))) := sub_lst _ _ _ (by rw [List.getElem?_map, kd_tab k k9]; rfl)
    have ee : cmpop .Eq (.str (txt g.1)) (.str (B (kindS.getD (pmL.getD k 0) ""))) = some (decide (kidx (txt g.1) = some (pmL.getD k 0))) := congrArg some (kidx_iff p1)
    refine s_Ite <| t_cmp <| w_t0 rfl <| w_sub <| wp_lstc _ _ (kdL.map .str) _ (by decide) <| w_var rfl <| nd e0 <| nd ee ?_
    by_cases q : kidx (txt g.1) = some (pmL.getD k 0)
    · exact i_pos (decide_eq_true q) <| fauR_wp b ha hi g count k k9 q hz _ _ _ Q X h
    · refine i_neg (by rw [decide_eq_false q]; decide) <| s_nil <| s_nil <| fault_loop b ha hi g count hz N K Q X h ks _ (fun z w => hk z (.tail _ w)) (fun i e => ?_) hN
      obtain ⟨z, hz, ez⟩ := ho i e
      rcases List.mem_cons.mp hz with w | w
      · rw [w] at ez; rw [ez] at q; exact absurd e q
      · exact ⟨z, w, ez⟩
theorem fault_wp (b : Bas t) (ha : ∀ vs, t.lbis (B "all") vs = allB vs) (hi : ∀ vs, t.bis (B "int") vs = intB vs) (g : Raw) (count : Nat) (hz : g.2.1.length ≤ 1000000) (N : Rho → Prop) (Q : AV → Md → Prop) (X : Rho → Str → Prop) (h : Q (.str (fauW (fauO count g))) .fr) : wpSs t ms_fault (rho0 5 [wAV g, .int (count : Int)]) N (fun _ => False) Q X := by
  refine s_For b.loops <| w_bi <| w_cons <| w_cst <| w_nil <| (b.range _ _ _ (by decide)).mpr ⟨nofun, nd (rng_items0 9) ⟨rng_top (by decide), ?_⟩⟩
  refine fault_loop b ha hi g count hz _ _ Q X h (List.range 9) none (fun k hk => List.mem_range.mp hk) (fun i e => pm_on i (kidx_some e).1) fun e s => ?_
  have h : Q (.str (B "kind")) .fr := by unfold fauO at h; rw [e] at h; exact h
  exact s_Ret <| w_cst ⟨nofun, rfl, h⟩
noncomputable def CFault (t : Th) : Prop := ∀ (g : Raw) (count : Nat) (Q : AV → Md → Prop) (X : Str → Prop), g.2.1.length ≤ 1000000 → Q (.str (fauW (fauO count g))) .fr → t.call (B "_law_fault") [wAV g, .int (count : Int)] Q X
noncomputable def verO (text : List Nat) : Option (Str × Str) := match textO text with
  | none => some (B "NoText", B "text")
  | some p => dueO p.1 p.2
noncomputable def verW (text : List Nat) : Str := match verO text with
  | some p => p.2
  | none => B ""
noncomputable def dueI : List MS := [(.ite (.cmp .NotEq (.call (B "_law_fault") [(.var 2), (.bin .Add (.sub (.var 1) (.cst (.int 0))) (.bi (B "len") [(.sub (.var 1) (.cst (.int 1)))]))]) (.cst (.str (B "")))) [(.ret (.call (B "_law_fault") [(.var 2), (.bin .Add (.sub (.var 1) (.cst (.int 0))) (.bi (B "len") [(.sub (.var 1) (.cst (.int 1)))]))]))] [])]
noncomputable def ms_due : List MS :=
  [(.asg 1 (.call (B "_law_parsed") [(.var 0)])),
   (.ite (.cmp .Is (.var 1) (.cst .none)) [(.ret (.cst (.str (B "text"))))] []),
   (.ite (.bop false [(.cmp .Gt (.sub (.var 1) (.cst (.int 0))) (.cst (.int 60))), (.cmp .Gt (.bi (B "len") [(.sub (.var 1) (.cst (.int 1)))]) (.cst (.int 200)))]) [(.ret (.cst (.str (B "size"))))] []),
   (.for 2 (.sub (.var 1) (.cst (.int 1))) dueI),
   (.ret (.cst (.str (B ""))))]
noncomputable def CParsed (t : Th) : Prop := ∀ (text : List Nat) (Q : AV → Md → Prop) (X : Str → Prop), text.length ≤ 900000 → Q (poV (textO text)) .fr → t.call (B "_law_parsed") [tV text] Q X
theorem dueW_ne : ∀ w, w < 4 → (dueW.getD w (B "") == B "") = false := by decide +kernel
theorem due_loop14 (b : Bas t) (hf : CFault t) (m : Nat) (all : List Raw) (hl : ∀ g ∈ all, g.2.1.length ≤ 1000000) (s0 : Slot) (m1 : Sm) (N K : Rho → Prop) (Q : AV → Md → Prop) (X : Rho → Str → Prop) : ∀ (gs : List Raw) (s : Slot) (mm : Sm), (∀ g ∈ gs, g ∈ all) →
    (∀ w, gs.findSome? (fauO (m + all.length)) = some w → Q (.str (dueW.getD w (B ""))) .fr) → (gs.findSome? (fauO (m + all.length)) = none → ∀ s, N [s0, some (qAV m all, m1), s]) →
    loopF 2 mm (fun ρ' kk => wpSs t dueI ρ' kk K Q X) (gs.map wAV) [s0, some (qAV m all, m1), s] N
  | [], s, _, _, _, h => h rfl s
  | g :: gs, s, mm, hm, h1, h2 => by
    have la : (all.map wAV).length = all.length := List.length_map ..
    have ad : binop .Add (.int (m : Int)) (.int (all.length : Int)) = some (.int ((m + all.length : Nat) : Int)) := add_int ..
    rw [List.findSome?_cons] at h1 h2
    refine s_Ite <| t_cmp <| w_call <| w_cv rfl <| w_cons <| w_bin <| w_t0 rfl <| w_len1 b.toBas0 rfl ?_
    rw [la]
    refine nd ad <| w_nil <| hf g _ _ _ (hl g (hm g (.head _))) <| w_cst ?_
    cases q : fauO (m + all.length) g with
    | none =>
      rw [q] at h1 h2
      exact nd (r := false) (by decide +kernel) <| i_neg (by decide) <| s_nil <| s_nil <| due_loop14 b hf m all hl s0 m1 N K Q X gs _ _ (fun z hz => hm z (.tail _ hz)) h1 h2
    | some w =>
      rw [q] at h1
      have w4 := (gb_of q).2
      refine nd (r := true) (by show some (!(dueW.getD w (B "") == B "")) = _; rw [dueW_ne w w4]; rfl) <| i_pos rfl <| s_Ret <| w_call <| w_cv rfl <| w_cons <| w_bin <| w_t0 rfl <| w_len1 b.toBas0 rfl ?_
      rw [la]
      refine nd ad <| w_nil <| hf g _ _ _ (hl g (hm g (.head _))) ?_
      rw [q]
      exact ⟨nofun, rfl, h1 w rfl⟩
end
end LP
end Mine

namespace Mine
open PySem
namespace LP
theorem gate_len {row : List Nat} {g : Raw} (h : gateO row = some g) : g.2.1.length ≤ row.length + 1 := by
  obtain ⟨_, c2⟩ := cutC_len (c := 32) row
  unfold gateO wordsO at h
  split at h
  · cases h
  · obtain ⟨ss, h1, h2⟩ := Option.bind_eq_some_iff.mp h
    obtain ⟨d, _, rfl⟩ := Option.map_eq_some_iff.mp h2
    have := mapN_len h1
    rw [List.length_take, List.length_drop] at this
    show ss.length ≤ _
    (first | lia | omega)
theorem mapN_mem {α β : Type} {f : α → Option β} : ∀ {l : List α} {r : List β}, mapN f l = some r → ∀ y ∈ r, ∃ x ∈ l, f x = some y
  | [], r, h, y, hy => by cases h; cases hy
  | x :: l, r, h, y, hy => by
    obtain ⟨z, h1, h2⟩ := Option.bind_eq_some_iff.mp h
    obtain ⟨zs, h3, rfl⟩ := Option.map_eq_some_iff.mp h2
    rcases List.mem_cons.mp hy with rfl | hy
    · exact ⟨x, .head _, h1⟩
    · obtain ⟨w, hw, e⟩ := mapN_mem h3 y hy
      exact ⟨w, .tail _ hw, e⟩
theorem text_len {text : List Nat} {m : Nat} {gs : List Raw} (h : textO text = some (m, gs)) : gs.length ≤ text.length ∧ ∀ g ∈ gs, g.2.1.length ≤ text.length + 1 := by
  obtain ⟨c1, c2⟩ := cutC_len (c := 10) text
  unfold textO rowsO at h
  obtain ⟨m', _, h1⟩ := Option.bind_eq_some_iff.mp h
  obtain ⟨gs', h2, e⟩ := Option.map_eq_some_iff.mp h1
  cases e
  refine ⟨by have := mapN_len h2; rw [List.length_tail] at this; (first | lia | omega), fun g hg => ?_⟩
  obtain ⟨row, hr, e⟩ := mapN_mem h2 g hg
  have := gate_len e
  have := c1 row (List.mem_of_mem_tail hr)
  (first | lia | omega)
theorem due_cls {m : Nat} {gs : List Raw} {c w : Str} (h : dueO m gs = some (c, w)) : (c, w) ∈ clsW ∧ (w == B "") = false ∧ subT own11 c (B "SignalError") = some true := by
  have k : ∀ y, y < 4 → (faults.getD y (B ""), dueW.getD y (B "")) ∈ clsW ∧ (dueW.getD y (B "") == B "") = false ∧ subT own11 (faults.getD y (B "")) (B "SignalError") = some true := by decide +kernel
  unfold dueO at h
  split at h
  · cases h; decide +kernel
  · obtain ⟨y, h1, h2⟩ := Option.map_eq_some_iff.mp h
    obtain ⟨g, _, e⟩ := List.exists_of_findSome?_eq_some h1
    cases h2
    exact k y (gb_of e).2
theorem ver_cls {text : List Nat} {c w : Str} (h : verO text = some (c, w)) : (c, w) ∈ clsW ∧ (w == B "") = false ∧ subT own11 c (B "SignalError") = some true := by
  unfold verO at h
  split at h
  · cases h; decide +kernel
  · exact due_cls h
section
variable {t : Th}
theorem due_wp (b : Bas t) (hp : CParsed t) (hf : CFault t) (text : List Nat) (hz : text.length ≤ 900000) (N : Rho → Prop) (Q : AV → Md → Prop) (X : Rho → Str → Prop) (h : Q (.str (verW text)) .fr) : wpSs t ms_due (rho0 3 [tV text]) N (fun _ => False) Q X := by
  have tt : top = 16777216 := rfl
  refine s_Asg <| w_1v rfl <| hp text _ _ hz ⟨nofun, ?_⟩
  unfold verW verO at h
  cases q : textO text with
  | none =>
    rw [q] at h
    exact s_Ite <| t_cvc rfl <| nd (r := true) rfl <| i_pos rfl <| s_Ret <| w_cst ⟨nofun, rfl, h⟩
  | some p =>
    obtain ⟨m, gs⟩ := p
    rw [q] at h
    obtain ⟨g1, g2⟩ := text_len q
    have la : (gs.map wAV).length = gs.length := List.length_map ..
    have h : Q (.str (match dueO m gs with | some p => p.2 | none => B "")) .fr := h
    unfold dueO at h
    refine s_Ite <| t_cvc rfl <| nd (r := false) rfl <| i_neg (by decide) <| s_nil <| s_Ite <| t_bop <| t_cons <| t_cmp <| w_t0 rfl <| w_cst <| nd (gt_int ..) ?_
    by_cases q1 : 60 < m
    · rw [if_pos (.inl q1)] at h
      exact i_neg (by rw [decide_eq_true (show (60 : Int) < (m : Int) by (first | lia | omega))]; decide) <| i_pos rfl <| s_Ret <| w_cst ⟨nofun, rfl, h⟩
    refine i_pos (decide_eq_false (show ¬ (60 : Int) < (m : Int) by (first | lia | omega))) <| t_cons <| t_cmp <| w_len1 b.toBas0 rfl <| w_cst <| nd (gt_int ..) ?_
    rw [la]
    by_cases q2 : 200 < gs.length
    · rw [if_pos (.inr q2)] at h
      exact i_neg (by rw [decide_eq_true (show (200 : Int) < (gs.length : Int) by (first | lia | omega))]; decide) <| i_pos rfl <| s_Ret <| w_cst ⟨nofun, rfl, h⟩
    rw [if_neg (by (first | lia | omega))] at h
    refine i_pos (decide_eq_false (show ¬ (200 : Int) < (gs.length : Int) by (first | lia | omega))) <| t_nil <| i_neg (by decide) <| s_nil <| s_For b.loops <| w_t1 rfl ⟨nofun, nd (r := gs.map wAV) rfl ⟨by rw [la]; (first | lia | omega), ?_⟩⟩
    refine due_loop14 b hf m gs (fun g hg => Nat.le_trans (g2 g hg) (by (first | lia | omega))) _ _ _ _ Q X gs none _ (fun _ z => z) (fun w e => ?_) fun e s => ?_
    · rw [e] at h; exact h
    · rw [e] at h
      exact s_Ret <| w_cst ⟨nofun, rfl, h⟩
noncomputable def CRead (t : Th) : Prop := ∀ (text : List Nat) (Q : AV → Md → Prop) (X : Str → Prop), text.length ≤ 900000 → (∀ c w, verO text = some (c, w) → X c) → (∀ m gs, textO text = some (m, gs) → dueO m gs = none → Q (qAV m gs) .fr) → t.call (B "read") [tV text] Q X
noncomputable def ms_refused14 : List MS :=
  [(.tri [(.ex (.call (B "read") [(.var 0)]))] [((B "SignalError"), some 2, [(.ret (.cmp .Eq (.call (B "_law_class") [(.var 2)]) (.var 1)))])]),
   (.ret (.cst (.bool false)))]
theorem refused14_wp (hr : CRead t) (hs : t.sub = subT own11) (hc : ∀ (c w : Str) (Q : AV → Md → Prop) (X : Str → Prop), (c, w) ∈ clsW → Q (.str w) .fr → t.inH.call (B "_law_class") [.exc c] Q X) (text : List Nat) (hz : text.length ≤ 900000) (c w : Str) (hv : verO text = some (c, w)) (N : Rho → Prop) (Q : AV → Md → Prop) (X : Rho → Str → Prop) (h : Q (.bool true) .fr) : wpSs t ms_refused14 (rho0 3 [tV text, .str w]) N (fun _ => False) Q X := by
  obtain ⟨k1, _, k3⟩ := ver_cls hv
  refine s_cons <| s_tri <| s_Ex <| w_1v rfl <| hr text _ _ hz (fun c' w' e => ?_) fun m gs e1 e2 => ?_
  · rw [hv] at e
    cases e
    refine h_as (by rw [hs]; exact k3) <| s_Ret <| w_cmp <| w_1v rfl <| hc c w _ _ k1 <| w_var rfl <| nd (r := true) (by show some (w == w) = _; rw [beq_self_eq_true]) ⟨nofun, rfl, h⟩
  · unfold verO at hv
    rw [e1] at hv
    have hv : dueO m gs = some (c, w) := hv
    rw [e2] at hv; cases hv
noncomputable def ms_judged : List MS :=
  [(.asg 1 (.call (B "_law_due") [(.var 0)])),
   (.ite (.cmp .NotEq (.var 1) (.cst (.str (B "")))) [(.ret (.call (B "_law_refused") [(.var 0), (.var 1)]))] []),
   (.ret (.call (B "_law_same_plan") [(.call (B "read") [(.var 0)]), (.call (B "_law_parsed") [(.var 0)])]))]
theorem judged_wp (hd : ∀ (text : List Nat) (Q : AV → Md → Prop) (X : Str → Prop), text.length ≤ 900000 → Q (.str (verW text)) .fr → t.call (B "_law_due") [tV text] Q X) (hr : CRead t) (hp : CParsed t)
    (hf : ∀ (text : List Nat) (c w : Str) (Q : AV → Md → Prop) (X : Str → Prop), text.length ≤ 900000 → verO text = some (c, w) → Q (.bool true) .fr → t.call (B "_law_refused") [tV text, .str w] Q X)
    (hs : ∀ (many : Nat) (gs : List Gte) (Q : AV → Md → Prop) (X : Str → Prop), Valid many gs → Q (.bool true) .fr → t.call (B "_law_same_plan") [pAV many gs, pAV many gs] Q X) (text : List Nat) (hz : text.length ≤ 900000) (N : Rho → Prop) (Q : AV → Md → Prop) (X : Rho → Str → Prop) (h : Q (.bool true) .fr) : wpSs t ms_judged (rho0 2 [tV text]) N (fun _ => False) Q X := by
  refine s_Asg <| w_1v rfl <| hd text _ _ hz ⟨nofun, ?_⟩
  unfold verW
  cases q : verO text with
  | some p =>
    obtain ⟨c, w⟩ := p
    obtain ⟨_, k2, _⟩ := ver_cls q
    exact s_Ite <| t_cvc rfl <| nd (r := true) (by show some (!(w == B "")) = _; rw [k2]; rfl) <| i_pos rfl <| s_Ret <| w_2vv rfl rfl <| hf text c w _ _ hz q ⟨nofun, rfl, h⟩
  | none =>
    refine s_Ite <| t_cvc rfl <| nd (r := false) (by decide +kernel) <| i_neg (by decide) <| s_nil <| s_Ret <| w_two <| w_1v rfl <| hr text _ _ hz (fun c w e => by rw [q] at e; cases e) fun m gs e1 e2 => w_1v rfl <| hp text _ _ hz ?_
    rw [e1]
    obtain ⟨gs', e3, va⟩ := due_none e2
    show t.call _ [qAV m gs, qAV m gs] _ _
    rw [e3]
    exact hs m gs' _ _ va ⟨nofun, rfl, h⟩
theorem readO_wp (b : Bas t) (hn : CNumO t) (hg : CGateO t) (hc : CChecked t) (hcn : CCheckedN t) (text : List Nat) (hz : text.length ≤ 900000) (N : Rho → Prop) (Q : AV → Md → Prop) (X : Rho → Str → Prop)
    (h0 : ∀ c w, verO text = some (c, w) → ∀ ρ, X ρ c) (h2 : ∀ m gs, textO text = some (m, gs) → dueO m gs = none → Q (qAV m gs) .fr) : wpSs t ms_read (rho0 4 [tV text]) N (fun _ => False) Q X := by
  refine read_wp b hn hg hc hcn text hz N Q X (fun e => ?_) (fun m gs c w e1 e2 => ?_) h2
  · exact h0 (B "NoText") (B "text") (by unfold verO; rw [e])
  · exact h0 c w (by unfold verO; rw [e1]; exact e2)
end
end LP
end Mine

namespace Mine
open PySem
namespace LP
noncomputable def kL (i : Nat) : List Nat := sgs (B (kindS.getD i ""))
theorem kL_ok : ∀ i, i < 9 → kL i ≠ [] ∧ (kL i).all isL = true ∧ (kL i).length ≤ 6 ∧ kidx (txt (kL i)) = some i := by decide +kernel
noncomputable def rowG (g : Gte) : List Nat := rowL (kL g.kind) g.src g.dly
noncomputable def rawG (g : Gte) : Raw := (kL g.kind, g.src, g.dly)
noncomputable def hdL (m : Nat) : List Nat := in3 ++ numL m
noncomputable def rowsL (m : Nat) (gs : List Gte) : List (List Nat) := hdL m :: gs.map rowG
theorem num3 {n : Nat} (h : n < 1000) : (numL n).length ≤ 3 := (numL_all n).2.2.2.2 2 h
theorem glue_sp (p : List Nat) : ∀ ps : List (List Nat), glue [32] (p :: ps) = p ++ (ps.map fun q => 32 :: q).flatten
  | [] => (List.append_nil _).symm
  | q :: ps => by
    rw [glue_cons, glue_sp q ps, List.map_cons, List.flatten_cons, List.append_assoc]; rfl
theorem rowG_eq (g : Gte) : rowG g = kL g.kind ++ (g.src.map fun s => 32 :: numL s).flatten ++ [32, 98, 121, 32] ++ numL g.dly := by
  unfold rowG rowL
  rw [List.cons_append, glue_sp, List.map_append, List.flatten_append, List.map_map]
  show _ ++ (_ ++ (32 :: byL ++ (32 :: numL g.dly ++ []))) = _
  rw [List.append_nil, List.append_assoc, List.append_assoc]; rfl
theorem flat_len (ss : List Nat) (h : ∀ s ∈ ss, s < 1000) : (ss.map fun s => 32 :: numL s).flatten.length ≤ 4 * ss.length := by
  induction ss with
  | nil => exact Nat.le_refl _
  | cons s ss ih =>
    have a := num3 (h s (.head _))
    have c := ih fun z hz => h z (.tail _ hz)
    rw [List.map_cons, List.flatten_cons, List.length_append, List.length_cons, List.length_cons]
    (first | lia | omega)
structure GT14 (g : Gte) : Prop where
  kind : g.kind < 9
  few : g.src.length ≤ 9
  src : ∀ s ∈ g.src, s < 1000
  dly : g.dly ≤ 60
theorem Valid.g14 {m : Nat} {gs : List Gte} (ok : Valid m gs) {g : Gte} (hg : g ∈ gs) : GT14 g := by
  have o := ok.ok g hg
  have a := ok.few
  have c := ok.len
  exact ⟨o.kind, (fit_le o.kind o.fit).2.2, fun s hs => by have := o.src s hs; (first | lia | omega), o.hi⟩
theorem rowG_len {g : Gte} (h : GT14 g) : (rowG g).length ≤ 50 := by
  rw [rowG_eq]
  have a := flat_len g.src h.src
  have c := (kL_ok g.kind h.kind).2.2.1
  have d := num3 (show g.dly < 1000 from Nat.lt_of_le_of_lt h.dly (by decide))
  have e := h.few
  rw [List.length_append, List.length_append, List.length_append]
  show _ + _ + 4 + _ ≤ 50
  (first | lia | omega)
theorem rowG_ok {g : Gte} (h : GT14 g) : gateO (rowG g) = some (rawG g) := by
  obtain ⟨a, c, _, _⟩ := kL_ok g.kind h.kind
  exact row_ok a c (fun s hs => Nat.lt_trans (h.src s hs) (by decide)) (Nat.lt_of_le_of_lt h.dly (by decide))
theorem rowG_nl {g : Gte} (h : GT14 g) : 10 ∉ rowG g := by
  obtain ⟨_, c, _, _⟩ := kL_ok g.kind h.kind
  rw [rowG_eq]
  intro z
  rcases List.mem_append.mp z with z | z
  · rcases List.mem_append.mp z with z | z
    · rcases List.mem_append.mp z with z | z
      · exact absurd (List.all_eq_true.mp c 10 z) (by decide)
      · obtain ⟨l, hl, hz⟩ := List.mem_flatten.mp z
        obtain ⟨s, _, rfl⟩ := List.mem_map.mp hl
        rcases List.mem_cons.mp hz with e | e
        · cases e
        · exact numL_no (by decide) e
    · revert z; decide
  · exact numL_no (by decide) z
theorem hdL_ok {m : Nat} (h : m < 1000000000) : headO (hdL m) = some m := by
  have e1 : (hdL m).take 3 = in3 := by unfold hdL; exact List.take_left' (by decide)
  have e2 : (hdL m).drop 3 = numL m := by unfold hdL; exact List.drop_left' (by decide)
  have e3 : numO ((hdL m).drop 3) = some m := by rw [e2]; exact num_ok h
  exact (head_eq (hdL m)).trans ((if_pos e1).trans e3)
theorem hdL_nl (m : Nat) : 10 ∉ hdL m := fun z => by
  rcases List.mem_append.mp z with z | z
  · revert z; decide
  · exact numL_no (by decide) z
noncomputable def CStr (t : Th) : Prop := ∀ vs, t.bis (B "str") vs = strB vs
theorem str_lt {n : Nat} (h : n < 1000) : (n : Int) < 100000 := by (first | lia | omega)
theorem str_I (i : Int) (m : Md) (a : 0 ≤ i) (c : i < 100000) : strB [(.int i, m)] = some (.str (numT i), .fr) := if_pos ⟨a, c⟩
theorem str_V (n : Nat) (m : Md) (h : n < 1000) : strB [(.int (n : Int), m)] = some (tV (numL n), .fr) :=
  (str_I _ _ (Int.natCast_nonneg n) (str_lt h)).trans (congrArg (fun x => some (AV.str x, Md.fr)) (numT_L n))
theorem add_txt (a c : List Nat) (h : a.length + c.length ≤ 1000000) : binop .Add (tV a) (tV c) = some (tV (a ++ c)) := by
  have tt : top = 16777216 := rfl
  show (if (txt a).length + (txt c).length ≤ top then some (AV.str (txt a ++ txt c)) else none) = _
  rw [txt_app]
  exact if_pos (show a.length + c.length ≤ top by (first | lia | omega))
noncomputable def texI : List MS := [(.asg 3 (.bin .Add (.bin .Add (.var 3) (.cst (.str (B " ")))) (.bi (B "str") [(.var 4)])))]
noncomputable def texO : List MS := [(.asg 3 (.sub (.var 2) (.cst (.int 0)))), (.for 4 (.sub (.var 2) (.cst (.int 1))) texI), (.app 1 (.bin .Add (.bin .Add (.var 3) (.cst (.str (B " by ")))) (.bi (B "str") [(.sub (.var 2) (.cst (.int 2)))])))]
noncomputable def ms_text_of : List MS :=
  [(.asm 1 (.lst [(.bin .Add (.cst (.str (B "in "))) (.bi (B "str") [(.sub (.var 0) (.cst (.int 0)))]))])),
   (.for 2 (.sub (.var 0) (.cst (.int 1))) texO),
   (.retm 1)]
section
variable {t : Th}
theorem tex_src (hs : CStr t) (s0 s1 s2 : Slot) (m4 : Sm) (N K : Rho → Prop) (R : AV → Md → Prop) (X : Rho → Str → Prop) : ∀ (ss row : List Nat) (v : Slot) (m : Sm), slotMd m ≠ .bo → (∀ s ∈ ss, s < 1000) → row.length + 4 * ss.length ≤ 1000 → (∀ v m, slotMd m ≠ .bo → N [s0, s1, s2, some (tV (row ++ (ss.map fun s => 32 :: numL s).flatten), m), v]) →
    loopF 4 m4 (fun ρ' k => wpSs t texI ρ' k K R X) (nAV ss) [s0, s1, s2, some (tV row, m), v] N
  | [], row, v, m, hm, _, _, h => by
    have := h v m hm
    rwa [List.map_nil, List.flatten_nil, List.append_nil] at this
  | s :: ss, row, v, m, hm, hb, hz, h => by
    have a := num3 (hb s (.head _))
    rw [List.length_cons] at hz
    have l2 : B " " = txt [32] := lits.2.2.1
    have e1 : binop .Add (tV row) (.str (B " ")) = some (tV (row ++ [32])) := by rw [l2]; exact add_txt _ _ (by show _ + 1 ≤ _; (first | lia | omega))
    have e2 : binop .Add (tV (row ++ [32])) (tV (numL s)) = some (tV (row ++ [32] ++ numL s)) := add_txt _ _ (by rw [List.length_append, List.length_singleton]; (first | lia | omega))
    refine s_Asg <| w_bin <| w_bvc rfl <| nd e1 <| w_bi <| w_vn rfl ?_
    rw [hs]
    refine nd (str_V s _ (hb s (.head _))) <| nd e2 ⟨nofun, s_nil <| tex_src hs s0 s1 s2 m4 N K R X ss (row ++ [32] ++ numL s) _ _ nofun (fun z w => hb z (.tail _ w)) (by rw [List.length_append, List.length_append, List.length_singleton]; (first | lia | omega)) fun v m hm => ?_⟩
    have := h v m hm
    rw [List.map_cons, List.flatten_cons] at this
    rw [List.append_assoc, List.append_assoc]
    rw [show [32] ++ (numL s ++ (ss.map fun s => 32 :: numL s).flatten) = 32 :: numL s ++ (ss.map fun s => 32 :: numL s).flatten from rfl]
    exact this
theorem tex_loop (b : Bas t) (hs : CStr t) (s0 : Slot) (N K : Rho → Prop) (R : AV → Md → Prop) (X : Rho → Str → Prop) : ∀ (gs : List Gte) (rows : List (List Nat)) (v2 v3 v4 : Slot), (∀ g ∈ gs, GT14 g) → rows.length + gs.length ≤ 1000 → (∀ v2 v3 v4, N [s0, some (.lst (tVs (rows ++ gs.map rowG)), .mu), v2, v3, v4]) →
    loopF 2 .sh (fun ρ' k => wpSs t texO ρ' k K R X) (gs.map gAV) [s0, some (.lst (tVs rows), .mu), v2, v3, v4] N
  | [], rows, v2, v3, v4, _, _, h => by
    have := h v2 v3 v4
    rwa [List.map_nil, List.append_nil] at this
  | g :: gs, rows, v2, v3, v4, hg, hz, h => by
    have g1 := hg g (.head _)
    rw [List.length_cons] at hz
    have tt : top = 16777216 := rfl
    have l7 : B " by " = txt [32, 98, 121, 32] := lits.2.2.2.2.2.2.2.1
    have kl := (kL_ok g.kind g1.kind).2.2.1
    have fl := flat_len g.src g1.src
    have f9 := g1.few
    have d3 := num3 (show g.dly < 1000 from Nat.lt_of_le_of_lt g1.dly (by decide))
    refine s_Asg <| w_t0 rfl ⟨nofun, s_For b.loops <| w_t1 rfl ⟨nofun, nd (r := nAV g.src) rfl ⟨nAV_top (le_of9 f9), ?_⟩⟩⟩
    refine tex_src hs _ _ _ _ _ _ _ X g.src (kL g.kind) v4 _ nofun g1.src (by (first | lia | omega)) fun v m hm => ?_
    have e1 : binop .Add (tV (kL g.kind ++ (g.src.map fun s => 32 :: numL s).flatten)) (.str (B " by ")) = some (tV (kL g.kind ++ (g.src.map fun s => 32 :: numL s).flatten ++ [32, 98, 121, 32])) := by rw [l7]; exact add_txt _ _ (by rw [List.length_append]; show _ + 4 ≤ _; (first | lia | omega))
    have e2 : binop .Add (tV (kL g.kind ++ (g.src.map fun s => 32 :: numL s).flatten ++ [32, 98, 121, 32])) (tV (numL g.dly)) = some (tV (rowG g)) := by rw [rowG_eq]; exact add_txt _ _ (by rw [List.length_append, List.length_append]; show _ + 4 + _ ≤ _; (first | lia | omega))
    refine s_App rfl <| w_bin <| w_bvc rfl <| nd e1 <| w_bi <| w_cons <| w_t2 rfl <| w_nil ?_
    rw [hs]
    refine nd (str_V g.dly _ (Nat.lt_of_le_of_lt g1.dly (by decide))) <| nd e2 ⟨nofun, rfl, by rw [List.length_map]; (first | lia | omega), ?_⟩
    show wpSs t [] [s0, some (.lst (tVs rows ++ [tV (rowG g)]), .mu), _, _, _] _ _ _ _
    rw [show tVs rows ++ [tV (rowG g)] = tVs (rows ++ [rowG g]) by show _ = (rows ++ [rowG g]).map tV; rw [List.map_append]; rfl]
    refine s_nil <| tex_loop b hs s0 N K R X gs (rows ++ [rowG g]) _ _ _ (fun z w => hg z (.tail _ w)) (by rw [List.length_append, List.length_singleton]; (first | lia | omega)) fun v2 v3 v4 => ?_
    have := h v2 v3 v4
    rw [List.map_cons] at this
    rw [List.append_assoc]
    exact this
theorem text_of_wp (b : Bas t) (hs : CStr t) (m : Nat) (gs : List Gte) (ok : Valid m gs) (N : Rho → Prop) (Q : AV → Md → Prop) (X : Rho → Str → Prop) (h : Q (.lst (tVs (rowsL m gs))) .ow) : wpSs t ms_text_of (rho0 5 [pAV m gs]) N (fun _ => False) Q X := by
  have l6 : B "in " = txt in3 := lits.2.2.2.2.2.2.1
  have o1 := ok.few
  have o2 := ok.len
  have m3 := num3 (show m < 1000 by (first | lia | omega))
  have lg : (gs.map gAV).length = gs.length := List.length_map ..
  have tt : top = 16777216 := rfl
  have e1 : binop .Add (.str (B "in ")) (tV (numL m)) = some (tV (hdL m)) := by rw [l6]; exact add_txt _ _ (by show 3 + _ ≤ _; (first | lia | omega))
  refine s_Asm <| w_lst <| w_cons <| w_bin <| w_cst <| w_bi <| w_cons <| w_t0 rfl <| w_nil ?_
  rw [hs]
  refine nd (str_V m _ (by (first | lia | omega))) <| nd e1 <| w_nil ⟨fun p hp => by cases List.mem_singleton.mp hp; nofun, (show 1 ≤ top by decide), rfl, ?_⟩
  refine s_For b.loops <| w_t1 rfl ⟨nofun, nd (r := gs.map gAV) rfl ⟨by rw [lg]; (first | lia | omega), ?_⟩⟩
  exact tex_loop b hs _ _ _ _ X gs [hdL m] none none none (fun g hg => ok.g14 hg) (by show 1 + _ ≤ _; (first | lia | omega)) fun v2 v3 v4 => s_cons <| s_retm rfl h
end
end LP
end Mine

namespace Mine
open PySem
namespace LP
theorem strs_tV : ∀ ws : List (List Nat), strsO (tVs ws) = some (ws.map txt)
  | [] => rfl
  | w :: ws => by
    show (strsO (tVs ws)).map _ = _
    rw [strs_tV ws]; rfl
theorem sum_le (k : Nat) : ∀ ws : List (List Nat), (∀ w ∈ ws, w.length ≤ k) → ((ws.map txt).map (·.length)).sum ≤ k * ws.length
  | [], _ => Nat.zero_le _
  | w :: ws, h => by
    have a := h w (.head _)
    have c := sum_le k ws fun z hz => h z (.tail _ hz)
    rw [List.map_cons, List.map_cons, List.sum_cons, List.length_cons, Nat.mul_succ]
    show w.length + _ ≤ _
    (first | lia | omega)
theorem join_V (s : Nat) (ws : List (List Nat)) (h : ∀ w ∈ ws, w.length ≤ 100) (hl : ws.length ≤ 1000) : mtV 1 (tV [s]) (.lst (tVs ws)) = some (tV (glue [s] ws), .fr) := by
  have a := sum_le 100 ws h
  have tt : top = 16777216 := rfl
  have e : ((ws.map txt).map sgs) = ws := by rw [List.map_map]; exact (List.map_congr_left fun _ _ => rfl).trans (List.map_id ws)
  show (strsO (tVs ws)).bind (fun l => if (l.map (·.length)).sum + l.length * (txt [s]).length ≤ top then some (AV.str (txt (glue [s] (l.map sgs))), Md.fr) else none) = _
  rw [strs_tV]
  show (if ((ws.map txt).map (·.length)).sum + (ws.map txt).length * 1 ≤ top then some (AV.str (txt (glue [s] ((ws.map txt).map sgs))), Md.fr) else none) = _
  rw [e, List.length_map, if_pos (by (first | lia | omega))]
theorem glue_len (s k : Nat) : ∀ ws : List (List Nat), (∀ w ∈ ws, w.length ≤ k) → (glue [s] ws).length ≤ (k + 1) * ws.length
  | [], _ => Nat.zero_le _
  | [w], h => by
    have := h w (.head _)
    show w.length ≤ (k + 1) * 1
    (first | lia | omega)
  | w :: v :: ws, h => by
    have a := h w (.head _)
    have c := glue_len s k (v :: ws) fun z hz => h z (.tail _ hz)
    rw [glue_cons, List.length_append, List.length_append, List.length_singleton, List.length_cons (as := v :: ws), Nat.mul_succ]
    (first | lia | omega)
noncomputable def wriI : List MS := [(.asg 4 (.bin .Add (.bin .Add (.lst [(.sub (.var 3) (.cst (.int 0)))]) (.comp (.bi (B "str") [(.var 5)]) (.sub (.var 3) (.cst (.int 1))) none)) (.lst [(.cst (.str (B "by"))), (.bi (B "str") [(.sub (.var 3) (.cst (.int 2)))])]))), (.app 2 (.mt (.cst (.str (B " "))) 1 (.var 4)))]
noncomputable def ms_written14 : List MS :=
  [(.ex (.call (B "checked") [(.var 0)])),
   (.asg 1 (.sub (.var 0) (.cst (.int 0)))),
   (.asm 2 (.lst [(.mt (.cst (.str (B "in "))) 2 (.var 1))])),
   (.for 3 (.sub (.var 0) (.cst (.int 1))) wriI),
   (.ret (.mt (.cst (.str (B "\n"))) 1 (.var 2)))]
theorem add_lst (a c : List (List Nat)) (h : a.length + c.length ≤ 1000) : binop .Add (.lst (tVs a)) (.lst (tVs c)) = some (.lst (tVs (a ++ c))) := by
  have tt : top = 16777216 := rfl
  have e : tVs a ++ tVs c = tVs (a ++ c) := by show a.map tV ++ c.map tV = (a ++ c).map tV; rw [List.map_append]
  show (if (tVs a).length + (tVs c).length ≤ top then some (AV.lst (tVs a ++ tVs c)) else none) = _
  rw [e]
  exact if_pos (by rw [List.length_map, List.length_map]; (first | lia | omega))
theorem add_bo (a b : AV) (ma mb : Md) (xs : List AV) : binMd .Add a ma b mb (.lst xs) ≠ .bo := by
  show (if (frE ma a && frE mb b) = true then Md.ow else Md.sh) ≠ .bo
  split <;> nofun
theorem fst_I (x : Str) (i : Int) (a : 0 ≤ i) (c : i < 100000) (l : x.length ≤ 1000) : mtV 2 (.str x) (.int i) = some (.str (x ++ numT i), .fr) := if_pos ⟨a, c, l⟩
section
variable {t : Th}
theorem wri_loop (b : Bas t) (hs : CStr t) (s0 s1 : Slot) (N K : Rho → Prop) (R : AV → Md → Prop) (X : Rho → Str → Prop) : ∀ (gs : List Gte) (rows : List (List Nat)) (v3 v4 : Slot), (∀ g ∈ gs, GT14 g) → rows.length + gs.length ≤ 1000 → (∀ v3 v4, N [s0, s1, some (.lst (tVs (rows ++ gs.map rowG)), .mu), v3, v4]) →
    loopF 3 .sh (fun ρ' k => wpSs t wriI ρ' k K R X) (gs.map gAV) [s0, s1, some (.lst (tVs rows), .mu), v3, v4] N
  | [], rows, v3, v4, _, _, h => by
    have := h v3 v4
    rwa [List.map_nil, List.append_nil] at this
  | g :: gs, rows, v3, v4, hg, hz, h => by
    have g1 := hg g (.head _)
    rw [List.length_cons] at hz
    have tt : top = 16777216 := rfl
    obtain ⟨_, _, l2, _, l4, _⟩ := lits
    have kl := (kL_ok g.kind g1.kind).2.2.1
    have f9 := g1.few
    have d3 := num3 (show g.dly < 1000 from Nat.lt_of_le_of_lt g1.dly (by decide))
    refine s_Asg <| w_bin <| w_bin <| w_lst <| w_cons <| w_t0 rfl <| w_nil ⟨fun p hp => by cases List.mem_singleton.mp hp; nofun, (show 1 ≤ top by decide), w_comp b.loops <| w_t1 rfl <| nd (r := nAV g.src) rfl ⟨nAV_top (le_of9 f9), ?_⟩⟩
    refine compL_opt (N := False) (fun (s : Nat) => some (numL s)) (fun s => .int (s : Int)) tV .fr nofun (fun _ => rfl) g.src (fun s hs' k k1 _ => w_bi <| w_vn rfl (by rw [hs]; exact nd (str_V s _ (g1.src s hs')) (k1 _ rfl))) (fun x _ k hk => hk) [] true _ (fun ys e => ?_) fun e => by rw [mapN_some] at e; cases e
    rw [mapN_some] at e
    cases e
    rw [List.nil_append]
    have e1 : binop .Add (.lst [tV (kL g.kind)]) (.lst ((g.src.map numL).map tV)) = some (.lst (tVs (kL g.kind :: g.src.map numL))) := add_lst [kL g.kind] (g.src.map numL) (by rw [List.length_map]; show 1 + _ ≤ _; (first | lia | omega))
    have e2 : binop .Add (.lst (tVs (kL g.kind :: g.src.map numL))) (.lst [.str (B "by"), tV (numL g.dly)]) = some (.lst (tVs (kL g.kind :: g.src.map numL ++ [byL, numL g.dly]))) := by
      rw [l4]; exact add_lst (kL g.kind :: g.src.map numL) [byL, numL g.dly] (by rw [List.length_cons, List.length_map]; show _ + 2 ≤ _; (first | lia | omega))
    refine nd e1 <| w_lst <| w_cons <| w_cst <| w_cons <| w_bi <| w_cons <| w_t2 rfl <| w_nil ?_
    rw [hs]
    refine nd (str_V g.dly _ (Nat.lt_of_le_of_lt g1.dly (by decide))) <| w_nil ⟨mem2 nofun nofun, (show 2 ≤ top by decide), nd e2 ⟨add_bo _ _ _ _ _, ?_⟩⟩
    have ws : ∀ w ∈ (kL g.kind :: g.src.map numL ++ [byL, numL g.dly]), w.length ≤ 100 := fun w hw => by
      rcases List.mem_append.mp hw with z | z
      · rcases List.mem_cons.mp z with rfl | z
        · (first | lia | omega)
        · obtain ⟨s, hs', rfl⟩ := List.mem_map.mp z
          exact Nat.le_trans (num3 (g1.src s hs')) (by decide)
      · rcases List.mem_cons.mp z with rfl | z
        · decide
        · cases List.mem_singleton.mp z; exact Nat.le_trans d3 (by decide)
    have ej : mtV 1 (.str (B " ")) (.lst (tVs (kL g.kind :: g.src.map numL ++ [byL, numL g.dly]))) = some (tV (rowG g), .fr) := by
      rw [l2]; exact join_V 32 _ ws (by rw [List.length_append, List.length_cons, List.length_map]; show _ + 1 + 2 ≤ _; (first | lia | omega))
    refine s_App rfl <| w_mt <| w_cst <| w_var rfl <| nd ej ⟨nofun, rfl, by rw [List.length_map]; (first | lia | omega), ?_⟩
    show wpSs t [] [s0, s1, some (.lst (tVs rows ++ [tV (rowG g)]), .mu), _, _] _ _ _ _
    rw [show tVs rows ++ [tV (rowG g)] = tVs (rows ++ [rowG g]) by show _ = (rows ++ [rowG g]).map tV; rw [List.map_append]; rfl]
    refine s_nil <| wri_loop b hs s0 s1 N K R X gs (rows ++ [rowG g]) _ _ (fun z w => hg z (.tail _ w)) (by rw [List.length_append, List.length_singleton]; (first | lia | omega)) fun v3 v4 => ?_
    have := h v3 v4
    rw [List.map_cons] at this
    rw [List.append_assoc]
    exact this
theorem rowsL_len {m : Nat} {gs : List Gte} (ok : Valid m gs) : (∀ w ∈ rowsL m gs, w.length ≤ 50) ∧ (rowsL m gs).length ≤ 201 := by
  have o1 := ok.few
  have o2 := ok.len
  refine ⟨fun w hw => ?_, by unfold rowsL; rw [List.length_cons, List.length_map]; (first | lia | omega)⟩
  rcases List.mem_cons.mp hw with rfl | z
  · have := num3 (show m < 1000 by (first | lia | omega))
    unfold hdL
    rw [List.length_append]
    show 3 + _ ≤ _
    (first | lia | omega)
  · obtain ⟨g, hg, rfl⟩ := List.mem_map.mp z
    exact rowG_len (ok.g14 hg)
theorem join_nl (ws : List (List Nat)) (h : ∀ w ∈ ws, w.length ≤ 50) (hl : ws.length ≤ 1000) : mtV 1 (.str (B "\n")) (.lst (tVs ws)) = some (tV (glue [10] ws), .fr) := by
  rw [lits.2.2.2.1]; exact join_V 10 ws (fun w hw => Nat.le_trans (h w hw) (by decide)) hl
theorem written14_wp (b : Bas t) (hc : CChecked t) (hs : CStr t) (m : Nat) (gs : List Gte) (ok : Valid m gs) (N : Rho → Prop) (Q : AV → Md → Prop) (X : Rho → Str → Prop) (h : Q (tV (glue [10] (rowsL m gs))) .fr) : wpSs t ms_written14 (rho0 5 [pAV m gs]) N (fun _ => False) Q X := by
  have l6 : B "in " = txt in3 := lits.2.2.2.2.2.2.1
  have o1 := ok.few
  have o2 := ok.len
  have lg : (gs.map gAV).length = gs.length := List.length_map ..
  have tt : top = 16777216 := rfl
  obtain ⟨r1, r2⟩ := rowsL_len ok
  have e1 : mtV 2 (.str (B "in ")) (.int (m : Int)) = some (tV (hdL m), .fr) := by
    rw [l6]
    refine (fst_I _ _ (Int.natCast_nonneg m) (str_lt (by (first | lia | omega))) (by decide)).trans ?_
    rw [numT_L, txt_app]; rfl
  refine s_Ex <| w_1v rfl <| hc _ _ _ _ ok <| s_Asg <| w_t0 rfl ⟨nofun, s_Asm <| w_lst <| w_cons <| w_mt <| w_cst <| w_var rfl <| nd e1 <| w_nil ⟨fun p hp => by cases List.mem_singleton.mp hp; nofun, (show 1 ≤ top by decide), rfl, ?_⟩⟩
  refine s_For b.loops <| w_t1 rfl ⟨nofun, nd (r := gs.map gAV) rfl ⟨by rw [lg]; (first | lia | omega), ?_⟩⟩
  refine wri_loop b hs _ _ _ _ _ X gs [hdL m] none none (fun g hg => ok.g14 hg) (by show 1 + _ ≤ _; (first | lia | omega)) fun v3 v4 => ?_
  exact s_Ret <| w_mt <| w_cst <| w_var rfl <| nd (join_nl (rowsL m gs) r1 (Nat.le_trans r2 (by decide))) ⟨nofun, rfl, h⟩
end
end LP
end Mine

namespace Mine
open PySem
namespace LP
noncomputable def oddH : List Str := [B "", B "in", B "in ", B "in 01", B "In 2", B " in 2", B "in  2", B "in +2", B "in -1", B "in 2 ", B "in 1234567890", B "out 2"]
noncomputable def oddR0 : List Str := [B "", B " ", B "yes", B "yes by", B "yes by ", B "yes  by 1", B "yes by 01", B "yes by 1 ", B " yes by 1", B "YES by 1"]
noncomputable def oddR1 : List Str := [B "y3s by 1", B "keep 0 1", B "keep 00 by 1", B "keep -0 by 1", B "by 1", B "keep 0 by 1234567890"]
noncomputable def oddR2 : List Str := [B "keep 0, by 1", B "keep 0 by 1 by", B "keep 0 by by 1", B "keep 0 BY 1", B "keep\t0 by 1", B "in 2"]
noncomputable def oddR3 : List Str := [B "keep 1234567890 by 1", B "keep x by 1", B " by 1", B "yes by -1", B "yes by 1.0", B "yes by", B "# no"]
noncomputable def oddR4 : List Str := [B "0 by 1", B "y-s by 1", B "y_s by 1", B "y.s by 1", B "keep +1 by 1", B "keep 0  by 1", B "keep 0 by  1"]
noncomputable def oddR : List Str := oddR0 ++ oddR1 ++ oddR2 ++ oddR3 ++ oddR4
noncomputable def wro0 : List (Str × Str) := [(B "and by 1", B "kind"), (B "by by 1", B "kind"), (B "keep by 1", B "sources"), (B "yes 0 by 1", B "sources")]
noncomputable def wro1 : List (Str × Str) := [(B "keep 999999999 by 1", B "line"), (B "yes by 0", B "delay"), (B "no by 61", B "delay")]
noncomputable def wro2 : List (Str × Str) := [(B "in by 999999999", B "kind")]
noncomputable def wro : List (Str × Str) := wro0 ++ wro1 ++ wro2
noncomputable def sgA : Str := B " !\"#$&'()*+,-./0123456789:;<=>?@ABCDEFGHIJKLMNOPQRSTUVWXYZ[\\]^_`"
noncomputable def sgB : Str := B "abcdefghijklmnopqrstuvwxyz{|}~\n\t"
noncomputable def ms_odd_head : List MS :=
  [(.asg 1 (.lst [(.cst (.str (B ""))), (.cst (.str (B "in"))), (.cst (.str (B "in "))), (.cst (.str (B "in 01"))), (.cst (.str (B "In 2"))), (.cst (.str (B " in 2"))), (.cst (.str (B "in  2"))), (.cst (.str (B "in +2"))), (.cst (.str (B "in -1"))), (.cst (.str (B "in 2 "))), (.cst (.str (B "in 1234567890"))), (.cst (.str (B "out 2")))])),
   (.ret (.sub (.var 1) (.bin .Mod (.var 0) (.cst (.int 12)))))]
noncomputable def ms_odd_row : List MS :=
  [(.asg 1 (.lst [(.cst (.str (B ""))), (.cst (.str (B " "))), (.cst (.str (B "yes"))), (.cst (.str (B "yes by"))), (.cst (.str (B "yes by "))), (.cst (.str (B "yes  by 1"))), (.cst (.str (B "yes by 01"))), (.cst (.str (B "yes by 1 "))), (.cst (.str (B " yes by 1"))), (.cst (.str (B "YES by 1")))])),
   (.asg 1 (.bin .Add (.var 1) (.lst [(.cst (.str (B "y3s by 1"))), (.cst (.str (B "keep 0 1"))), (.cst (.str (B "keep 00 by 1"))), (.cst (.str (B "keep -0 by 1"))), (.cst (.str (B "by 1"))), (.cst (.str (B "keep 0 by 1234567890")))]))),
   (.asg 1 (.bin .Add (.var 1) (.lst [(.cst (.str (B "keep 0, by 1"))), (.cst (.str (B "keep 0 by 1 by"))), (.cst (.str (B "keep 0 by by 1"))), (.cst (.str (B "keep 0 BY 1"))), (.cst (.str (B "keep\t0 by 1"))), (.cst (.str (B "in 2")))]))),
   (.asg 1 (.bin .Add (.var 1) (.lst [(.cst (.str (B "keep 1234567890 by 1"))), (.cst (.str (B "keep x by 1"))), (.cst (.str (B " by 1"))), (.cst (.str (B "yes by -1"))), (.cst (.str (B "yes by 1.0"))), (.cst (.str (B "yes by"))), (.cst (.str (B "# no")))]))),
   (.asg 1 (.bin .Add (.var 1) (.lst [(.cst (.str (B "0 by 1"))), (.cst (.str (B "y-s by 1"))), (.cst (.str (B "y_s by 1"))), (.cst (.str (B "y.s by 1"))), (.cst (.str (B "keep +1 by 1"))), (.cst (.str (B "keep 0  by 1"))), (.cst (.str (B "keep 0 by  1")))]))),
   (.ret (.sub (.var 1) (.bin .Mod (.var 0) (.cst (.int 36)))))]
noncomputable def ms_sign_by : List MS :=
  [(.asg 1 (.cst (.str (B " !\"#$&'()*+,-./0123456789:;<=>?@ABCDEFGHIJKLMNOPQRSTUVWXYZ[\\]^_`")))),
   (.asg 1 (.bin .Add (.var 1) (.cst (.str (B "abcdefghijklmnopqrstuvwxyz{|}~\n\t"))))),
   (.ret (.sub (.var 1) (.bin .Mod (.var 0) (.cst (.int 96)))))]
noncomputable def ms_wrong_row : List MS :=
  [(.asg 1 (.lst [(.tup [(.cst (.str (B "and by 1"))), (.cst (.str (B "kind")))]), (.tup [(.cst (.str (B "by by 1"))), (.cst (.str (B "kind")))]), (.tup [(.cst (.str (B "keep by 1"))), (.cst (.str (B "sources")))]), (.tup [(.cst (.str (B "yes 0 by 1"))), (.cst (.str (B "sources")))])])),
   (.asg 1 (.bin .Add (.var 1) (.lst [(.tup [(.cst (.str (B "keep 999999999 by 1"))), (.cst (.str (B "line")))]), (.tup [(.cst (.str (B "yes by 0"))), (.cst (.str (B "delay")))]), (.tup [(.cst (.str (B "no by 61"))), (.cst (.str (B "delay")))])]))),
   (.asg 1 (.bin .Add (.var 1) (.lst [(.tup [(.cst (.str (B "in by 999999999"))), (.cst (.str (B "kind")))])]))),
   (.ret (.sub (.var 1) (.bin .Mod (.var 0) (.cst (.int 8)))))]
noncomputable def rawW : List (Raw × Nat) := [(([97, 110, 100], [], 1), 0), (([98, 121], [], 1), 0), (([107, 101, 101, 112], [], 1), 1), (([121, 101, 115], [0], 1), 1), (([107, 101, 101, 112], [999999999], 1), 2), (([121, 101, 115], [], 0), 3), (([110, 111], [], 61), 3), (([105, 110], [], 999999999), 0)]
theorem odd_h : ∀ x ∈ oddH, headO (sgs x) = none ∧ 10 ∉ sgs x ∧ (sgs x).length ≤ 50 := by decide +kernel
theorem odd_r : ∀ x ∈ oddR, gateO (sgs x) = none ∧ 10 ∉ sgs x ∧ (sgs x).length ≤ 50 := by decide +kernel
theorem wro_g : ∀ i, i < 8 → ∃ g y, gateO (sgs ((wro.getD i (B "", B "")).1)) = some g ∧ dueW.getD y (B "") = (wro.getD i (B "", B "")).2 ∧ rawW[i]? = some (g, y) := by
  intro i hi
  have h : ∀ i : Fin 8, gateO (sgs ((wro.getD i (B "", B "")).1)) = some ((rawW.getD i (([], [], 0), 0)).1) ∧ dueW.getD (rawW.getD i (([], [], 0), 0)).2 (B "") = (wro.getD i (B "", B "")).2 ∧ rawW[i]? = some (rawW.getD i (([], [], 0), 0)) := by decide +kernel
  obtain ⟨a, b, c⟩ := h ⟨i, hi⟩
  exact ⟨_, _, a, b, c⟩
theorem wro_s : ∀ p ∈ wro, 10 ∉ sgs p.1 ∧ (sgs p.1).length ≤ 50 := by decide +kernel
section
variable {t : Th}
theorem fm_nat' (c b : Int) (n : Nat) (hb : b = (n : Int)) (hn : 0 < n) : ∃ k : Nat, c.fmod b = (k : Int) ∧ k < n := by
  subst hb
  have h1 := Int.fmod_nonneg_of_pos c (b := (n : Int)) (by (first | lia | omega))
  have h2 := Int.fmod_lt_of_pos c (b := (n : Int)) (by (first | lia | omega))
  obtain ⟨k, hk⟩ := Int.eq_ofNat_of_zero_le h1
  rw [hk] at h2
  exact ⟨k, hk, Int.ofNat_lt.mp h2⟩
theorem sub_strs (l : List Str) (k : Nat) (h : k < l.length) : subs (.lst (l.map .str)) (.int (k : Int)) = some (.str l[k]) := sub_lst _ _ _ (by rw [List.getElem?_map, List.getElem?_eq_getElem h]; rfl)
theorem add_avs (a c : List AV) (h : a.length + c.length ≤ 1000) : binop .Add (.lst a) (.lst c) = some (.lst (a ++ c)) := by
  have tt : top = 16777216 := rfl
  exact if_pos (by (first | lia | omega))
theorem odd_head_wp (c : Int) (N : Rho → Prop) (Q : AV → Md → Prop) (X : Rho → Str → Prop) (h : ∀ x ∈ oddH, Q (.str x) .fr) : wpSs t ms_odd_head (rho0 2 [.int c]) N (fun _ => False) Q X := by
  obtain ⟨k, e, hk⟩ := fm_nat' c 12 12 rfl (by decide)
  have es := sub_strs oddH k (show k < oddH.length from hk)
  rw [← e] at es
  exact s_Asg <| wp_lstc _ _ (oddH.map .str) _ (by decide) ⟨nofun, s_Ret <| w_sub <| w_var rfl <| w_bvc rfl <| nd (mod_int _ 12 (by decide)) <| nd es ⟨nofun, rfl, h _ (List.getElem_mem _)⟩⟩
theorem el_bo (m : Md) : elMd m ≠ .bo := by unfold elMd; split <;> nofun
theorem el_ow (m : Md) : elMd m ≠ .ow := by unfold elMd; split <;> nofun
theorem odd_row_wp (c : Int) (N : Rho → Prop) (Q : AV → Md → Prop) (X : Rho → Str → Prop) (h : ∀ x ∈ oddR, Q (.str x) .fr) : wpSs t ms_odd_row (rho0 2 [.int c]) N (fun _ => False) Q X := by
  obtain ⟨k, e, hk⟩ := fm_nat' c 36 36 rfl (by decide)
  have es := sub_strs oddR k (show k < oddR.length from hk)
  rw [← e] at es
  refine s_Asg <| wp_lstc _ _ (oddR0.map .str) _ (by decide) ⟨nofun, ?_⟩
  refine s_Asg <| w_bin <| w_var rfl <| wp_lstc _ _ (oddR1.map .str) _ (by decide) <| nd (add_avs _ _ (by decide)) ⟨add_bo _ _ _ _ _, ?_⟩
  refine s_Asg <| w_bin <| w_var rfl <| wp_lstc _ _ (oddR2.map .str) _ (by decide) <| nd (add_avs _ _ (by decide)) ⟨add_bo _ _ _ _ _, ?_⟩
  refine s_Asg <| w_bin <| w_var rfl <| wp_lstc _ _ (oddR3.map .str) _ (by decide) <| nd (add_avs _ _ (by decide)) ⟨add_bo _ _ _ _ _, ?_⟩
  refine s_Asg <| w_bin <| w_var rfl <| wp_lstc _ _ (oddR4.map .str) _ (by decide) <| nd (add_avs _ _ (by decide)) ⟨add_bo _ _ _ _ _, ?_⟩
  refine s_Ret <| w_sub <| w_var rfl <| w_bvc rfl <| nd (mod_int _ 36 (by decide)) <| nd es ⟨?_, ?_, ?_⟩
  · exact el_bo _
  · exact Bool.or_true _
  · rw [if_neg (el_ow _)]
    exact h _ (List.getElem_mem (show k < oddR.length from hk))
theorem sign_by_wp (c : Int) (N : Rho → Prop) (Q : AV → Md → Prop) (X : Rho → Str → Prop) (h : ∀ x : Nat, Q (tV [x]) .fr) : wpSs t ms_sign_by (rho0 2 [.int c]) N (fun _ => False) Q X := by
  obtain ⟨k, e, hk⟩ := fm_nat' c 96 96 rfl (by decide)
  have el : (sgs sgA ++ sgs sgB).length = 96 := by decide +kernel
  have e1 : binop .Add (.str sgA) (.str sgB) = some (tV (sgs sgA ++ sgs sgB)) := add_txt (sgs sgA) (sgs sgB) (by rw [← List.length_append, el]; decide)
  have e2 : subs (tV (sgs sgA ++ sgs sgB)) (.int (c.fmod 96)) = some (tV [(sgs sgA ++ sgs sgB).getD k 0]) := by
    rw [e]
    generalize sgs sgA ++ sgs sgB = l at el
    show (seqIdx (k : Int) l.length).bind (fun j => l.toArray[j]?.map fun c => AV.str ⟨#[c]⟩) = _
    unfold seqIdx
    rw [if_pos ⟨Int.natCast_nonneg k, by rw [el]; exact Int.ofNat_lt.mpr hk⟩, Int.toNat_natCast]
    show (l.toArray[k]?.map fun c => AV.str ⟨#[c]⟩) = _
    rw [List.getElem?_toArray, List.getD_eq_getElem?_getD, List.getElem?_eq_getElem (show k < l.length by rw [el]; exact hk)]; rfl
  exact s_Asg <| w_cst ⟨nofun, s_Asg <| w_bvc rfl <| nd e1 ⟨nofun, s_Ret <| w_sub <| w_var rfl <| w_bvc rfl <| nd (mod_int _ 96 (by decide)) <| nd e2 ⟨nofun, rfl, h _⟩⟩⟩
noncomputable def prE (p : Str × Str) : ME := .tup [.cst (.str p.1), .cst (.str p.2)]
noncomputable def prV (p : Str × Str) : AV := .tup [.str p.1, .str p.2]
theorem wp_prs (ρ : Rho) (X : Str → Prop) : ∀ (l : List (Str × Str)) (H : List (AV × Md) → Prop), H (l.map fun p => (prV p, .fr)) → wpEs t (l.map prE) ρ H X
  | [], _, h => w_nil h
  | p :: l, H, h => w_cons <| w_tup <| w_cc <| w_cc <| w_nil ⟨mem2 nofun nofun, (show 2 ≤ top by decide), wp_prs ρ X l _ h⟩
theorem wp_prl (ρ : Rho) (X : Str → Prop) (l : List (Str × Str)) (Q : AV → Md → Prop) (hz : l.length ≤ 1000) (h : Q (.lst (l.map prV)) .ow) : wpE t (.lst (l.map prE)) ρ Q X := by
  have tt : top = 16777216 := rfl
  refine w_lst <| wp_prs ρ X l _ ⟨fun p hp => ?_, by rw [List.length_map]; (first | lia | omega), ?_⟩
  · obtain ⟨v, _, rfl⟩ := List.mem_map.mp hp; nofun
  · rw [List.map_map, if_pos (List.all_eq_true.mpr fun p hp => by obtain ⟨v, _, rfl⟩ := List.mem_map.mp hp; rfl)]
    exact h
theorem wrong_row_wp (c : Int) (N : Rho → Prop) (Q : AV → Md → Prop) (X : Rho → Str → Prop) (h : ∀ i, i < 8 → Q (prV (wro.getD i (B "", B ""))) .fr) : wpSs t ms_wrong_row (rho0 2 [.int c]) N (fun _ => False) Q X := by
  obtain ⟨k, e, hk⟩ := fm_nat' c 8 8 rfl (by decide)
  have es : subs (.lst (wro.map prV)) (.int (c.fmod 8)) = some (prV (wro.getD k (B "", B ""))) := by
    rw [e]
    exact sub_lst _ _ _ (by rw [List.getElem?_map, List.getD_eq_getElem?_getD, List.getElem?_eq_getElem (show k < wro.length from hk)]; rfl)
  refine s_Asg <| wp_prl _ _ wro0 _ (by decide) ⟨nofun, ?_⟩
  refine s_Asg <| w_bin <| w_var rfl <| wp_prl _ _ wro1 _ (by decide) <| nd (add_avs _ _ (by decide)) ⟨add_bo _ _ _ _ _, ?_⟩
  refine s_Asg <| w_bin <| w_var rfl <| wp_prl _ _ wro2 _ (by decide) <| nd (add_avs _ _ (by decide)) ⟨add_bo _ _ _ _ _, ?_⟩
  refine s_Ret <| w_sub <| w_var rfl <| w_bvc rfl <| nd (mod_int _ 8 (by decide)) <| nd es ⟨el_bo _, Bool.or_true _, ?_⟩
  rw [if_neg (el_ow _)]
  exact h k hk
end
end LP
end Mine

namespace Mine
open PySem
namespace LP
theorem text_glue {ps : List (List Nat)} (h0 : ps ≠ []) (h : ∀ p ∈ ps, 10 ∉ p) : textO (glue [10] ps) = rowsO ps := by
  unfold textO
  rw [cut_glue ps h0 h]
theorem ver_none {ps : List (List Nat)} (h0 : ps ≠ []) (h : ∀ p ∈ ps, 10 ∉ p) (e : rowsO ps = none) : verO (glue [10] ps) = some (B "NoText", B "text") := by
  unfold verO
  rw [text_glue h0 h, e]
theorem rows_bad {ps : List (List Nat)} {x : List Nat} (hx : x ∈ ps.tail) (e : gateO x = none) : rowsO ps = none := by
  unfold rowsO
  rw [mapN_none e _ hx]
  cases headO (ps.headD []) <;> rfl
theorem rows_head {x : List Nat} {ps : List (List Nat)} (e : headO x = none) : rowsO (x :: ps) = none := by
  unfold rowsO
  show (headO x).bind _ = _
  rw [e]; rfl
theorem glue_snoc : ∀ ps : List (List Nat), ps ≠ [] → glue [10] (ps ++ [[]]) = glue [10] ps ++ [10]
  | [], h => absurd rfl h
  | [p], _ => by
    show p ++ [10] ++ [] = p ++ [10]
    rw [List.append_nil]
  | p :: q :: ps, _ => by
    rw [List.cons_append, List.cons_append, glue_cons, glue_cons, ← List.cons_append, glue_snoc (q :: ps) nofun, List.append_assoc, List.append_assoc, List.append_assoc]
theorem rowsL_nl {m : Nat} {gs : List Gte} (ok : Valid m gs) : ∀ p ∈ rowsL m gs, 10 ∉ p := fun p hp => by
  rcases List.mem_cons.mp hp with rfl | z
  · exact hdL_nl m
  · obtain ⟨g, hg, rfl⟩ := List.mem_map.mp z
    exact rowG_nl (ok.g14 hg)
theorem fau_ok {g : Gte} {c count : Nat} (h : g.Ok c 60) (hc : c ≤ count) : fauO count (rawG g) = none := by
  have e := (kL_ok g.kind h.kind).2.2.2
  have a : (g.src.any fun s => decide (count ≤ s)) = false := by
    rw [List.any_eq_false]
    intro s hs z
    have := h.src s hs
    have := of_decide_eq_true z
    (first | lia | omega)
  have h1 := h.lo
  have h2 := h.hi
  unfold fauO rawG
  rw [e]
  show (if fits g.kind g.src.length = false then some 1 else if (g.src.any fun s => decide (count ≤ s)) = true then some 2 else if g.dly < 1 ∨ 60 < g.dly then some 3 else none) = none
  rw [h.fit, a, if_neg (by decide), if_neg (by decide), if_neg (by (first | lia | omega))]
theorem gates_raw {m : Nat} {gs : List Gte} (ok : Valid m gs) : mapN gateO (gs.map rowG) = some (gs.map rawG) := mapN_map gs fun g hg => rowG_ok (ok.g14 hg)
theorem rows_ok {m : Nat} {gs : List Gte} (ok : Valid m gs) : rowsO (rowsL m gs) = some (m, gs.map rawG) := by
  have o1 := ok.few
  unfold rowsO rowsL
  show (headO (hdL m)).bind (fun m => (mapN gateO (gs.map rowG)).map fun gs => (m, gs)) = _
  rw [hdL_ok (by (first | lia | omega)), gates_raw ok]; rfl
theorem due_ok {m : Nat} {gs : List Gte} (ok : Valid m gs) : dueO m (gs.map rawG) = none := by
  have o1 := ok.few
  have o2 := ok.len
  have ll : (gs.map rawG).length = gs.length := List.length_map ..
  unfold dueO
  rw [ll, if_neg (by (first | lia | omega)), Option.map_eq_none_iff, List.findSome?_eq_none_iff]
  intro g hg
  obtain ⟨g', hg', rfl⟩ := List.mem_map.mp hg
  exact fau_ok (ok.ok g' hg') (Nat.le_refl _)
theorem q_pAV (m : Nat) (gs : List Gte) : qAV m (gs.map rawG) = pAV m gs := by
  unfold qAV pAV
  rw [List.map_map]; rfl
theorem wro_f {count : Nat} (hc : count ≤ 999999999) : ∀ i, i < 8 → ∀ g y, rawW[i]? = some (g, y) → fauO count g = some y := by
  have k : kidx (txt [97, 110, 100]) = none ∧ kidx (txt [98, 121]) = none ∧ kidx (txt [107, 101, 101, 112]) = some 2 ∧ kidx (txt [121, 101, 115]) = some 0 ∧ kidx (txt [110, 111]) = some 1 ∧ kidx (txt [105, 110]) = none := by decide +kernel
  obtain ⟨k1, k2, k3, k4, k5, k6⟩ := k
  intro i hi g y e
  match i, hi with
  | 0, _ => cases e; unfold fauO; rw [k1]
  | 1, _ => cases e; unfold fauO; rw [k2]
  | 2, _ => cases e; unfold fauO; rw [k3]; rfl
  | 3, _ => cases e; unfold fauO; rw [k4]; rfl
  | 4, _ =>
    cases e; unfold fauO; rw [k3]
    show (if fits 2 1 = false then some 1 else if ([999999999].any fun s => decide (count ≤ s)) = true then some 2 else _) = some 2
    rw [if_neg (by decide), if_pos (by rw [List.any_cons, decide_eq_true hc]; rfl)]
  | 5, _ => cases e; unfold fauO; rw [k4]; rfl
  | 6, _ => cases e; unfold fauO; rw [k5]; rfl
  | 7, _ => cases e; unfold fauO; rw [k6]
theorem wrong_ver {m m' : Nat} {gs : List Gte} (ok : Valid m gs) (hm : m' = m ∨ m' = 61) (k i : Nat) (hk : k ≤ gs.length) (hi : i < 8) :
    ∃ c, verO (glue [10] (hdL m' :: ((gs.take k).map rowG ++ sgs (wro.getD i (B "", B "")).1 :: (gs.drop k).map rowG))) = some (c, if 60 < m' ∨ 200 < gs.length + 1 then B "size" else (wro.getD i (B "", B "")).2) := by
  obtain ⟨g, y, e1, e2, e3⟩ := wro_g i hi
  have o1 := ok.few
  have o2 := ok.len
  have wm : (wro.getD i (B "", B "")) ∈ wro := by rw [List.getD_eq_getElem?_getD, List.getElem?_eq_getElem (show i < wro.length from hi)]; exact List.getElem_mem _
  have ll : ((gs.take k).map rawG ++ g :: (gs.drop k).map rawG).length = gs.length + 1 := by
    rw [List.length_append, List.length_cons, List.length_map, List.length_map, List.length_take, List.length_drop]; (first | lia | omega)
  have nl : ∀ p ∈ (hdL m' :: ((gs.take k).map rowG ++ sgs (wro.getD i (B "", B "")).1 :: (gs.drop k).map rowG)), 10 ∉ p := fun p hp => by
    rcases List.mem_cons.mp hp with rfl | z
    · exact hdL_nl _
    · rcases List.mem_append.mp z with z | z
      · obtain ⟨g, hg, rfl⟩ := List.mem_map.mp z
        exact rowG_nl (ok.g14 (List.mem_of_mem_take hg))
      · rcases List.mem_cons.mp z with rfl | z
        · exact (wro_s _ wm).1
        · obtain ⟨g, hg, rfl⟩ := List.mem_map.mp z
          exact rowG_nl (ok.g14 (List.mem_of_mem_drop hg))
  have ro : rowsO (hdL m' :: ((gs.take k).map rowG ++ sgs (wro.getD i (B "", B "")).1 :: (gs.drop k).map rowG)) = some (m', (gs.take k).map rawG ++ g :: (gs.drop k).map rawG) := by
    unfold rowsO
    show (headO (hdL m')).bind (fun m => (mapN gateO ((gs.take k).map rowG ++ sgs (wro.getD i (B "", B "")).1 :: (gs.drop k).map rowG)).map fun gs => (m, gs)) = _
    have a1 := mapN_map (f := gateO) (g := rowG) (h := rawG) (gs.take k) fun g hg => rowG_ok (ok.g14 (List.mem_of_mem_take hg))
    have a2 := mapN_map (f := gateO) (g := rowG) (h := rawG) (gs.drop k) fun g hg => rowG_ok (ok.g14 (List.mem_of_mem_drop hg))
    rw [hdL_ok (by (first | lia | omega)), mapN_app, a1]
    show ((mapN gateO (sgs (wro.getD i (B "", B "")).1 :: (gs.drop k).map rowG)).map _).map _ = _
    rw [show mapN gateO (sgs (wro.getD i (B "", B "")).1 :: (gs.drop k).map rowG) = some (g :: (gs.drop k).map rawG) by show (gateO _).bind _ = _; rw [e1]; show (mapN gateO _).map _ = _; rw [a2]; rfl]; rfl
  unfold verO
  have tg := (text_glue (List.cons_ne_nil _ _) nl).trans ro
  rw [tg]
  show ∃ c, dueO m' _ = _
  unfold dueO
  rw [ll]
  by_cases q : 60 < m' ∨ 200 < gs.length + 1
  · rw [if_pos q, if_pos q]; exact ⟨_, rfl⟩
  · rw [if_neg q, if_neg q]
    have mm : m' = m := by (first | lia | omega)
    subst mm
    have f1 : ((gs.take k).map rawG).findSome? (fauO (m' + (gs.length + 1))) = none := by
      rw [List.findSome?_eq_none_iff]
      intro x hx
      obtain ⟨g', hg', rfl⟩ := List.mem_map.mp hx
      exact fau_ok (ok.ok g' (List.mem_of_mem_take hg')) (by (first | lia | omega))
    have f2 := wro_f (count := m' + (gs.length + 1)) (by (first | lia | omega)) i hi g y e3
    rw [List.findSome?_append, f1, Option.none_or, List.findSome?_cons, f2]
    exact ⟨_, by rw [← e2]; rfl⟩
theorem hd61 {m : Nat} (h : m ≤ 60) : (hdL m == hdL 61) = false := by
  refine beq_eq_false_iff_ne.mpr fun e => ?_
  have e : numL m = numL 61 := List.append_cancel_left e
  have a := (numL_all m).2.2.2.1
  rw [e, (numL_all 61).2.2.2.1] at a
  (first | lia | omega)
end LP
end Mine

namespace Mine
open PySem
namespace L14
open LP
noncomputable def dat14 : Str → Option AV := fun n => if n = B "SOURCES" then some tabAV else if n = B "MOST_INPUTS" then some (.int 60) else if n = B "MOST_GATES" then some (.int 200) else if n = B "MOST_DELAY" then some (.int 60) else if n = B "FIGURES" then some (.str (B "0123456789")) else if n = B "LETTERS" then some (.str (B "abcdefghijklmnopqrstuvwxyz")) else if n = B "MOST_FIGURES" then some (.int 9) else none
noncomputable def T0 : Th := { bis := tabF ((B "int", intB) :: (B "str", strB) :: bis4), lbis := tabF [(B "all", allB)], data := dat14, call := fun _ _ _ _ => False, callH := fun _ _ _ _ => False, mth := fun _ _ _ => none, sub := subT own11, loops := true }
noncomputable def TH : Th := { T0 with loops := false }
inductive CH : Str → List AV → (AV → Md → Prop) → (Str → Prop) → Prop
  | cls {c w : Str} {Q : AV → Md → Prop} {X : Str → Prop} (hm : (c, w) ∈ clsW) (h : Q (.str w) .fr) : CH (B "_law_class") [.exc c] Q X
inductive C1 : Str → List AV → (AV → Md → Prop) → (Str → Prop) → Prop
  | wants {k : Str} {i : Nat} {Q : AV → Md → Prop} {X : Str → Prop} (hk : kidx k = some i) (h : Q (bnd i) .fr) : C1 (B "wants") [.str k] Q X
  | wantsN {k : Str} {Q : AV → Md → Prop} {X : Str → Prop} (hk : kidx k = none) (h : X (B "NoKind")) : C1 (B "wants") [.str k] Q X
  | cell {ns : List Int} {k : Int} {Q : AV → Md → Prop} {X : Str → Prop} (hk : 0 ≤ k) (h : Q (.int (ns.getD k.toNat 0)) .fr) : C1 (B "_law_cell_at") [.lst (ns.map .int), .int k] Q X
  | whole {i : Int} {Q : AV → Md → Prop} {X : Str → Prop} (h : Q (.bool true) .fr) : C1 (B "_law_whole") [.int i] Q X
  | mixed {c k n : Int} {Q : AV → Md → Prop} {X : Str → Prop} (hn : 0 < n) (h : Q (.int (mixF c k n)) .fr) : C1 (B "_law_mixed") [.int c, .int k, .int n] Q X
  | many {c : Int} {Q : AV → Md → Prop} {X : Str → Prop} (h : ∀ m : Nat, m ≤ 60 → Q (.int (m : Int)) .fr) : C1 (B "_law_many") [.int c] Q X
  | place {turn : Int} {n k : Nat} {Q : AV → Md → Prop} {X : Str → Prop} (hn : 0 < n) (h : Q (.int (pl turn n k : Int)) .fr) : C1 (B "_law_place") [.int k, .int n, .int turn] Q X
  | number {w : List Nat} {Q : AV → Md → Prop} {X : Str → Prop} (h1 : ∀ n, numO w = some n → Q (.int (n : Int)) .fr) (h2 : numO w = none → X (B "NoText")) : C1 (B "number_of") [tV w] Q X
  | figures {w : List Nat} {Q : AV → Md → Prop} {X : Str → Prop} (h : Q (.int (figI w)) .fr) : C1 (B "_law_figures") [tV w] Q X
  | oddHead {c : Int} {Q : AV → Md → Prop} {X : Str → Prop} (h : ∀ x ∈ oddH, Q (.str x) .fr) : C1 (B "_law_odd_head") [.int c] Q X
  | oddRow {c : Int} {Q : AV → Md → Prop} {X : Str → Prop} (h : ∀ x ∈ oddR, Q (.str x) .fr) : C1 (B "_law_odd_row") [.int c] Q X
  | signBy {c : Int} {Q : AV → Md → Prop} {X : Str → Prop} (h : ∀ x : Nat, Q (tV [x]) .fr) : C1 (B "_law_sign_by") [.int c] Q X
  | wrongRow {c : Int} {Q : AV → Md → Prop} {X : Str → Prop} (h : ∀ i, i < 8 → Q (prV (wro.getD i (B "", B ""))) .fr) : C1 (B "_law_wrong_row") [.int c] Q X
  | fault {g : Raw} {count : Nat} {Q : AV → Md → Prop} {X : Str → Prop} (hz : g.2.1.length ≤ 1000000) (h : Q (.str (fauW (fauO count g))) .fr) : C1 (B "_law_fault") [wAV g, .int (count : Int)] Q X
  | textOf {m : Nat} {gs : List Gte} {Q : AV → Md → Prop} {X : Str → Prop} (ok : Valid m gs) (h : Q (.lst (tVs (rowsL m gs))) .ow) : C1 (B "_law_text_of") [pAV m gs] Q X
noncomputable def T1 : Th := { T0 with call := C1, callH := CH }
inductive C2 : Str → List AV → (AV → Md → Prop) → (Str → Prop) → Prop
  | old {f : Str} {args : List AV} {Q : AV → Md → Prop} {X : Str → Prop} (h : C1 f args Q X) : C2 f args Q X
  | check {g : Gte} {count : Nat} {Q : AV → Md → Prop} {X : Str → Prop} (ok : g.Ok count 60) (h : Q .none .fr) : C2 (B "check_gate") [gAV g, .int count] Q X
  | checkN {count way : Nat} {k : Str} {ss : List Int} {d : Int} {c : Str} {Q : AV → Md → Prop} {X : Str → Prop} (bad : GB count way k ss d) (hc : faults[way]? = some c) (h : X c) : C2 (B "check_gate") [rAV k ss d, .int count] Q X
  | gate {c : Int} {below most : Nat} {Q : AV → Md → Prop} {X : Str → Prop} (hm : 0 < most) (h : ∀ g : Gte, g.Ok below most → Q (gAV g) .fr) : C2 (B "_law_gate_by") [.int c, .int below, .int most] Q X
  | turned {many most : Nat} {gs : List Gte} {turn : Int} {Q : AV → Md → Prop} {X : Str → Prop} (hl : gs.length ≤ 1000) (ok : ∀ g ∈ gs, g.Ok (many + gs.length) most) (h : Q (pAV many (trL many turn gs)) .fr) : C2 (B "_law_turned") [.int many, .lst (gs.map gAV), .int turn] Q X
  | gateOf {row : List Nat} {Q : AV → Md → Prop} {X : Str → Prop} (hz : row.length ≤ 1000000) (h1 : ∀ g, gateO row = some g → Q (wAV g) .fr) (h2 : gateO row = none → X (B "NoText")) : C2 (B "gate_of") [tV row] Q X
  | lgate {row : List Nat} {Q : AV → Md → Prop} {X : Str → Prop} (hz : row.length ≤ 900000) (h : Q (goV (gateO row)) .fr) : C2 (B "_law_gate_of") [tV row] Q X
  | same {many : Nat} {gs : List Gte} {Q : AV → Md → Prop} {X : Str → Prop} (ok : Valid many gs) (h : Q (.bool true) .fr) : C2 (B "_law_same_plan") [pAV many gs, pAV many gs] Q X
noncomputable def T2 : Th := { T0 with call := C2, callH := CH }
inductive C3 : Str → List AV → (AV → Md → Prop) → (Str → Prop) → Prop
  | old {f : Str} {args : List AV} {Q : AV → Md → Prop} {X : Str → Prop} (h : C2 f args Q X) : C3 f args Q X
  | checked {many : Nat} {gs : List Gte} {Q : AV → Md → Prop} {X : Str → Prop} (ok : Valid many gs) (h : Q (.int ((many + gs.length : Nat) : Int)) .fr) : C3 (B "checked") [pAV many gs] Q X
  | checkedN {c : Str} {v : AV} {Q : AV → Md → Prop} {X : Str → Prop} (bad : PB c v) (h : X c) : C3 (B "checked") [v] Q X
  | gates {ns : List Int} {many most : Nat} {Q : AV → Md → Prop} {X : Str → Prop} (hm : 0 < most) (h : ∀ gs : List Gte, Row many most gs → gs.length ≤ 200 → Q (.lst (gs.map gAV)) .ow) : C3 (B "_law_gates_by") [.lst (ns.map .int), .int many, .int most] Q X
  | loose {ns : List Int} {many most : Nat} {Q : AV → Md → Prop} {X : Str → Prop} (hm : 0 < most) (h : ∀ gs, Loose many most gs → Q (pAV many gs) .fr) : C3 (B "_law_loose") [.lst (ns.map .int), .int many, .int most] Q X
  | parsed {text : List Nat} {Q : AV → Md → Prop} {X : Str → Prop} (hz : text.length ≤ 900000) (h : Q (poV (textO text)) .fr) : C3 (B "_law_parsed") [tV text] Q X
noncomputable def T3 : Th := { T0 with call := C3, callH := CH }
inductive C4 : Str → List AV → (AV → Md → Prop) → (Str → Prop) → Prop
  | old {f : Str} {args : List AV} {Q : AV → Md → Prop} {X : Str → Prop} (h : C3 f args Q X) : C4 f args Q X
  | planBy {ns : List Int} {most : Nat} {Q : AV → Md → Prop} {X : Str → Prop} (hm : 0 < most) (hm' : most ≤ 60) (h : ∀ many gs, Valid many gs → Q (pAV many gs) .fr) : C4 (B "_law_plan_by") [.lst (ns.map .int), .int most] Q X
  | read {text : List Nat} {Q : AV → Md → Prop} {X : Str → Prop} (hz : text.length ≤ 900000) (h0 : ∀ c w, verO text = some (c, w) → X c) (h2 : ∀ m gs, textO text = some (m, gs) → dueO m gs = none → Q (qAV m gs) .fr) : C4 (B "read") [tV text] Q X
  | due {text : List Nat} {Q : AV → Md → Prop} {X : Str → Prop} (hz : text.length ≤ 900000) (h : Q (.str (verW text)) .fr) : C4 (B "_law_due") [tV text] Q X
  | written {m : Nat} {gs : List Gte} {Q : AV → Md → Prop} {X : Str → Prop} (ok : Valid m gs) (h : Q (tV (glue [10] (rowsL m gs))) .fr) : C4 (B "written") [pAV m gs] Q X
noncomputable def T4 : Th := { T0 with call := C4, callH := CH }
inductive C5 : Str → List AV → (AV → Md → Prop) → (Str → Prop) → Prop
  | old {f : Str} {args : List AV} {Q : AV → Md → Prop} {X : Str → Prop} (h : C4 f args Q X) : C5 f args Q X
  | refused {text : List Nat} {c w : Str} {Q : AV → Md → Prop} {X : Str → Prop} (hz : text.length ≤ 900000) (hv : verO text = some (c, w)) (h : Q (.bool true) .fr) : C5 (B "_law_refused") [tV text, .str w] Q X
noncomputable def T5 : Th := { T0 with call := C5, callH := CH }
inductive C6 : Str → List AV → (AV → Md → Prop) → (Str → Prop) → Prop
  | old {f : Str} {args : List AV} {Q : AV → Md → Prop} {X : Str → Prop} (h : C5 f args Q X) : C6 f args Q X
  | judged {text : List Nat} {Q : AV → Md → Prop} {X : Str → Prop} (hz : text.length ≤ 900000) (h : Q (.bool true) .fr) : C6 (B "_law_judged") [tV text] Q X
noncomputable def T6 : Th := { T0 with call := C6, callH := CH }
noncomputable def s_w1 : MS := .ite (.cmp .Eq (.var 5) (.cst (.int 1))) [(.ret (.call (B "_law_refused") [(.mt (.cst (.str (B "\n"))) 1 (.bin .Add (.lst [(.call (B "_law_odd_head") [(.bin .FloorDiv (.var 3) (.cst (.int 7)))])]) (.slc (.var 2) (.cst (.int 1)) (.cst .none)))), (.cst (.str (B "text")))]))] []
noncomputable def s_w2 : MS := .ite (.cmp .Eq (.var 5) (.cst (.int 2))) [(.ret (.call (B "_law_refused") [(.mt (.cst (.str (B "\n"))) 1 (.bin .Add (.bin .Add (.slc (.var 2) (.cst .none) (.var 4)) (.lst [(.call (B "_law_odd_row") [(.bin .FloorDiv (.var 3) (.cst (.int 7)))])])) (.slc (.var 2) (.var 4) (.cst .none)))), (.cst (.str (B "text")))]))] []
noncomputable def s_w3 : MS := .ite (.cmp .Eq (.var 5) (.cst (.int 3))) [(.ret (.call (B "_law_refused") [(.bin .Add (.mt (.cst (.str (B "\n"))) 1 (.var 2)) (.cst (.str (B "\n")))), (.cst (.str (B "text")))]))] []
noncomputable def s_w4 : MS := .ite (.cmp .Eq (.var 5) (.cst (.int 4))) [(.asg 6 (.call (B "_law_wrong_row") [(.bin .FloorDiv (.var 3) (.cst (.int 14)))])), (.asg 7 (.sub (.var 6) (.cst (.int 1)))), (.asm 2 (.bin .Add (.bin .Add (.slc (.var 2) (.cst .none) (.var 4)) (.lst [(.sub (.var 6) (.cst (.int 0)))])) (.slc (.var 2) (.var 4) (.cst .none)))), (.ite (.cmp .Eq (.bin .Mod (.bin .FloorDiv (.var 3) (.cst (.int 112))) (.cst (.int 4))) (.cst (.int 1))) [(.sto 2 (.cst (.int 0)) (.cst (.str (B "in 61"))))] []), (.ite (.bop false [(.cmp .Gt (.bi (B "len") [(.var 2)]) (.cst (.int 201))), (.cmp .Eq (.sub (.var 2) (.cst (.int 0))) (.cst (.str (B "in 61"))))]) [(.asg 7 (.cst (.str (B "size"))))] []), (.ite (.cmp .Eq (.bin .Mod (.bin .FloorDiv (.var 3) (.cst (.int 7))) (.cst (.int 2))) (.cst (.int 1))) [(.ret (.call (B "_law_refused") [(.mt (.cst (.str (B "\n"))) 1 (.bin .Add (.var 2) (.lst [(.call (B "_law_odd_row") [(.bin .FloorDiv (.var 3) (.cst (.int 448)))])]))), (.cst (.str (B "text")))]))] []), (.ret (.call (B "_law_refused") [(.mt (.cst (.str (B "\n"))) 1 (.var 2)), (.var 7)]))] []
noncomputable def s_w5 : MS := .ite (.cmp .Eq (.var 5) (.cst (.int 5))) [(.asg 8 (.mt (.cst (.str (B "\n"))) 1 (.var 2))), (.asg 9 (.call (B "_law_mixed") [(.var 3), (.cst (.int 9)), (.bi (B "len") [(.var 8)])])), (.ite (.cmp .Eq (.bin .Mod (.bin .FloorDiv (.var 3) (.cst (.int 7))) (.cst (.int 3))) (.cst (.int 1))) [(.ret (.call (B "_law_judged") [(.bin .Add (.slc (.var 8) (.cst .none) (.var 9)) (.slc (.var 8) (.bin .Add (.var 9) (.cst (.int 1))) (.cst .none)))]))] []), (.asg 8 (.bin .Add (.bin .Add (.slc (.var 8) (.cst .none) (.var 9)) (.call (B "_law_sign_by") [(.bin .FloorDiv (.var 3) (.cst (.int 21)))])) (.slc (.var 8) (.bin .Add (.var 9) (.bin .Mod (.bin .FloorDiv (.var 3) (.cst (.int 14))) (.cst (.int 2)))) (.cst .none)))), (.ret (.call (B "_law_judged") [(.var 8)]))] []
noncomputable def ms_law : List MS :=
  [(.asg 1 (.call (B "_law_plan_by") [(.var 0), (.cst (.int 60))])),
   (.asm 2 (.call (B "_law_text_of") [(.var 1)])),
   (.asg 3 (.call (B "_law_cell_at") [(.var 0), (.cst (.int 2))])),
   (.asg 4 (.bin .Add (.cst (.int 1)) (.call (B "_law_mixed") [(.var 3), (.cst (.int 8)), (.bi (B "len") [(.var 2)])]))),
   (.asg 5 (.bin .Mod (.var 3) (.cst (.int 7)))),
   s_w1,
   s_w2,
   s_w3,
   s_w4,
   s_w5,
   (.asg 10 (.tup [(.sub (.var 1) (.cst (.int 0))), (.bi (B "list") [(.sub (.var 1) (.cst (.int 1)))])])),
   (.asg 11 (.call (B "written") [(.var 10)])),
   (.ite (.bop false [(.not (.isi (.var 11) (B "str"))), (.cmp .NotEq (.var 11) (.mt (.cst (.str (B "\n"))) 1 (.var 2))), (.cmp .NotEq (.var 10) (.var 1))]) [(.ret (.cst (.bool false)))] []),
   (.ret (.call (B "_law_same_plan") [(.call (B "read") [(.mt (.cst (.str (B "\n"))) 1 (.var 2))]), (.var 1)]))]
noncomputable def msT : List MS := [(.asg 10 (.tup [(.sub (.var 1) (.cst (.int 0))), (.bi (B "list") [(.sub (.var 1) (.cst (.int 1)))])])), (.asg 11 (.call (B "written") [(.var 10)])), (.ite (.bop false [(.not (.isi (.var 11) (B "str"))), (.cmp .NotEq (.var 11) (.mt (.cst (.str (B "\n"))) 1 (.var 2))), (.cmp .NotEq (.var 10) (.var 1))]) [(.ret (.cst (.bool false)))] []), (.ret (.call (B "_law_same_plan") [(.call (B "read") [(.mt (.cst (.str (B "\n"))) 1 (.var 2))]), (.var 1)]))]
section
variable {f : Str} {args : List AV} {Q : AV → Md → Prop} {X : Str → Prop}
theorem up4 (h : C4 f args Q X) : C6 f args Q X := .old (.old h)
theorem up2 (h : C2 f args Q X) : C6 f args Q X := up4 (.old (.old h))
theorem up1 (h : C1 f args Q X) : C6 f args Q X := up2 (.old h)
end
theorem b6 : Bas T6 := ⟨⟨fun _ => rfl, fun _ => rfl, fun _ => rfl, fun _ => rfl⟩, rfl⟩
section
variable (ns : List Int) (m : Nat) (gs : List Gte) (ok : Valid m gs) (c : Int) (a : Nat) (ha : 1 ≤ a) (ha' : a ≤ gs.length + 1) (N K : Rho → Prop) (Q : AV → Md → Prop) (X : Rho → Str → Prop) (h : Q (.bool true) .fr)
noncomputable abbrev rhoL : Rho := [some (.lst (ns.map .int), .sh), some (pAV m gs, .fr), some (.lst (tVs (rowsL m gs)), .mu), some (.int c, .fr), some (.int (a : Int), .fr), some (.int (c.fmod 7), .fr), none, none, none, none, none, none]
include ok h
theorem short (ps : List (List Nat)) (h1 : ∀ p ∈ ps, p.length ≤ 50) (h2 : ps.length ≤ 1000) : (glue [10] ps).length ≤ 900000 := Nat.le_trans (glue_len 10 50 ps h1) (by (first | lia | omega))
theorem way1 : wpSs T6 [(.ret (.call (B "_law_refused") [(.mt (.cst (.str (B "\n"))) 1 (.bin .Add (.lst [(.call (B "_law_odd_head") [(.bin .FloorDiv (.var 3) (.cst (.int 7)))])]) (.slc (.var 2) (.cst (.int 1)) (.cst .none)))), (.cst (.str (B "text")))]))] (rhoL ns m gs c a) N K Q X := by
  obtain ⟨r1, r2⟩ := rowsL_len ok
  refine s_Ret <| w_call <| w_cons <| w_mt <| w_cst <| w_bin <| w_lst <| w_cons <| w_one <| w_bvc rfl <| nd (div_int _ 7 (by decide)) <| up1 <| .oddHead fun x hx => w_nil ⟨fun p hp => by cases List.mem_singleton.mp hp; nofun, (show 1 ≤ top by decide), w_slc <| w_var rfl <| w_cst <| w_cst <| nd (slL_lo (rowsL m gs) 1) ?_⟩
  obtain ⟨o1, o2, o3⟩ := odd_h x hx
  have e : binop .Add (.lst [.str x]) (.lst (tVs ((rowsL m gs).drop 1))) = some (.lst (tVs (sgs x :: (rowsL m gs).drop 1))) := add_lst [sgs x] ((rowsL m gs).drop 1) (by rw [List.length_drop]; show 1 + _ ≤ _; (first | lia | omega))
  have p1 : ∀ p ∈ (sgs x :: (rowsL m gs).drop 1), p.length ≤ 50 := fun p hp => (List.mem_cons.mp hp).elim (fun e => e ▸ o3) fun z => r1 p (List.mem_of_mem_drop z)
  have p2 : ∀ p ∈ (sgs x :: (rowsL m gs).drop 1), 10 ∉ p := fun p hp => (List.mem_cons.mp hp).elim (fun e => e ▸ o2) fun z => rowsL_nl ok p (List.mem_of_mem_drop z)
  have ln : (sgs x :: (rowsL m gs).drop 1).length ≤ 1000 := by rw [List.length_cons, List.length_drop]; (first | lia | omega)
  exact nd e <| nd (join_nl _ p1 ln) <| w_cc <| w_nil <| .old <| .refused (short _ _ ok _ h _ p1 ln) (ver_none (List.cons_ne_nil _ _) p2 (rows_head o1)) ⟨nofun, rfl, h⟩
theorem take1 (ps : List (List Nat)) (k : Nat) (h : 1 ≤ k) (x : List Nat) (r : List (List Nat)) : x ∈ ((ps.take k ++ [x]) ++ r).tail ∨ ps = [] := by
  cases ps with
  | nil => exact .inr rfl
  | cons p ps =>
    cases k with
    | zero => exact absurd h (by decide)
    | succ k => exact .inl (List.mem_append_left _ (List.mem_append_right _ (.head _)))
omit ok h in
theorem mid_mem {P : List Nat → Prop} {ps : List (List Nat)} {k : Nat} {x : List Nat} (hp : ∀ p ∈ ps, P p) (hx : P x) : ∀ p ∈ (ps.take k ++ [x]) ++ ps.drop k, P p := fun p hq => by
  rcases List.mem_append.mp hq with z | z
  · rcases List.mem_append.mp z with z | z
    · exact hp p (List.mem_of_mem_take z)
    · cases List.mem_singleton.mp z; exact hx
  · exact hp p (List.mem_of_mem_drop z)
omit ok h in
theorem mid_len (ps : List (List Nat)) (k : Nat) (x : List Nat) (hk : k ≤ ps.length) : ((ps.take k ++ [x]) ++ ps.drop k).length = ps.length + 1 := by
  rw [List.length_append, List.length_append, List.length_take, List.length_drop, List.length_singleton]; (first | lia | omega)
omit ok h in
theorem mid_add (ps : List (List Nat)) (k : Nat) (x : List Nat) (hl : ps.length ≤ 201) : binop .Add (.lst (tVs (ps.take k))) (.lst [tV x]) = some (.lst (tVs (ps.take k ++ [x]))) ∧ binop .Add (.lst (tVs (ps.take k ++ [x]))) (.lst (tVs (ps.drop k))) = some (.lst (tVs ((ps.take k ++ [x]) ++ ps.drop k))) :=
  ⟨add_lst _ [x] (by rw [List.length_take]; show _ + 1 ≤ _; (first | lia | omega)), add_lst _ _ (by rw [List.length_append, List.length_take, List.length_drop, List.length_singleton]; omega)⟩
include ha ha'
theorem way2 : wpSs T6 [(.ret (.call (B "_law_refused") [(.mt (.cst (.str (B "\n"))) 1 (.bin .Add (.bin .Add (.slc (.var 2) (.cst .none) (.var 4)) (.lst [(.call (B "_law_odd_row") [(.bin .FloorDiv (.var 3) (.cst (.int 7)))])])) (.slc (.var 2) (.var 4) (.cst .none)))), (.cst (.str (B "text")))]))] (rhoL ns m gs c a) N K Q X := by
  obtain ⟨r1, r2⟩ := rowsL_len ok
  have rl : (rowsL m gs).length = gs.length + 1 := by unfold rowsL; rw [List.length_cons, List.length_map]
  refine s_Ret <| w_call <| w_cons <| w_mt <| w_cst <| w_bin <| w_bin <| w_slc <| w_var rfl <| w_cst <| w_var rfl <| nd (slL_hi (rowsL m gs) a) <| w_lst <| w_cons <| w_one <| w_bvc rfl <| nd (div_int _ 7 (by decide)) <| up1 <| .oddRow fun x hx => w_nil ⟨fun p hp => by cases List.mem_singleton.mp hp; nofun, (show 1 ≤ top by decide), ?_⟩
  obtain ⟨o1, o2, o3⟩ := odd_r x hx
  obtain ⟨e1, e2⟩ := mid_add (rowsL m gs) a (sgs x) r2
  have p1 := mid_mem (k := a) r1 o3
  have p2 := mid_mem (k := a) (rowsL_nl ok) o2
  have ln := mid_len (rowsL m gs) a (sgs x) (by rw [rl]; exact ha')
  have tl := (take1 m gs ok Q h (rowsL m gs) a ha (sgs x) ((rowsL m gs).drop a)).resolve_right (List.cons_ne_nil _ _)
  have ln2 : (((rowsL m gs).take a ++ [sgs x]) ++ (rowsL m gs).drop a).length ≤ 1000 := by rw [ln]; (first | lia | omega)
  have ne : ((rowsL m gs).take a ++ [sgs x]) ++ (rowsL m gs).drop a ≠ [] := fun z => by rw [z] at ln; cases ln
  exact nd e1 <| w_slc <| w_var rfl <| w_var rfl <| w_cst <| nd (slL_lo (rowsL m gs) a) <| nd e2 <| nd (join_nl _ p1 ln2) <| w_cc <| w_nil <| .old <| .refused (short m gs ok Q h _ p1 ln2) (ver_none ne p2 (rows_bad tl o1)) ⟨nofun, rfl, h⟩
omit ha ha'
theorem way3 : wpSs T6 [(.ret (.call (B "_law_refused") [(.bin .Add (.mt (.cst (.str (B "\n"))) 1 (.var 2)) (.cst (.str (B "\n")))), (.cst (.str (B "text")))]))] (rhoL ns m gs c a) N K Q X := by
  obtain ⟨r1, r2⟩ := rowsL_len ok
  have gl := short m gs ok Q h _ r1 (Nat.le_trans r2 (by decide))
  have e : binop .Add (tV (glue [10] (rowsL m gs))) (.str (B "\n")) = some (tV (glue [10] (rowsL m gs ++ [[]]))) := by
    rw [lits.2.2.2.1, glue_snoc (rowsL m gs) (List.cons_ne_nil _ _)]
    exact add_txt _ [10] (by show _ + 1 ≤ _; (first | lia | omega))
  have p1 : ∀ p ∈ rowsL m gs ++ [[]], p.length ≤ 50 := fun p hp => (List.mem_append.mp hp).elim (r1 p) fun z => by cases List.mem_singleton.mp z; decide
  have p2 : ∀ p ∈ rowsL m gs ++ [[]], 10 ∉ p := fun p hp => (List.mem_append.mp hp).elim (rowsL_nl ok p) fun z => by cases List.mem_singleton.mp z; nofun
  have ln : (rowsL m gs ++ [[]]).length ≤ 1000 := by rw [List.length_append]; show _ + 1 ≤ _; (first | lia | omega)
  have tl : [] ∈ (rowsL m gs ++ [[]]).tail := List.mem_append_right _ (.head _)
  exact s_Ret <| w_call <| w_cons <| w_bin <| w_mt <| w_cst <| w_var rfl <| nd (join_nl _ r1 (Nat.le_trans r2 (by decide))) <| w_cst <| nd e <| w_cc <| w_nil <| .old <| .refused (short m gs ok Q h _ p1 ln) (ver_none (by rw [ne_eq, List.append_eq_nil_iff]; exact fun z => nomatch z.2) p2 (rows_bad tl (by decide))) ⟨nofun, rfl, h⟩
noncomputable def ms_w5 : List MS := [(.asg 8 (.mt (.cst (.str (B "\n"))) 1 (.var 2))), (.asg 9 (.call (B "_law_mixed") [(.var 3), (.cst (.int 9)), (.bi (B "len") [(.var 8)])])), (.ite (.cmp .Eq (.bin .Mod (.bin .FloorDiv (.var 3) (.cst (.int 7))) (.cst (.int 3))) (.cst (.int 1))) [(.ret (.call (B "_law_judged") [(.bin .Add (.slc (.var 8) (.cst .none) (.var 9)) (.slc (.var 8) (.bin .Add (.var 9) (.cst (.int 1))) (.cst .none)))]))] []), (.asg 8 (.bin .Add (.bin .Add (.slc (.var 8) (.cst .none) (.var 9)) (.call (B "_law_sign_by") [(.bin .FloorDiv (.var 3) (.cst (.int 21)))])) (.slc (.var 8) (.bin .Add (.var 9) (.bin .Mod (.bin .FloorDiv (.var 3) (.cst (.int 14))) (.cst (.int 2)))) (.cst .none)))), (.ret (.call (B "_law_judged") [(.var 8)]))]
theorem way5 : wpSs T6 ms_w5 (rhoL ns m gs c a) N K Q X := by
  obtain ⟨r1, r2⟩ := rowsL_len ok
  have gl : (glue [10] (rowsL m gs)).length ≤ 20000 := Nat.le_trans (glue_len 10 50 _ r1) (by (first | lia | omega))
  have gp : 0 < (glue [10] (rowsL m gs)).length := by
    unfold rowsL
    cases gs.map rowG with
    | nil => exact Nat.succ_pos _
    | cons p ps => rw [glue_cons]; exact Nat.succ_pos _
  refine s_Asg <| w_mt <| w_cst <| w_var rfl <| nd (join_nl _ r1 (Nat.le_trans r2 (by decide))) ⟨nofun, ?_⟩
  generalize glue [10] (rowsL m gs) = tx at gl gp
  have gp' : (0 : Int) < ((tx.length : Nat) : Int) := Int.ofNat_lt.mpr gp
  obtain ⟨q1, q2⟩ := mixF_lt c 9 _ gp'
  obtain ⟨sp, hs⟩ := Int.eq_ofNat_of_zero_le q1
  refine s_Asg <| w_call <| w_cv rfl <| w_cc <| w_cons <| w_bi <| w_vn rfl <| nd (lenT b6.toBas0 ..) <| w_nil <| up1 <| .mixed gp' ⟨nofun, ?_⟩
  rw [hs]
  have sl := fun k : Nat => sl_lo tx k
  refine s_Ite <| t_cmp <| w_bin <| w_bvc rfl <| nd (div_int _ 7 (by decide)) <| w_cst <| nd (mod_int _ 3 (by decide)) <| w_cst <| nd (eq_int ..) ?_
  cases (c.fdiv 7).fmod 3 == 1 with
  | true =>
    have e1 : binop .Add (.int (sp : Int)) (.int 1) = some (.int ((sp + 1 : Nat) : Int)) := add_int ..
    have e2 : binop .Add (tV (tx.take sp)) (tV (tx.drop (sp + 1))) = some (tV (tx.take sp ++ tx.drop (sp + 1))) := add_txt _ _ (by rw [List.length_take, List.length_drop]; (first | lia | omega))
    exact i_pos rfl <| s_Ret <| w_one <| w_bin <| w_slc <| w_var rfl <| w_cst <| w_var rfl <| nd (sl_hi tx sp) <| w_slc <| w_var rfl <| w_bvc rfl <| nd e1 <| w_cst <| nd (sl (sp + 1)) <| nd e2 <| .judged (by rw [List.length_append, List.length_take, List.length_drop]; (first | lia | omega)) ⟨nofun, rfl, h⟩
  | false =>
    obtain ⟨j, ej, hj⟩ := fm_nat' (c.fdiv 14) 2 2 rfl (by decide)
    refine i_neg (by decide) <| s_nil <| s_Asg <| w_bin <| w_bin <| w_slc <| w_var rfl <| w_cst <| w_var rfl <| nd (sl_hi tx sp) <| w_one <| w_bvc rfl <| nd (div_int _ 21 (by decide)) <| up1 <| .signBy fun x => ?_
    have e0 : binop .Add (tV (tx.take sp)) (tV [x]) = some (tV (tx.take sp ++ [x])) := add_txt _ _ (by rw [List.length_take]; show _ + 1 ≤ _; (first | lia | omega))
    have e1 : binop .Add (.int (sp : Int)) (.int (j : Int)) = some (.int ((sp + j : Nat) : Int)) := add_int ..
    have e2 : binop .Add (tV (tx.take sp ++ [x])) (tV (tx.drop (sp + j))) = some (tV (tx.take sp ++ [x] ++ tx.drop (sp + j))) := add_txt _ _ (by rw [List.length_append, List.length_take, List.length_drop]; show _ + 1 + _ ≤ _; (first | lia | omega))
    refine nd e0 <| w_slc <| w_var rfl <| w_bin <| w_var rfl <| w_bin <| w_bvc rfl <| nd (div_int _ 14 (by decide)) <| w_cst <| nd (mod_int _ 2 (by decide)) ?_
    rw [ej]
    exact nd e1 <| w_cst <| nd (sl (sp + j)) <| nd e2 ⟨nofun, s_Ret <| w_1v rfl <| .judged (by rw [List.length_append, List.length_append, List.length_take, List.length_drop]; show _ + 1 + _ ≤ _; (first | lia | omega)) ⟨nofun, rfl, h⟩⟩
theorem end_wp : wpSs T6 msT (rhoL ns m gs c a) N K Q X := by
  obtain ⟨r1, r2⟩ := rowsL_len ok
  have gl := short m gs ok Q h _ r1 (Nat.le_trans r2 (by decide))
  have jn := join_nl (rowsL m gs) r1 (Nat.le_trans r2 (by decide))
  have tg : textO (glue [10] (rowsL m gs)) = some (m, gs.map rawG) := (text_glue (List.cons_ne_nil _ _) (rowsL_nl ok)).trans (rows_ok ok)
  refine s_Asg <| w_tup <| w_cons <| w_t0 rfl <| w_cons <| w_bi <| w_cons <| w_t1 rfl <| w_nil <| Bas.list b6 _ .fr nofun _ <| w_nil ⟨mem2 nofun nofun, (show 2 ≤ top by decide), nofun, ?_⟩
  refine s_Asg <| w_1v rfl <| up4 <| .written ok ⟨nofun, ?_⟩
  refine s_Ite <| t_bop <| t_cons <| t_not <| t_isi <| w_var rfl <| nd (r := true) rfl <| i_pos rfl <| t_cons <| t_cmp <| w_var rfl <| w_mt <| w_cst <| w_var rfl <| nd jn <| nd (ne_txt ..) ?_
  rw [beq_self_eq_true]
  refine i_pos rfl <| t_cons <| t_cvv rfl rfl <| nd (ne_plan m gs) <| i_pos rfl <| t_nil <| i_neg (by decide) <| s_nil <| s_Ret <| w_two <| w_one <| w_mt <| w_cst <| w_var rfl <| nd jn <| up4 <| .read gl (fun c w e => ?_) fun m' gs' e1 e2 => ?_
  · unfold verO at e
    rw [tg] at e
    have e : dueO m (gs.map rawG) = some (c, w) := e
    rw [due_ok ok] at e; cases e
  · rw [tg] at e1
    cases e1
    rw [q_pAV]
    exact w_var rfl <| up2 <| .same ok ⟨nofun, rfl, h⟩
end
end L14
end Mine

namespace Mine
open PySem
namespace L14
open LP
noncomputable def pW (m' : Nat) (gs : List Gte) (k : Nat) (x : List Nat) : List (List Nat) := hdL m' :: ((gs.take k).map rowG ++ x :: (gs.drop k).map rowG)
theorem pW_eq (m : Nat) (gs : List Gte) (k : Nat) (x : List Nat) : ((rowsL m gs).take (k + 1) ++ [x]) ++ (rowsL m gs).drop (k + 1) = pW m gs k x := by
  unfold rowsL pW
  rw [List.take_succ_cons, List.drop_succ_cons, List.map_take, List.map_drop, List.cons_append, List.cons_append, List.append_assoc]; rfl
noncomputable def w4a : List MS := [(.ite (.bop false [(.cmp .Gt (.bi (B "len") [(.var 2)]) (.cst (.int 201))), (.cmp .Eq (.sub (.var 2) (.cst (.int 0))) (.cst (.str (B "in 61"))))]) [(.asg 7 (.cst (.str (B "size"))))] []), (.ite (.cmp .Eq (.bin .Mod (.bin .FloorDiv (.var 3) (.cst (.int 7))) (.cst (.int 2))) (.cst (.int 1))) [(.ret (.call (B "_law_refused") [(.mt (.cst (.str (B "\n"))) 1 (.bin .Add (.var 2) (.lst [(.call (B "_law_odd_row") [(.bin .FloorDiv (.var 3) (.cst (.int 448)))])]))), (.cst (.str (B "text")))]))] []), (.ret (.call (B "_law_refused") [(.mt (.cst (.str (B "\n"))) 1 (.var 2)), (.var 7)]))]
noncomputable def ms_w4 : List MS := (.asg 6 (.call (B "_law_wrong_row") [(.bin .FloorDiv (.var 3) (.cst (.int 14)))])) :: (.asg 7 (.sub (.var 6) (.cst (.int 1)))) :: (.asm 2 (.bin .Add (.bin .Add (.slc (.var 2) (.cst .none) (.var 4)) (.lst [(.sub (.var 6) (.cst (.int 0)))])) (.slc (.var 2) (.var 4) (.cst .none)))) :: (.ite (.cmp .Eq (.bin .Mod (.bin .FloorDiv (.var 3) (.cst (.int 112))) (.cst (.int 4))) (.cst (.int 1))) [(.sto 2 (.cst (.int 0)) (.cst (.str (B "in 61"))))] []) :: w4a
theorem in61 : B "in 61" = txt (hdL 61) := by decide +kernel
section
variable (m : Nat) (gs : List Gte) (ok : Valid m gs) (c : Int) (k i : Nat) (hk : k ≤ gs.length) (hi : i < 8) (m' : Nat) (hm : m' = m ∨ m' = 61) (N K : Rho → Prop) (Q : AV → Md → Prop) (X : Rho → Str → Prop) (h : Q (.bool true) .fr)
include ok hk hi hm h
theorem way4a (s0 s1 s4 s5 s6 s8 s9 s10 s11 : Slot) (m7 : Sm) : wpSs T6 w4a [s0, s1, some (.lst (tVs (pW m' gs k (sgs (wro.getD i (B "", B "")).1))), .mu), some (.int c, .fr), s4, s5, s6, some (.str (wro.getD i (B "", B "")).2, m7), s8, s9, s10, s11] N K Q X := by
  have o1 := ok.few
  have o2 := ok.len
  obtain ⟨ex, hv⟩ := wrong_ver ok hm k i hk hi
  have wm : (wro.getD i (B "", B "")) ∈ wro := by rw [List.getD_eq_getElem?_getD, List.getElem?_eq_getElem (show i < wro.length from hi)]; exact List.getElem_mem _
  obtain ⟨w1, w2⟩ := wro_s _ wm
  have hv : verO (glue [10] (pW m' gs k (sgs (wro.getD i (B "", B "")).1))) = some (ex, if 60 < m' ∨ 200 < gs.length + 1 then B "size" else (wro.getD i (B "", B "")).2) := hv
  have ln : (pW m' gs k (sgs (wro.getD i (B "", B "")).1)).length = gs.length + 2 := by
    unfold pW
    rw [List.length_cons, List.length_append, List.length_cons, List.length_map, List.length_map, List.length_take, List.length_drop]; (first | lia | omega)
  have m3 := num3 (show m' < 1000 by (first | lia | omega))
  have each : ∀ p ∈ pW m' gs k (sgs (wro.getD i (B "", B "")).1), p.length ≤ 50 ∧ 10 ∉ p := fun p hp => by
    rcases List.mem_cons.mp hp with rfl | z
    · exact ⟨by unfold hdL; rw [List.length_append]; show 3 + _ ≤ _; (first | lia | omega), hdL_nl _⟩
    · rcases List.mem_append.mp z with z | z
      · obtain ⟨g, hg, rfl⟩ := List.mem_map.mp z
        exact ⟨rowG_len (ok.g14 (List.mem_of_mem_take hg)), rowG_nl (ok.g14 (List.mem_of_mem_take hg))⟩
      · rcases List.mem_cons.mp z with rfl | z
        · exact ⟨w2, w1⟩
        · obtain ⟨g, hg, rfl⟩ := List.mem_map.mp z
          exact ⟨rowG_len (ok.g14 (List.mem_of_mem_drop hg)), rowG_nl (ok.g14 (List.mem_of_mem_drop hg))⟩
  have sh : subs (.lst (tVs (pW m' gs k (sgs (wro.getD i (B "", B "")).1)))) (.int 0) = some (tV (hdL m')) := sub_tV0 _ (by rw [ln]; exact Nat.succ_pos _)
  have ne : pW m' gs k (sgs (wro.getD i (B "", B "")).1) ≠ [] := List.cons_ne_nil _ _
  generalize (wro.getD i (B "", B "")).2 = w at *
  have tlx : ∀ y, y ∈ (pW m' gs k (sgs (wro.getD i (B "", B "")).1) ++ [y]).tail := fun y => List.mem_append_right _ (.head _)
  generalize pW m' gs k (sgs (wro.getD i (B "", B "")).1) = P at *
  have ll : (tVs P).length = gs.length + 2 := (List.length_map ..).trans ln
  have l1000 : P.length ≤ 1000 := by rw [ln]; (first | lia | omega)
  have fin : ∀ w' m7, w' = (if 60 < m' ∨ 200 < gs.length + 1 then B "size" else w) → wpSs T6 (w4a.drop 1) [s0, s1, some (.lst (tVs P), .mu), some (.int c, .fr), s4, s5, s6, some (.str w', m7), s8, s9, s10, s11] N K Q X := fun w' m7 e => by
    refine s_Ite <| t_cmp <| w_bin <| w_bvc rfl <| nd (div_int _ 7 (by decide)) <| w_cst <| nd (mod_int _ 2 (by decide)) <| w_cst <| nd (eq_int ..) ?_
    cases (c.fdiv 7).fmod 2 == 1 with
    | true =>
      refine i_pos rfl <| s_Ret <| w_call <| w_cons <| w_mt <| w_cst <| w_bin <| w_var rfl <| w_lst <| w_cons <| w_one <| w_bvc rfl <| nd (div_int _ 448 (by decide)) <| up1 <| .oddRow fun x hx => w_nil ⟨fun p hp => by cases List.mem_singleton.mp hp; nofun, (show 1 ≤ top by decide), ?_⟩
      obtain ⟨x1, x2, x3⟩ := odd_r x hx
      have e1 : binop .Add (.lst (tVs P)) (.lst [.str x]) = some (.lst (tVs (P ++ [sgs x]))) := add_lst P [sgs x] (by rw [ln]; show _ + 1 ≤ _; (first | lia | omega))
      have p1 : ∀ p ∈ P ++ [sgs x], p.length ≤ 50 := fun p hp => (List.mem_append.mp hp).elim (fun z => (each p z).1) fun z => by cases List.mem_singleton.mp z; exact x3
      have p2 : ∀ p ∈ P ++ [sgs x], 10 ∉ p := fun p hp => (List.mem_append.mp hp).elim (fun z => (each p z).2) fun z => by cases List.mem_singleton.mp z; exact x2
      have l2 : (P ++ [sgs x]).length ≤ 1000 := by rw [List.length_append, ln]; show _ + 1 ≤ _; (first | lia | omega)
      exact nd e1 <| nd (join_nl _ p1 l2) <| w_cc <| w_nil <| .old <| .refused (short m gs ok Q h _ p1 l2) (ver_none (fun z => ne (List.append_eq_nil_iff.mp z).1) p2 (rows_bad (tlx _) x1)) ⟨nofun, rfl, h⟩
    | false =>
      subst e
      have p1 : ∀ p ∈ P, p.length ≤ 50 := fun p hp => (each p hp).1
      exact i_neg (by decide) <| s_nil <| s_Ret <| w_call <| w_cons <| w_mt <| w_cst <| w_var rfl <| nd (join_nl _ p1 l1000) <| w_vn rfl <| .old <| .refused (short m gs ok Q h _ p1 l1000) hv ⟨nofun, rfl, h⟩
  refine s_Ite <| t_bop <| t_cons <| t_cmp <| w_len b6.toBas0 rfl <| w_cst <| nd (gt_int ..) ?_
  rw [ll]
  by_cases q1 : 200 < gs.length + 1
  · exact i_neg (by rw [decide_eq_true (show (201 : Int) < ((gs.length + 2 : Nat) : Int) by (first | lia | omega))]; decide) <| i_pos rfl <| s_Asg <| w_cst ⟨nofun, s_nil <| fin _ _ (if_pos (.inr q1)).symm⟩
  · refine i_pos (decide_eq_false (show ¬ (201 : Int) < ((gs.length + 2 : Nat) : Int) by (first | lia | omega))) <| t_cons <| t_cmp <| w_svc rfl <| nd sh <| w_cst ?_
    rw [in61]
    refine nd (eq_txt ..) ?_
    rcases hm with rfl | rfl
    · rw [hd61 o1]
      exact i_pos rfl <| t_nil <| i_neg (by decide) <| s_nil <| fin _ _ (if_neg (by (first | lia | omega))).symm
    · rw [beq_self_eq_true]
      exact i_neg (by decide) <| i_pos rfl <| s_Asg <| w_cst ⟨nofun, s_nil <| fin _ _ (if_pos (.inl (by decide))).symm⟩
end
section
variable (ns : List Int) (m : Nat) (gs : List Gte) (ok : Valid m gs) (c : Int) (a : Nat) (ha : 1 ≤ a) (ha' : a ≤ gs.length + 1) (N K : Rho → Prop) (Q : AV → Md → Prop) (X : Rho → Str → Prop) (h : Q (.bool true) .fr)
include ok h ha ha'
theorem way4 : wpSs T6 ms_w4 (rhoL ns m gs c a) N K Q X := by
  obtain ⟨r1, r2⟩ := rowsL_len ok
  obtain ⟨k, rfl⟩ : ∃ k, a = k + 1 := ⟨a - 1, by (first | lia | omega)⟩
  have hk : k ≤ gs.length := Nat.le_of_succ_le_succ ha'
  refine s_Asg <| w_one <| w_bvc rfl <| nd (div_int _ 14 (by decide)) <| up1 <| .wrongRow fun i hi => ⟨nofun, ?_⟩
  obtain ⟨e1, e2⟩ := mid_add (rowsL m gs) (k + 1) (sgs (wro.getD i (B "", B "")).1) r2
  rw [pW_eq] at e2
  refine s_Asg <| w_t1 rfl ⟨nofun, s_Asm <| w_bin <| w_bin <| w_slc <| w_var rfl <| w_cst <| w_var rfl <| nd (slL_hi (rowsL m gs) (k + 1)) <| w_lst <| w_cons <| w_t0 rfl <| w_nil ⟨fun p hp => by cases List.mem_singleton.mp hp; nofun, (show 1 ≤ top by decide), nd e1 <| w_slc <| w_var rfl <| w_var rfl <| w_cst <| nd (slL_lo (rowsL m gs) (k + 1)) <| nd e2 ⟨?_, ?_⟩⟩⟩
  · rfl
  · refine s_Ite <| t_cmp <| w_bin <| w_bvc rfl <| nd (div_int _ 112 (by decide)) <| w_cst <| nd (mod_int _ 4 (by decide)) <| w_cst <| nd (eq_int ..) ?_
    cases (c.fdiv 112).fmod 4 == 1 with
    | true =>
      have st : store (.lst (tVs (pW m gs k (sgs (wro.getD i (B "", B "")).1)))) (.int 0) (.str (B "in 61")) = some (.lst (tVs (pW 61 gs k (sgs (wro.getD i (B "", B "")).1)))) := by
        rw [in61]
        exact if_pos ⟨Int.le_refl 0, by rw [List.length_map]; exact Int.ofNat_lt.mpr (Nat.succ_pos _)⟩
      exact i_pos rfl <| s_Sto rfl <| w_cst ⟨nofun, rfl, w_cst <| nd st <| s_nil <| way4a m gs ok c k i hk hi 61 (.inr rfl) N K Q X h _ _ _ _ _ _ _ _ _ _⟩
    | false => exact i_neg (by decide) <| s_nil <| way4a m gs ok c k i hk hi m (.inl rfl) N K Q X h _ _ _ _ _ _ _ _ _ _
end
theorem law_wp (ns : List Int) (N : Rho → Prop) (Q : AV → Md → Prop) (X : Rho → Str → Prop) (h : Q (.bool true) .fr) : wpSs T6 ms_law (rho0 12 [.lst (ns.map .int)]) N (fun _ => False) Q X := by
  refine s_Asg <| w_2vc rfl <| up4 <| .planBy (most := 60) (by decide) (by decide) fun m gs ok => ⟨nofun, ?_⟩
  have rl : (tVs (rowsL m gs)).length = gs.length + 1 := by unfold rowsL; rw [List.length_map, List.length_cons, List.length_map]
  refine s_Asm <| w_1v rfl <| up1 <| .textOf ok ⟨rfl, s_Asg <| w_2vc rfl <| up1 <| .cell (by decide) ⟨nofun, ?_⟩⟩
  generalize ns.getD (2 : Int).toNat 0 = c
  have pos : (0 : Int) < ((gs.length + 1 : Nat) : Int) := Int.ofNat_lt.mpr (Nat.succ_pos _)
  obtain ⟨q1, q2⟩ := mixF_lt c 8 _ pos
  obtain ⟨j, hj⟩ := Int.eq_ofNat_of_zero_le q1
  have hj2 : j < gs.length + 1 := by rw [hj] at q2; exact Int.ofNat_lt.mp q2
  refine s_Asg <| w_bin <| w_cst <| w_call <| w_cv rfl <| w_cc <| w_cons <| w_len b6.toBas0 rfl <| w_nil ?_
  rw [rl]
  refine up1 <| .mixed pos ?_
  rw [hj]
  have e1 : binop .Add (.int 1) (.int (j : Int)) = some (.int ((j + 1 : Nat) : Int)) := by rw [add_int, Int.add_comm]; rfl
  refine nd e1 ⟨nofun, s_Asg <| w_bvc rfl <| nd (mod_int _ 7 (by decide)) ⟨nofun, ?_⟩⟩
  have go : ∀ (k : Int) (b : List MS) (ss : List MS), (wpSs T6 b (rhoL ns m gs c (j + 1)) (fun ρ' => wpSs T6 ss ρ' N (fun _ => False) Q X) (fun _ => False) Q X) → wpSs T6 ss (rhoL ns m gs c (j + 1)) N (fun _ => False) Q X → wpSs T6 (.ite (.cmp .Eq (.var 5) (.cst (.int k))) b [] :: ss) (rhoL ns m gs c (j + 1)) N (fun _ => False) Q X := fun k b ss h1 h2 => by
    refine s_Ite <| t_cvc rfl <| nd (eq_int ..) ?_
    cases c.fmod 7 == k with
    | true => exact i_pos rfl h1
    | false => exact i_neg (by decide) <| s_nil h2
  have a1 : 1 ≤ j + 1 := Nat.succ_le_succ (Nat.zero_le _)
  exact go 1 _ _ (way1 ns m gs ok c _ _ _ Q X h) <| go 2 _ _ (way2 ns m gs ok c _ a1 hj2 _ _ Q X h) <| go 3 _ _ (way3 ns m gs ok c _ _ _ Q X h) <| go 4 _ _ (way4 ns m gs ok c _ a1 hj2 _ _ Q X h) <| go 5 _ _ (way5 ns m gs ok c _ _ _ Q X h) <| end_wp ns m gs ok c _ _ _ Q X h
end L14
end Mine

namespace Mine
open PySem PyProof.Rows PySem.W
namespace L14
open LP

noncomputable def gt : GT := ⟨[(B "wants"), (B "check_gate"), (B "checked"), (B "written"), (B "number_of"), (B "gate_of"), (B "read"), (B "_law_cell_at"), (B "_law_whole"), (B "_law_mixed"), (B "_law_many"), (B "_law_gate_by"), (B "_law_gates_by"), (B "_law_place"), (B "_law_turned"), (B "_law_loose"), (B "_law_plan_by"), (B "_law_same_plan"), (B "_law_text_of"), (B "_law_odd_head"), (B "_law_odd_row"), (B "_law_sign_by"), (B "_law_figures"), (B "_law_gate_of"), (B "_law_parsed"), (B "_law_fault"), (B "_law_due"), (B "_law_judged"), (B "_law_wrong_row"), (B "_law_class"), (B "_law_refused"), (B "law")], [(B "SOURCES"), (B "MOST_INPUTS"), (B "MOST_GATES"), (B "MOST_DELAY"), (B "FIGURES"), (B "LETTERS"), (B "MOST_FIGURES")], [(B "SignalError"), (B "NoSize"), (B "NoKind"), (B "NoSources"), (B "NoLine"), (B "NoDelay"), (B "NoValues"), (B "Ringed"), (B "NoDeed"), (B "NoText")], [(B "len"), (B "range"), (B "list"), (B "tuple"), (B "all"), (B "any"), (B "max"), (B "min"), (B "sorted"), (B "int"), (B "set"), (B "str"), (B "isinstance"), (B "bool"), (B "ValueError")]⟩
noncomputable def tbl : List (Str × Addr) := [(B "SignalError", 24), (B "NoSize", 37), (B "NoKind", 49), (B "NoSources", 61), (B "NoLine", 73), (B "NoDelay", 85), (B "NoValues", 97), (B "Ringed", 109), (B "NoDeed", 121), (B "NoText", 133)]

structure Facts (K : Frag) : Prop where
  wants : Fn K gt (B "wants") ms_wants 1 1
  check : Fn K gt (B "check_gate") ms_check_gate 2 5
  checked : Fn K gt (B "checked") ms_checked 1 5
  written : Fn K gt (B "written") ms_written14 1 5
  number : Fn K gt (B "number_of") ms_number_of 1 2
  gateOf : Fn K gt (B "gate_of") ms_gate_of 1 4
  read : Fn K gt (B "read") ms_read 1 4
  cell : Fn K gt (B "_law_cell_at") ms_cell 2 2
  whole : Fn K gt (B "_law_whole") ms_whole 1 1
  mixed : Fn K gt (B "_law_mixed") ms_mixed 3 4
  many : Fn K gt (B "_law_many") ms_many 1 1
  gate : Fn K gt (B "_law_gate_by") ms_gate_by 3 7
  gates : Fn K gt (B "_law_gates_by") ms_gates_by 3 8
  place : Fn K gt (B "_law_place") ms_place 3 3
  turned : Fn K gt (B "_law_turned") ms_turned 3 7
  loose : Fn K gt (B "_law_loose") ms_loose 3 7
  planBy : Fn K gt (B "_law_plan_by") ms_plan_by 2 3
  same : Fn K gt (B "_law_same_plan") ms_same 2 4
  textOf : Fn K gt (B "_law_text_of") ms_text_of 1 5
  oddHead : Fn K gt (B "_law_odd_head") ms_odd_head 1 2
  oddRow : Fn K gt (B "_law_odd_row") ms_odd_row 1 2
  signBy : Fn K gt (B "_law_sign_by") ms_sign_by 1 2
  figures : Fn K gt (B "_law_figures") ms_figures 1 1
  lgate : Fn K gt (B "_law_gate_of") ms_lgate 1 3
  parsed : Fn K gt (B "_law_parsed") ms_parsed 1 3
  fault : Fn K gt (B "_law_fault") ms_fault 2 5
  due : Fn K gt (B "_law_due") ms_due 1 3
  judged : Fn K gt (B "_law_judged") ms_judged 1 2
  wrongRow : Fn K gt (B "_law_wrong_row") ms_wrong_row 1 2
  cls : Fn K gt (B "_law_class") ms_class 1 2
  refused : Fn K gt (B "_law_refused") ms_refused14 2 3
  law : Fn K gt (B "law") L14.ms_law 1 12
  chk : excChk K tbl = true
  nog : (bisT.map (·.1)).all (fun f => nsIn K mainGlobals f == some none) = true

section
variable {G : Gd} {K : Frag} (X : K.In G.base) (H : Facts K)
include X H

theorem noG : NoG G (bisT.map (·.1)) := fun f hf => mg_none_of X G.g (eq_of_beq (List.all_eq_true.mp H.nog f hf))

theorem gtOk (hc : ∀ f, gt.cls.contains f = true → Raisable G f) : GtOk G gt := by
  refine ⟨AllC.at (.cons (H.wants.callee X) <| .cons (H.check.callee X) <| .cons (H.checked.callee X) <| .cons (H.written.callee X) <| .cons (H.number.callee X) <| .cons (H.gateOf.callee X) <| .cons (H.read.callee X) <| .cons (H.cell.callee X) <| .cons (H.whole.callee X) <| .cons (H.mixed.callee X) <| .cons (H.many.callee X) <| .cons (H.gate.callee X) <| .cons (H.gates.callee X) <| .cons (H.place.callee X) <| .cons (H.turned.callee X) <| .cons (H.loose.callee X) <| .cons (H.planBy.callee X) <| .cons (H.same.callee X) <| .cons (H.textOf.callee X) <| .cons (H.oddHead.callee X) <| .cons (H.oddRow.callee X) <| .cons (H.signBy.callee X) <| .cons (H.figures.callee X) <| .cons (H.lgate.callee X) <| .cons (H.parsed.callee X) <| .cons (H.fault.callee X) <| .cons (H.due.callee X) <| .cons (H.judged.callee X) <| .cons (H.wrongRow.callee X) <| .cons (H.cls.callee X) <| .cons (H.refused.callee X) <| .cons (H.law.callee X) <| .nil), bis_ok (noG X H), fun f hf => ?_⟩
  · obtain ⟨C, _, _, _, _, O, _⟩ := id (hc f hf)
    exact ⟨.ref C, .inl O.bound, hc f hf⟩
theorem bOk : BiOk G T0.bis := .cons (bis_at (noG X H) (F := .type "int") (by decide)) int_ok <| .cons (bis_at (noG X H) (F := .type "str") (by decide)) str_ok <| bis4_of (noG X H)
theorem lbOk : LBiOk G T0.lbis := .cons (bis_at (noG X H) (F := .builtin "all") (by decide)) all_ok <| .nil

variable (Y : Excs G K tbl) (hd : ∀ n v, T0.data n = some v → ∃ x, G.mg n = some x ∧ VR G (fun a => G.base.get? a = none) G.base v x) (g : GtOk G gt)
include Y hd
theorem mk {d : Nat} {t : Th} (h1 : t.data = T0.data) (h2 : t.bis = T0.bis) (h3 : t.lbis = T0.lbis) (h4 : t.sub = T0.sub) (hc : ∀ f args Q X, t.call f args Q X → SemCall G d t.loops f args Q X) (hh : ∀ f args Q X, t.callH f args Q X → SemCall G d false f args Q X) : ThG G d t := by
  have hs : t.sub = subT (tbl.map (·.1)) := h4
  exact ⟨by rw [h1]; exact hd, hc, hh, by rw [h2]; exact bOk X H, isi_of (noG X H) fun c f b q => Y.isi hs q, Y.subOk hs, by rw [h3]; exact lbOk X H⟩
theorem th0 : ThG G 0 T0 := mk X H Y hd rfl rfl rfl rfl (fun _ _ _ _ h => h.elim) (fun _ _ _ _ h => h.elim)
theorem thH : ThG G 0 TH := mk X H Y hd rfl rfl rfl rfl (fun _ _ _ _ h => h.elim) (fun _ _ _ _ h => h.elim)
include g
theorem callH {f : Str} {args : List AV} {Q : AV → Md → Prop} {X' : Str → Prop} (h : CH f args Q X') : SemCall G 1 false f args Q X' := by
  have tt := thH X H Y hd
  cases h with
  | cls hm h => exact H.cls.call X g tt rfl (class_wp ⟨fun _ => rfl, fun _ => rfl, fun _ => rfl, fun _ => rfl⟩ rfl _ _ hm _ Q _ h)
theorem call1 {f : Str} {args : List AV} {Q : AV → Md → Prop} {X' : Str → Prop} (h : C1 f args Q X') : SemCall G 1 true f args Q X' := by
  have tt := th0 X H Y hd
  cases h with
  | wants hk h => exact H.wants.call X g tt rfl (wants_yes rfl hk _ Q _ h)
  | wantsN hk h => exact H.wants.call X g tt rfl (wants_no rfl rfl hk _ Q _ fun _ => h)
  | cell hk h => exact H.cell.call X g tt rfl (cell_wp ⟨⟨fun _ => rfl, fun _ => rfl, fun _ => rfl, fun _ => rfl⟩, rfl⟩ _ _ hk _ Q _ h)
  | whole h => exact H.whole.call X g tt rfl (whole_wp _ _ Q _ h)
  | mixed hn' h => exact H.mixed.call X g tt rfl (mixed_wp _ _ _ hn' _ Q _ h)
  | many h => exact H.many.call X g tt rfl (many_wp _ _ Q _ h)
  | place hn' h => exact H.place.call X g tt rfl (place_wp _ _ _ hn' _ Q _ h)
  | number h1 h2 => exact H.number.call X g tt rfl (number_wp (t := T0) ⟨⟨fun _ => rfl, fun _ => rfl, fun _ => rfl, fun _ => rfl⟩, rfl⟩ (fun _ => rfl) rfl rfl _ _ Q _ h1 fun e _ => h2 e)
  | figures h => exact H.figures.call X g tt rfl (figures_wp (t := T0) ⟨⟨fun _ => rfl, fun _ => rfl, fun _ => rfl, fun _ => rfl⟩, rfl⟩ (fun _ => rfl) (fun _ => rfl) _ _ Q _ h)
  | oddHead h => exact H.oddHead.call X g tt rfl (odd_head_wp _ _ Q _ h)
  | oddRow h => exact H.oddRow.call X g tt rfl (odd_row_wp _ _ Q _ h)
  | signBy h => exact H.signBy.call X g tt rfl (sign_by_wp _ _ Q _ h)
  | wrongRow h => exact H.wrongRow.call X g tt rfl (wrong_row_wp _ _ Q _ h)
  | fault hz h => exact H.fault.call X g tt rfl (fault_wp (t := T0) ⟨⟨fun _ => rfl, fun _ => rfl, fun _ => rfl, fun _ => rfl⟩, rfl⟩ (fun _ => rfl) (fun _ => rfl) _ _ hz _ Q _ h)
  | textOf ok h => exact H.textOf.call X g tt rfl (text_of_wp (t := T0) ⟨⟨fun _ => rfl, fun _ => rfl, fun _ => rfl, fun _ => rfl⟩, rfl⟩ (fun _ => rfl) _ _ ok _ Q _ h)
theorem th1 : ThG G 1 T1 := mk X H Y hd rfl rfl rfl rfl (fun _ _ _ _ h => call1 X H Y hd g h) (fun _ _ _ _ h => (callH X H Y hd g h).deep (by decide))
theorem call2 {f : Str} {args : List AV} {Q : AV → Md → Prop} {X' : Str → Prop} (h : C2 f args Q X') : SemCall G 2 true f args Q X' := by
  have tt := th1 X H Y hd g
  cases h with
  | old h => exact (call1 X H Y hd g h).deep (by decide)
  | check ok h => exact H.check.call X g tt rfl (check_gate_wp (t := T1) ⟨⟨fun _ => rfl, fun _ => rfl, fun _ => rfl, fun _ => rfl⟩, rfl⟩ rfl (fun _ _ _ _ hk h => .wants hk h) _ _ ok _ Q _ fun _ => h)
  | checkN bad hc h => exact H.check.call X g tt rfl (check_bad (t := T1) ⟨⟨fun _ => rfl, fun _ => rfl, fun _ => rfl, fun _ => rfl⟩, rfl⟩ rfl (fun _ _ _ _ hk h => .wants hk h) (fun _ _ _ hk h => .wantsN hk h) bad hc _ Q _ fun _ => h)
  | gate hm h => exact H.gate.call X g tt rfl (gate_by_wp (t := T1) ⟨⟨fun _ => rfl, fun _ => rfl, fun _ => rfl, fun _ => rfl⟩, rfl⟩ (fun _ _ _ _ _ h1 h2 => .mixed h1 h2) _ _ _ hm _ Q _ h)
  | turned hl ok h => exact H.turned.call X g tt rfl (turned_wp (t := T1) ⟨⟨fun _ => rfl, fun _ => rfl, fun _ => rfl, fun _ => rfl⟩, rfl⟩ (fun _ _ _ _ _ h1 h2 => .place h1 h2) _ _ _ hl ok _ _ Q _ h)
  | gateOf hz h1 h2 => exact H.gateOf.call X g tt rfl (gate_of_wp (t := T1) ⟨⟨fun _ => rfl, fun _ => rfl, fun _ => rfl, fun _ => rfl⟩, rfl⟩ (fun _ _ _ h1 h2 => .number h1 h2) rfl _ hz _ Q _ h1 fun e _ => h2 e)
  | lgate hz h => exact H.lgate.call X g tt rfl (lgate_wp (t := T1) ⟨⟨fun _ => rfl, fun _ => rfl, fun _ => rfl, fun _ => rfl⟩, rfl⟩ (fun _ => rfl) (fun _ _ _ h => .figures h) _ hz _ Q _ h)
  | same ok h => exact H.same.call X g tt rfl (same_wp (t := T1) ⟨⟨fun _ => rfl, fun _ => rfl, fun _ => rfl, fun _ => rfl⟩, rfl⟩ (fun _ => rfl) (fun _ _ _ h => .whole h) _ _ (Nat.le_trans ok.len (by decide)) (fun g hg => (fit_le (ok.ok g hg).kind (ok.ok g hg).fit).2.2) _ Q _ h)
theorem th2 : ThG G 2 T2 := mk X H Y hd rfl rfl rfl rfl (fun _ _ _ _ h => call2 X H Y hd g h) (fun _ _ _ _ h => (callH X H Y hd g h).deep (by decide))
theorem call3 {f : Str} {args : List AV} {Q : AV → Md → Prop} {X' : Str → Prop} (h : C3 f args Q X') : SemCall G 3 true f args Q X' := by
  have tt := th2 X H Y hd g
  cases h with
  | old h => exact (call2 X H Y hd g h).deep (by decide)
  | checked ok h => exact H.checked.call X g tt rfl (checked_wp (t := T2) ⟨⟨fun _ => rfl, fun _ => rfl, fun _ => rfl, fun _ => rfl⟩, rfl⟩ rfl rfl (fun _ _ _ _ h1 h2 => .check h1 h2) _ _ ok _ Q _ h)
  | checkedN bad h => exact H.checked.call X g tt rfl (checked_bad (t := T2) ⟨⟨fun _ => rfl, fun _ => rfl, fun _ => rfl, fun _ => rfl⟩, rfl⟩ rfl rfl (fun _ _ _ _ h1 h2 => .check h1 h2) (fun _ _ _ _ _ _ _ _ h1 h2 h3 => .checkN h1 h2 h3) bad _ Q _ fun _ => h)
  | gates hm h => exact H.gates.call X g tt rfl (gates_by_wp (t := T2) ⟨⟨fun _ => rfl, fun _ => rfl, fun _ => rfl, fun _ => rfl⟩, rfl⟩ (fun _ _ _ _ _ h1 h2 => .gate h1 h2) (fun _ _ _ _ h1 h2 => .old (.cell h1 h2)) _ _ _ hm _ Q _ h)
  | loose hm h => exact H.loose.call X g tt rfl (loose_wp (t := T2) ⟨⟨fun _ => rfl, fun _ => rfl, fun _ => rfl, fun _ => rfl⟩, rfl⟩ (fun _ _ _ _ _ h1 h2 => .gate h1 h2) (fun _ _ _ _ h1 h2 => .old (.cell h1 h2)) _ _ _ hm _ Q _ h)
  | parsed hz h => exact H.parsed.call X g tt rfl (parsed_wp (t := T2) ⟨⟨fun _ => rfl, fun _ => rfl, fun _ => rfl, fun _ => rfl⟩, rfl⟩ (fun _ _ _ h => .old (.figures h)) (fun _ _ _ h1 h2 => .lgate h1 h2) _ hz _ Q _ h)
theorem th3 : ThG G 3 T3 := mk X H Y hd rfl rfl rfl rfl (fun _ _ _ _ h => call3 X H Y hd g h) (fun _ _ _ _ h => (callH X H Y hd g h).deep (by decide))
theorem call4 {f : Str} {args : List AV} {Q : AV → Md → Prop} {X' : Str → Prop} (h : C4 f args Q X') : SemCall G 4 true f args Q X' := by
  have tt := th3 X H Y hd g
  cases h with
  | old h => exact (call3 X H Y hd g h).deep (by decide)
  | planBy hm hm' h => exact H.planBy.call X g tt rfl (plan_by_wp (t := T3) (fun _ _ _ _ h1 h2 => .old (.old (.cell h1 h2))) (fun _ _ _ h => .old (.old (.many h))) (fun _ _ _ _ _ h1 h2 => .gates h1 h2) (fun _ _ _ _ _ _ h1 h2 h3 => .old (.turned h1 h2 h3)) (fun _ _ _ _ _ h1 h2 => .loose h1 h2) _ _ hm hm' _ Q _ h)
  | read hz h0 h2 => exact H.read.call X g tt rfl (readO_wp (t := T3) ⟨⟨fun _ => rfl, fun _ => rfl, fun _ => rfl, fun _ => rfl⟩, rfl⟩ (fun _ _ _ h1 h2 => .old (.old (.number h1 h2))) (fun _ _ _ h1 h2 h3 => .old (.gateOf h1 h2 h3)) (fun _ _ _ _ h1 h2 => .checked h1 h2) (fun _ _ _ _ h1 h2 => .checkedN h1 h2) _ hz _ Q _ (fun c w e _ => h0 c w e) h2)
  | due hz h => exact H.due.call X g tt rfl (due_wp (t := T3) ⟨⟨fun _ => rfl, fun _ => rfl, fun _ => rfl, fun _ => rfl⟩, rfl⟩ (fun _ _ _ h1 h2 => .parsed h1 h2) (fun _ _ _ _ h1 h2 => .old (.old (.fault h1 h2))) _ hz _ Q _ h)
  | written ok h => exact H.written.call X g tt rfl (written14_wp (t := T3) ⟨⟨fun _ => rfl, fun _ => rfl, fun _ => rfl, fun _ => rfl⟩, rfl⟩ (fun _ _ _ _ h1 h2 => .checked h1 h2) (fun _ => rfl) _ _ ok _ Q _ h)
theorem th4 : ThG G 4 T4 := mk X H Y hd rfl rfl rfl rfl (fun _ _ _ _ h => call4 X H Y hd g h) (fun _ _ _ _ h => (callH X H Y hd g h).deep (by decide))
theorem call5 {f : Str} {args : List AV} {Q : AV → Md → Prop} {X' : Str → Prop} (h : C5 f args Q X') : SemCall G 5 true f args Q X' := by
  have tt := th4 X H Y hd g
  cases h with
  | old h => exact (call4 X H Y hd g h).deep (by decide)
  | refused hz hv h => exact H.refused.call X g tt rfl (refused14_wp (t := T4) (fun _ _ _ h1 h2 h3 => .read h1 h2 h3) rfl (fun _ _ _ _ h1 h2 => .cls h1 h2) _ hz _ _ hv _ Q _ h)
theorem th5 : ThG G 5 T5 := mk X H Y hd rfl rfl rfl rfl (fun _ _ _ _ h => call5 X H Y hd g h) (fun _ _ _ _ h => (callH X H Y hd g h).deep (by decide))
theorem call6 {f : Str} {args : List AV} {Q : AV → Md → Prop} {X' : Str → Prop} (h : C6 f args Q X') : SemCall G 6 true f args Q X' := by
  have tt := th5 X H Y hd g
  cases h with
  | old h => exact (call5 X H Y hd g h).deep (by decide)
  | judged hz h => exact H.judged.call X g tt rfl (judged_wp (t := T5) (fun _ _ _ h1 h2 => .old (.due h1 h2)) (fun _ _ _ h1 h2 h3 => .old (.read h1 h2 h3)) (fun _ _ _ h1 h2 => .old (.old (.parsed h1 h2))) (fun _ _ _ _ _ h1 h2 h3 => .refused h1 h2 h3) (fun _ _ _ _ h1 h2 => .old (.old (.old (.same h1 h2)))) _ hz _ Q _ h)
theorem th6 : ThG G 6 T6 := mk X H Y hd rfl rfl rfl rfl (fun _ _ _ _ h => call6 X H Y hd g h) (fun _ _ _ _ h => (callH X H Y hd g h).deep (by decide))

theorem law_sem (ns : List Int) : SemCall G 7 true (B "law") [.lst (ns.map .int)] (fun v _ => v = .bool true) (fun _ => False) :=
  H.law.call X g (th6 X H Y hd g) rfl (law_wp ns _ _ _ rfl)
end

theorem law_all {G : Gd} {K : Frag} (X : K.In G.base) (H : Facts K) (hcls : ∀ c, G.cls c = (tbl.lookup c).map .ref) {p : Program} {loose : List Str} (T : TopRead p loose G.mg G.mb G.base)
    (tab : ∃ x, G.mg (B "SOURCES") = some x ∧ VR G (fun a => G.base.get? a = none) G.base tabAV x) (d0 : ∃ x, G.mg (B "MOST_INPUTS") = some x ∧ VR G (fun a => G.base.get? a = none) G.base (.int 60) x) (d1 : ∃ x, G.mg (B "MOST_GATES") = some x ∧ VR G (fun a => G.base.get? a = none) G.base (.int 200) x) (d2 : ∃ x, G.mg (B "MOST_DELAY") = some x ∧ VR G (fun a => G.base.get? a = none) G.base (.int 60) x) (d3 : ∃ x, G.mg (B "FIGURES") = some x ∧ VR G (fun a => G.base.get? a = none) G.base (.str (B "0123456789")) x) (d4 : ∃ x, G.mg (B "LETTERS") = some x ∧ VR G (fun a => G.base.get? a = none) G.base (.str (B "abcdefghijklmnopqrstuvwxyz")) x) (d5 : ∃ x, G.mg (B "MOST_FIGURES") = some x ∧ VR G (fun a => G.base.get? a = none) G.base (.int 9) x) (ns : List Int) : SemCall G 7 true (B "law") [.lst (ns.map .int)] (fun v _ => v = .bool true) (fun _ => False) := by
  have Y : Excs G K tbl := ⟨X, hcls, H.chk, by decide, noG X H _ (by decide)⟩
  refine law_sem X H Y (fun n v h => ?_) (gtOk X H fun f hf => Y.raisable T (by exact hf)) ns
  have h : (if n = B "SOURCES" then some tabAV else if n = B "MOST_INPUTS" then some (.int 60) else if n = B "MOST_GATES" then some (.int 200) else if n = B "MOST_DELAY" then some (.int 60) else if n = B "FIGURES" then some (.str (B "0123456789")) else if n = B "LETTERS" then some (.str (B "abcdefghijklmnopqrstuvwxyz")) else if n = B "MOST_FIGURES" then some (.int 9) else none) = some v := h
  split at h
  next e =>
    subst e
    cases h
    exact tab
  split at h
  next e =>
    subst e
    cases h
    exact d0
  split at h
  next e =>
    subst e
    cases h
    exact d1
  split at h
  next e =>
    subst e
    cases h
    exact d2
  split at h
  next e =>
    subst e
    cases h
    exact d3
  split at h
  next e =>
    subst e
    cases h
    exact d4
  split at h
  next e =>
    subst e
    cases h
    exact d5
  cases h
end L14
end Mine

namespace Mine
open PySem PyProof.Rows PySem.W
namespace L14
noncomputable def fin.tw10171114134906306577 : Unit := ()
noncomputable def fin.tw10362913450530279249 : Unit := ()
noncomputable def fin.tw10397852501229956643 : Unit := ()
noncomputable def fin.tw10404741497170579860 : Unit := ()
noncomputable def fin.tw1045058012827736345 : Unit := ()
noncomputable def fin.tw10464836759896940361 : Unit := ()
noncomputable def fin.tw10482626470169479764 : Unit := ()
noncomputable def fin.tw10503381412090971614 : Unit := ()
noncomputable def fin.tw10627828392802069346 : Unit := ()
noncomputable def fin.tw10639071200726087420 : Unit := ()
noncomputable def fin.tw10640754125639762760 : Unit := ()
noncomputable def fin.tw10640900486488901777 : Unit := ()
noncomputable def fin.tw10653017083206837726 : Unit := ()
noncomputable def fin.tw10723716108730719210 : Unit := ()
noncomputable def fin.tw10746186781218116463 : Unit := ()
noncomputable def fin.tw10760195449520629371 : Unit := ()
noncomputable def fin.tw10846968941462669597 : Unit := ()
noncomputable def fin.tw10918480897413782254 : Unit := ()
noncomputable def fin.tw10946025418480721216 : Unit := ()
noncomputable def fin.tw10966222899877898602 : Unit := ()
noncomputable def fin.tw1101146373160312160 : Unit := ()
noncomputable def fin.tw11057743100287568286 : Unit := ()
noncomputable def fin.tw11096256087977540875 : Unit := ()
noncomputable def fin.tw11115775270161249854 : Unit := ()
noncomputable def fin.tw11116583145453478611 : Unit := ()
noncomputable def fin.tw11167815877304623078 : Unit := ()
noncomputable def fin.tw11179542376653629282 : Unit := ()
noncomputable def fin.tw11192206318450766456 : Unit := ()
noncomputable def fin.tw11199111910922633625 : Unit := ()
noncomputable def fin.tw11240135046250577750 : Unit := ()
noncomputable def fin.tw11251998142122281474 : Unit := ()
noncomputable def fin.tw11257240144900589502 : Unit := ()
noncomputable def fin.tw11280794540838430786 : Unit := ()
noncomputable def fin.tw113005945853528360 : Unit := ()
noncomputable def fin.tw11328670795455331254 : Unit := ()
noncomputable def fin.tw11379601510421581112 : Unit := ()
noncomputable def fin.tw11417668166515735160 : Unit := ()
noncomputable def fin.tw11435773506327501764 : Unit := ()
noncomputable def fin.tw11724992506967001985 : Unit := ()
noncomputable def fin.tw11746997692445781086 : Unit := ()
noncomputable def fin.tw11806347049037090767 : Unit := ()
noncomputable def fin.tw11857736948664759361 : Unit := ()
noncomputable def fin.tw11868836842752783817 : Unit := ()
noncomputable def fin.tw12018763333158754668 : Unit := ()
noncomputable def fin.tw12020673412468751871 : Unit := ()
noncomputable def fin.tw12031070570432697650 : Unit := ()
noncomputable def fin.tw12055816160761039896 : Unit := ()
noncomputable def fin.tw12204543434944033477 : Unit := ()
noncomputable def fin.tw12364428664315338601 : Unit := ()
noncomputable def fin.tw12367879710164805766 : Unit := ()
noncomputable def fin.tw12412639226665748465 : Unit := ()
noncomputable def fin.tw12432284374475602759 : Unit := ()
noncomputable def fin.tw1245234374608858471 : Unit := ()
noncomputable def fin.tw1249078257595376854 : Unit := ()
noncomputable def fin.tw12507643351451943945 : Unit := ()
noncomputable def fin.tw12541165579703839761 : Unit := ()
noncomputable def fin.tw12658071593577080482 : Unit := ()
noncomputable def fin.tw12747189218563085696 : Unit := ()
noncomputable def fin.tw1280249311755120057 : Unit := ()
noncomputable def fin.tw1282282447867999578 : Unit := ()
noncomputable def fin.tw12873677994893845943 : Unit := ()
noncomputable def fin.tw12885764753105877932 : Unit := ()
noncomputable def fin.tw12931503024550864103 : Unit := ()
noncomputable def fin.tw12933853775547117543 : Unit := ()
noncomputable def fin.tw12992183283173092195 : Unit := ()
noncomputable def fin.tw130568625337715290 : Unit := ()
noncomputable def fin.tw13073927435962896195 : Unit := ()
noncomputable def fin.tw13098520075279936397 : Unit := ()
noncomputable def fin.tw131738411901777316 : Unit := ()
noncomputable def fin.tw13194319787705526464 : Unit := ()
noncomputable def fin.tw13198213990968977223 : Unit := ()
noncomputable def fin.tw13289797829408367212 : Unit := ()
noncomputable def fin.tw13350674296749119191 : Unit := ()
noncomputable def fin.tw13391456881300376437 : Unit := ()
noncomputable def fin.tw13446765130058183538 : Unit := ()
noncomputable def fin.tw13476482520181414171 : Unit := ()
noncomputable def fin.tw13488151437152026501 : Unit := ()
noncomputable def fin.tw13506622268641690991 : Unit := ()
noncomputable def fin.tw1351540226699224747 : Unit := ()
noncomputable def fin.tw13575756147517772684 : Unit := ()
noncomputable def fin.tw13669312066633067478 : Unit := ()
noncomputable def fin.tw13711033680295374695 : Unit := ()
noncomputable def fin.tw13747186959723047392 : Unit := ()
noncomputable def fin.tw13820448661556724484 : Unit := ()
noncomputable def fin.tw1386113028775864404 : Unit := ()
noncomputable def fin.tw13872727434400548764 : Unit := ()
noncomputable def fin.tw13980148303720288275 : Unit := ()
noncomputable def fin.tw14023397006619709558 : Unit := ()
noncomputable def fin.tw14029604660360925859 : Unit := ()
noncomputable def fin.tw14038863205167500854 : Unit := ()
noncomputable def fin.tw14078548145539454253 : Unit := ()
noncomputable def fin.tw14162150539081744329 : Unit := ()
noncomputable def fin.tw14201861210952399171 : Unit := ()
noncomputable def fin.tw14221332527126906774 : Unit := ()
noncomputable def fin.tw14258885682374972939 : Unit := ()
noncomputable def fin.tw14330414962477499643 : Unit := ()
noncomputable def fin.tw14409617093810707773 : Unit := ()
noncomputable def fin.tw14436191511294832424 : Unit := ()
noncomputable def fin.tw14459048718231922090 : Unit := ()
noncomputable def fin.tw1446856750194633472 : Unit := ()
noncomputable def fin.tw14479891288500642451 : Unit := ()
noncomputable def fin.tw14487183187470770411 : Unit := ()
noncomputable def fin.tw14491736121971500257 : Unit := ()
noncomputable def fin.tw14492211153820010476 : Unit := ()
noncomputable def fin.tw14508122319152835056 : Unit := ()
noncomputable def fin.tw14554981667490651940 : Unit := ()
noncomputable def fin.tw14555567201241313618 : Unit := ()
noncomputable def fin.tw14578010819819926063 : Unit := ()
noncomputable def fin.tw14599585168016023896 : Unit := ()
noncomputable def fin.tw14639353589443283701 : Unit := ()
noncomputable def fin.tw14738526381890525368 : Unit := ()
noncomputable def fin.tw14795677406402182843 : Unit := ()
noncomputable def fin.tw1481366196086814272 : Unit := ()
noncomputable def fin.tw1488624737300710506 : Unit := ()
noncomputable def fin.tw14913841587091324751 : Unit := ()
noncomputable def fin.tw14943316664197323904 : Unit := ()
noncomputable def fin.tw14987577146952610183 : Unit := ()
noncomputable def fin.tw15099035806076124638 : Unit := ()
noncomputable def fin.tw15123009897516207624 : Unit := ()
noncomputable def fin.tw15143220752928681732 : Unit := ()
noncomputable def fin.tw1518544102055628771 : Unit := ()
noncomputable def fin.tw15270551810118404444 : Unit := ()
noncomputable def fin.tw15280373526218582524 : Unit := ()
noncomputable def fin.tw15318416315569591142 : Unit := ()
noncomputable def fin.tw15323052161844379376 : Unit := ()
noncomputable def fin.tw1538403123825413010 : Unit := ()
noncomputable def fin.tw15420854989618078115 : Unit := ()
noncomputable def fin.tw15421427646361402862 : Unit := ()
noncomputable def fin.tw15439717972250093392 : Unit := ()
noncomputable def fin.tw15451675945672372535 : Unit := ()
noncomputable def fin.tw15476206715250978886 : Unit := ()
noncomputable def fin.tw15571463134233943518 : Unit := ()
noncomputable def fin.tw15600333351250777690 : Unit := ()
noncomputable def fin.tw15620166154543874958 : Unit := ()
noncomputable def fin.tw15621594986519214097 : Unit := ()
noncomputable def fin.tw1572931213243914020 : Unit := ()
noncomputable def fin.tw15733432603222462819 : Unit := ()
noncomputable def fin.tw1576036443927571088 : Unit := ()
noncomputable def fin.tw15873694389051967037 : Unit := ()
noncomputable def fin.tw15886544186541602767 : Unit := ()
noncomputable def fin.tw15979633785661282474 : Unit := ()
noncomputable def fin.tw16035736427298976388 : Unit := ()
noncomputable def fin.tw16079381134544371460 : Unit := ()
noncomputable def fin.tw16129986287317201149 : Unit := ()
noncomputable def fin.tw16133472074548336368 : Unit := ()
noncomputable def fin.tw16181288151227624678 : Unit := ()
noncomputable def fin.tw1624469698398650468 : Unit := ()
noncomputable def fin.tw16275663035519358423 : Unit := ()
noncomputable def fin.tw16304520419047805347 : Unit := ()
noncomputable def fin.tw16334236628641569634 : Unit := ()
noncomputable def fin.tw16351461221233906763 : Unit := ()
noncomputable def fin.tw1635539096580371114 : Unit := ()
noncomputable def fin.tw16367897457096782642 : Unit := ()
noncomputable def fin.tw16410357655573671967 : Unit := ()
noncomputable def fin.tw16462978815285624085 : Unit := ()
noncomputable def fin.tw16465713779843719955 : Unit := ()
noncomputable def fin.tw16485370664403584756 : Unit := ()
noncomputable def fin.tw16559192560732141666 : Unit := ()
noncomputable def fin.tw1658603234486663431 : Unit := ()
noncomputable def fin.tw16659593308664458801 : Unit := ()
noncomputable def fin.tw16699883794982005201 : Unit := ()
noncomputable def fin.tw16739019302401870144 : Unit := ()
noncomputable def fin.tw16769355486116133669 : Unit := ()
noncomputable def fin.tw16772912230881281942 : Unit := ()
noncomputable def fin.tw16804003865892771370 : Unit := ()
noncomputable def fin.tw1684686138431547035 : Unit := ()
noncomputable def fin.tw16946076795450431984 : Unit := ()
noncomputable def fin.tw1699905534393279512 : Unit := ()
noncomputable def fin.tw17010600454712257534 : Unit := ()
noncomputable def fin.tw17127050430535432630 : Unit := ()
noncomputable def fin.tw1730535106577899018 : Unit := ()
noncomputable def fin.tw17310557675799052952 : Unit := ()
noncomputable def fin.tw17464946764506218818 : Unit := ()
noncomputable def fin.tw17478855254875547 : Unit := ()
noncomputable def fin.tw17505997452686384212 : Unit := ()
noncomputable def fin.tw1752353365505223609 : Unit := ()
noncomputable def fin.tw17651817814376153120 : Unit := ()
noncomputable def fin.tw17661296030325900760 : Unit := ()
noncomputable def fin.tw17682742846113150228 : Unit := ()
noncomputable def fin.tw17732551967646461610 : Unit := ()
noncomputable def fin.tw17792962393319744831 : Unit := ()
noncomputable def fin.tw17885314433045464146 : Unit := ()
noncomputable def fin.tw17934516558858501064 : Unit := ()
noncomputable def fin.tw17947282490541488621 : Unit := ()
noncomputable def fin.tw18069914059946321174 : Unit := ()
noncomputable def fin.tw18071184272451283073 : Unit := ()
noncomputable def fin.tw18149110702058162214 : Unit := ()
noncomputable def fin.tw18184973229420152428 : Unit := ()
noncomputable def fin.tw1826415640717597455 : Unit := ()
noncomputable def fin.tw18320535753129243004 : Unit := ()
noncomputable def fin.tw18406508741966900371 : Unit := ()
noncomputable def fin.tw1862174912150811253 : Unit := ()
noncomputable def fin.tw1894920182231977977 : Unit := ()
noncomputable def fin.tw1922092903833359115 : Unit := ()
noncomputable def fin.tw1926676949236057938 : Unit := ()
noncomputable def fin.tw1949722484157373551 : Unit := ()
noncomputable def fin.tw2111333791762402823 : Unit := ()
noncomputable def fin.tw2196047020388924499 : Unit := ()
noncomputable def fin.tw2255530721978534868 : Unit := ()
noncomputable def fin.tw2338918748702449558 : Unit := ()
noncomputable def fin.tw235238051139432249 : Unit := ()
noncomputable def fin.tw2360445747356490458 : Unit := ()
noncomputable def fin.tw2419330364255900375 : Unit := ()
noncomputable def fin.tw2439996341081827059 : Unit := ()
noncomputable def fin.tw2441339179029216525 : Unit := ()
noncomputable def fin.tw2468028390160313345 : Unit := ()
noncomputable def fin.tw2599680608545889228 : Unit := ()
noncomputable def fin.tw2795641630641518688 : Unit := ()
noncomputable def fin.tw290115974583871050 : Unit := ()
noncomputable def fin.tw2907381374902544453 : Unit := ()
noncomputable def fin.tw2928019715628745675 : Unit := ()
noncomputable def fin.tw2957973807984830758 : Unit := ()
noncomputable def fin.tw2970384107425842029 : Unit := ()
noncomputable def fin.tw3008263885424967687 : Unit := ()
noncomputable def fin.tw30397744135359073 : Unit := ()
noncomputable def fin.tw304184511106127402 : Unit := ()
noncomputable def fin.tw3272095162440706465 : Unit := ()
noncomputable def fin.tw3280345564395389275 : Unit := ()
noncomputable def fin.tw3290475968234293669 : Unit := ()
noncomputable def fin.tw3370514514382365496 : Unit := ()
noncomputable def fin.tw3390650417632415339 : Unit := ()
noncomputable def fin.tw3455486282731619563 : Unit := ()
noncomputable def fin.tw3457085512422000203 : Unit := ()
noncomputable def fin.tw3489780396672156620 : Unit := ()
noncomputable def fin.tw3494152961750356282 : Unit := ()
noncomputable def fin.tw3699707464761622020 : Unit := ()
noncomputable def fin.tw377644666762701207 : Unit := ()
noncomputable def fin.tw3802606064947662054 : Unit := ()
noncomputable def fin.tw3820056511840900711 : Unit := ()
noncomputable def fin.tw383790239081285343 : Unit := ()
noncomputable def fin.tw3857049272530427057 : Unit := ()
noncomputable def fin.tw385929056082724774 : Unit := ()
noncomputable def fin.tw3906773211742266401 : Unit := ()
noncomputable def fin.tw3951594666700790897 : Unit := ()
noncomputable def fin.tw3971255968873389998 : Unit := ()
noncomputable def fin.tw4267647284287862114 : Unit := ()
noncomputable def fin.tw431741736990362266 : Unit := ()
noncomputable def fin.tw4350955629887621579 : Unit := ()
noncomputable def fin.tw4424360461914724334 : Unit := ()
noncomputable def fin.tw45001514872500788 : Unit := ()
noncomputable def fin.tw4589172362999102532 : Unit := ()
noncomputable def fin.tw4604022643438282238 : Unit := ()
noncomputable def fin.tw467246668600027971 : Unit := ()
noncomputable def fin.tw4690001088843817594 : Unit := ()
noncomputable def fin.tw4707195110492904453 : Unit := ()
noncomputable def fin.tw4730949174155706958 : Unit := ()
noncomputable def fin.tw4780825880967438756 : Unit := ()
noncomputable def fin.tw4785299875508061879 : Unit := ()
noncomputable def fin.tw4826462687439687858 : Unit := ()
noncomputable def fin.tw4827486703333777543 : Unit := ()
noncomputable def fin.tw4837959687542320939 : Unit := ()
noncomputable def fin.tw4895752346043656075 : Unit := ()
noncomputable def fin.tw504027076081800447 : Unit := ()
noncomputable def fin.tw5058068235835188428 : Unit := ()
noncomputable def fin.tw5115969967025194327 : Unit := ()
noncomputable def fin.tw5128016457925422330 : Unit := ()
noncomputable def fin.tw5255782986565020825 : Unit := ()
noncomputable def fin.tw5268306404248278165 : Unit := ()
noncomputable def fin.tw5298143885164624818 : Unit := ()
noncomputable def fin.tw5366724226975628412 : Unit := ()
noncomputable def fin.tw5491028047499474090 : Unit := ()
noncomputable def fin.tw5660733921085702200 : Unit := ()
noncomputable def fin.tw5706621988012643612 : Unit := ()
noncomputable def fin.tw5749723818020817224 : Unit := ()
noncomputable def fin.tw5784230387160757748 : Unit := ()
noncomputable def fin.tw6008581686431390779 : Unit := ()
noncomputable def fin.tw6033972690897399177 : Unit := ()
noncomputable def fin.tw6104918350574406299 : Unit := ()
noncomputable def fin.tw6176989175371693000 : Unit := ()
noncomputable def fin.tw6230073802032763557 : Unit := ()
noncomputable def fin.tw6252701190280855365 : Unit := ()
noncomputable def fin.tw6266421539787830139 : Unit := ()
noncomputable def fin.tw6277590627250089419 : Unit := ()
noncomputable def fin.tw6281281120601390817 : Unit := ()
noncomputable def fin.tw6345685984818121348 : Unit := ()
noncomputable def fin.tw6348897391593489063 : Unit := ()
noncomputable def fin.tw6495967483278000537 : Unit := ()
noncomputable def fin.tw6528618502938298377 : Unit := ()
noncomputable def fin.tw657949225390642927 : Unit := ()
noncomputable def fin.tw6628829145229244790 : Unit := ()
noncomputable def fin.tw6644203673870432562 : Unit := ()
noncomputable def fin.tw666655921382133624 : Unit := ()
noncomputable def fin.tw6690098845297640358 : Unit := ()
noncomputable def fin.tw6771792947595360989 : Unit := ()
noncomputable def fin.tw6792301018694603020 : Unit := ()
noncomputable def fin.tw6853335395072074263 : Unit := ()
noncomputable def fin.tw6863239847182099270 : Unit := ()
noncomputable def fin.tw6924329415845260903 : Unit := ()
noncomputable def fin.tw6939002752360118265 : Unit := ()
noncomputable def fin.tw6958391511366214991 : Unit := ()
noncomputable def fin.tw7000048039594789035 : Unit := ()
noncomputable def fin.tw7030852566144294774 : Unit := ()
noncomputable def fin.tw7065941470421733364 : Unit := ()
noncomputable def fin.tw7158639246833917973 : Unit := ()
noncomputable def fin.tw7192557993156955165 : Unit := ()
noncomputable def fin.tw719733664437229695 : Unit := ()
noncomputable def fin.tw7206493227893875477 : Unit := ()
noncomputable def fin.tw7222827653659837796 : Unit := ()
noncomputable def fin.tw7263460783389511318 : Unit := ()
noncomputable def fin.tw7275915912570465300 : Unit := ()
noncomputable def fin.tw7313864512622148817 : Unit := ()
noncomputable def fin.tw7315110459824212177 : Unit := ()
noncomputable def fin.tw7346186510664970672 : Unit := ()
noncomputable def fin.tw7446220129561041894 : Unit := ()
noncomputable def fin.tw7564003535322256416 : Unit := ()
noncomputable def fin.tw7574214432353885315 : Unit := ()
noncomputable def fin.tw7659261824812356869 : Unit := ()
noncomputable def fin.tw7723221527894138440 : Unit := ()
noncomputable def fin.tw7755144729475132520 : Unit := ()
noncomputable def fin.tw7771184691077282271 : Unit := ()
noncomputable def fin.tw7808574305541399046 : Unit := ()
noncomputable def fin.tw7874390865017636081 : Unit := ()
noncomputable def fin.tw7915345557943523440 : Unit := ()
noncomputable def fin.tw7923484834298811132 : Unit := ()
noncomputable def fin.tw8002655723407864889 : Unit := ()
noncomputable def fin.tw8034373362475776725 : Unit := ()
noncomputable def fin.tw805907954019050148 : Unit := ()
noncomputable def fin.tw8062531558342554106 : Unit := ()
noncomputable def fin.tw8093665408623925766 : Unit := ()
noncomputable def fin.tw8184359343987891499 : Unit := ()
noncomputable def fin.tw8185662092848903419 : Unit := ()
noncomputable def fin.tw8212197283506731334 : Unit := ()
noncomputable def fin.tw8238272916881733190 : Unit := ()
noncomputable def fin.tw824487110313061028 : Unit := ()
noncomputable def fin.tw83894519918277682 : Unit := ()
noncomputable def fin.tw8447487005642719803 : Unit := ()
noncomputable def fin.tw8459155197814459628 : Unit := ()
noncomputable def fin.tw8538035665451719303 : Unit := ()
noncomputable def fin.tw8628681404969270811 : Unit := ()
noncomputable def fin.tw8682227452000133890 : Unit := ()
noncomputable def fin.tw8753760497729393636 : Unit := ()
noncomputable def fin.tw8826117177741288851 : Unit := ()
noncomputable def fin.tw8915504695505962307 : Unit := ()
noncomputable def fin.tw8930287108083765538 : Unit := ()
noncomputable def fin.tw8968278254728605586 : Unit := ()
noncomputable def fin.tw9003803417960881370 : Unit := ()
noncomputable def fin.tw9025813589127329514 : Unit := ()
noncomputable def fin.tw9039001055361089972 : Unit := ()
noncomputable def fin.tw9050372261459431503 : Unit := ()
noncomputable def fin.tw9111232873510288651 : Unit := ()
noncomputable def fin.tw9199379174401173479 : Unit := ()
noncomputable def fin.tw9454669804928169988 : Unit := ()
noncomputable def fin.tw9485116123238874822 : Unit := ()
noncomputable def fin.tw9702627720488136134 : Unit := ()
noncomputable def fin.tw9743047534906970272 : Unit := ()
noncomputable def fin.tw9744671167062621289 : Unit := ()
noncomputable def fin.tw9747660228664787978 : Unit := ()
noncomputable def fin.tw9749565642375953276 : Unit := ()
noncomputable def fin.tw9873407880588924006 : Unit := ()
noncomputable def fin.tw9877450031814601170 : Unit := ()
noncomputable def fin.tw9884085044726697331 : Unit := ()
noncomputable def fin.tw9959623657008938093 : Unit := ()

set_option Elab.async true in
set_option maxHeartbeats 4000000 in
theorem fin : PySem.Challenge.rw_uf020026_14.Holds := by
  w_on
  o_law
  k_head
  case hw => w_witness2
  intro w s₀ s₁ mg mb G Y fa o pm cd doc dV kV ho hd hcd hD hmg hg args vals as hpre hlay hrd hwl hlo
  have KX := kIn_of Y
  refine Ground.open G ?_
  intro T Bb D TE TW
  clear hd hcd hD ho
  wrow_args hpre hlay hrd hwl hlo
  rename_i ns _ _ _ _ _ _ _ la vs _ hL _ _ _ hI _ hlen _
  refine enter_call ?_
  refine codeAny_mono ?_ (fun _ _ g => GoodW.toG g)
  let GG : Gd := gdOf PySem.Challenge.rw_uf020026_14.row.prog w s₁.heap #[] s₁.os mg mb tbl T.g T.b T.nolimit T.builtins T.nodigits ⟨3, _, KX 3 _ rfl, by decide⟩
  refine law_call (G := GG) (d := 7) rfl rfl rfl rfl hg rfl hmg hL hI hlen (by decide) (law_all (G := GG) KX ⟨?_, ?_, ?_, ?_, ?_, ?_, ?_, ?_, ?_, ?_, ?_, ?_, ?_, ?_, ?_, ?_, ?_, ?_, ?_, ?_, ?_, ?_, ?_, ?_, ?_, ?_, ?_, ?_, ?_, ?_, ?_, ?_, ?_, ?_⟩ (fun _ => rfl) (topRead_of T) ?_ ?_ ?_ ?_ ?_ ?_ ?_ ns)
  · exact .of rfl (by kernel_rfl) (fun xs h => by obtain ⟨a, rfl⟩ := len1 h; kernel_rfl) (by kernel_rfl)
  · exact .of rfl (by kernel_rfl) (fun xs h => by obtain ⟨a, b, rfl⟩ := len2 h; kernel_rfl) (by kernel_rfl)
  · exact .of rfl (by kernel_rfl) (fun xs h => by obtain ⟨a, rfl⟩ := len1 h; kernel_rfl) (by kernel_rfl)
  · exact .of rfl (by kernel_rfl) (fun xs h => by obtain ⟨a, rfl⟩ := len1 h; kernel_rfl) (by kernel_rfl)
  · exact .of rfl (by kernel_rfl) (fun xs h => by obtain ⟨a, rfl⟩ := len1 h; kernel_rfl) (by kernel_rfl)
  · exact .of rfl (by kernel_rfl) (fun xs h => by obtain ⟨a, rfl⟩ := len1 h; kernel_rfl) (by kernel_rfl)
  · exact .of rfl (by kernel_rfl) (fun xs h => by obtain ⟨a, rfl⟩ := len1 h; kernel_rfl) (by kernel_rfl)
  · exact .of rfl (by kernel_rfl) (fun xs h => by obtain ⟨a, b, rfl⟩ := len2 h; kernel_rfl) (by kernel_rfl)
  · exact .of rfl (by kernel_rfl) (fun xs h => by obtain ⟨a, rfl⟩ := len1 h; kernel_rfl) (by kernel_rfl)
  · exact .of rfl (by kernel_rfl) (fun xs h => by obtain ⟨a, b, c, rfl⟩ := len3 h; kernel_rfl) (by kernel_rfl)
  · exact .of rfl (by kernel_rfl) (fun xs h => by obtain ⟨a, rfl⟩ := len1 h; kernel_rfl) (by kernel_rfl)
  · exact .of rfl (by kernel_rfl) (fun xs h => by obtain ⟨a, b, c, rfl⟩ := len3 h; kernel_rfl) (by kernel_rfl)
  · exact .of rfl (by kernel_rfl) (fun xs h => by obtain ⟨a, b, c, rfl⟩ := len3 h; kernel_rfl) (by kernel_rfl)
  · exact .of rfl (by kernel_rfl) (fun xs h => by obtain ⟨a, b, c, rfl⟩ := len3 h; kernel_rfl) (by kernel_rfl)
  · exact .of rfl (by kernel_rfl) (fun xs h => by obtain ⟨a, b, c, rfl⟩ := len3 h; kernel_rfl) (by kernel_rfl)
  · exact .of rfl (by kernel_rfl) (fun xs h => by obtain ⟨a, b, c, rfl⟩ := len3 h; kernel_rfl) (by kernel_rfl)
  · exact .of rfl (by kernel_rfl) (fun xs h => by obtain ⟨a, b, rfl⟩ := len2 h; kernel_rfl) (by kernel_rfl)
  · exact .of rfl (by kernel_rfl) (fun xs h => by obtain ⟨a, b, rfl⟩ := len2 h; kernel_rfl) (by kernel_rfl)
  · exact .of rfl (by kernel_rfl) (fun xs h => by obtain ⟨a, rfl⟩ := len1 h; kernel_rfl) (by kernel_rfl)
  · exact .of rfl (by kernel_rfl) (fun xs h => by obtain ⟨a, rfl⟩ := len1 h; kernel_rfl) (by kernel_rfl)
  · exact .of rfl (by kernel_rfl) (fun xs h => by obtain ⟨a, rfl⟩ := len1 h; kernel_rfl) (by kernel_rfl)
  · exact .of rfl (by kernel_rfl) (fun xs h => by obtain ⟨a, rfl⟩ := len1 h; kernel_rfl) (by kernel_rfl)
  · exact .of rfl (by kernel_rfl) (fun xs h => by obtain ⟨a, rfl⟩ := len1 h; kernel_rfl) (by kernel_rfl)
  · exact .of rfl (by kernel_rfl) (fun xs h => by obtain ⟨a, rfl⟩ := len1 h; kernel_rfl) (by kernel_rfl)
  · exact .of rfl (by kernel_rfl) (fun xs h => by obtain ⟨a, rfl⟩ := len1 h; kernel_rfl) (by kernel_rfl)
  · exact .of rfl (by kernel_rfl) (fun xs h => by obtain ⟨a, b, rfl⟩ := len2 h; kernel_rfl) (by kernel_rfl)
  · exact .of rfl (by kernel_rfl) (fun xs h => by obtain ⟨a, rfl⟩ := len1 h; kernel_rfl) (by kernel_rfl)
  · exact .of rfl (by kernel_rfl) (fun xs h => by obtain ⟨a, rfl⟩ := len1 h; kernel_rfl) (by kernel_rfl)
  · exact .of rfl (by kernel_rfl) (fun xs h => by obtain ⟨a, rfl⟩ := len1 h; kernel_rfl) (by kernel_rfl)
  · exact .of rfl (by kernel_rfl) (fun xs h => by obtain ⟨a, rfl⟩ := len1 h; kernel_rfl) (by kernel_rfl)
  · exact .of rfl (by kernel_rfl) (fun xs h => by obtain ⟨a, b, rfl⟩ := len2 h; kernel_rfl) (by kernel_rfl)
  · exact .of rfl (by kernel_rfl) (fun xs h => by obtain ⟨a, rfl⟩ := len1 h; kernel_rfl) (by kernel_rfl)
  · kernel_rfl
  · kernel_rfl
  · refine ⟨.ref 136, mg_of KX GG.g rfl, by decide, 136, [.ref 137, .ref 138, .ref 139, .ref 140, .ref 141, .ref 142, .ref 143, .ref 144, .ref 145], rfl, ?_, ⟨by decide, .inr ⟨[(Mine.B "yes", .ref 137), (Mine.B "no", .ref 138), (Mine.B "keep", .ref 139), (Mine.B "not", .ref 140), (Mine.B "both", .ref 141), (Mine.B "either", .ref 142), (Mine.B "unlike", .ref 143), (Mine.B "pick", .ref 144), (Mine.B "most", .ref 145)], rfl, rfl, ?_⟩⟩, ?_⟩
    · intro h
      rw [show GG.base.get? 136 = _ from KX 136 _ rfl] at h; cases h
    · refine ⟨_, _, _, KX 136 _ rfl, ⟨rfl, rfl, rfl⟩, rfl, ?_, ?_, by decide⟩
      · intro e he
        simp only [List.mem_toArray, List.mem_cons, List.not_mem_nil, or_false] at he
        rcases he with rfl | rfl | rfl | rfl | rfl | rfl | rfl | rfl | rfl <;> exact ⟨_, by rfl, rfl⟩
      · repeat' (first | exact .nil | refine .cons (by rfl) rfl ?_)
    · refine ⟨?_, ?_, ?_, ?_, ?_, ?_, ?_, ?_, ?_, trivial⟩
      all_goals exact ⟨by decide, _, [_, _], rfl, ⟨_, KX _ _ rfl, rfl, _, rfl⟩, ⟨_, rfl⟩, ⟨_, rfl⟩, trivial⟩
  · exact ⟨_, mg_of KX GG.g rfl, _, rfl⟩
  · exact ⟨_, mg_of KX GG.g rfl, _, rfl⟩
  · exact ⟨_, mg_of KX GG.g rfl, _, rfl⟩
  · exact ⟨_, mg_of KX GG.g rfl, Nat.le_of_ble_eq_true (by kernel_rfl), by kernel_rfl, _, rfl⟩
  · exact ⟨_, mg_of KX GG.g rfl, Nat.le_of_ble_eq_true (by kernel_rfl), by kernel_rfl, _, rfl⟩
  · exact ⟨_, mg_of KX GG.g rfl, _, rfl⟩
end L14
end Mine

theorem PySem.Challenge.cw_uf020026_14_holds : PySem.Challenge.rw_uf020026_14.Holds := by
  exact Mine.L14.fin
