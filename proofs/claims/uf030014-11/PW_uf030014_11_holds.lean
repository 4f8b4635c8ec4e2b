import PyProof.Rows.All
import PyProof.ForAny
import PyProof.CompUse
import PyProof.StrWalks
import PyProof.DictWalks
import PyProof.ExcBaseAll.ValueError
import PyProof.StationsW
import PyProof.StrOps2
import PyProof.WalksMore
import PyProof.RulesAs
import PyProof.NsDelKeeps
import PyProof.WalksPairs
import PyProof.Rows.ListMul
import PyProof.Rows.ListMulCarried
import PyProof.Rows.TopTwo
import PyProof.RulesAssignMore
import Wide.Tac
import Wide.BridgeG
import Wide.Loose
import Wide.Line
import Open.Line
import OpenK.TopRead
import OpenK.KWalk
import OpenK.KLine
import OpenK.KRaise
import KE.KItem
import KE.LcSums
import KE.KListMore
import KE.KDictAny
import KE.KDictList
import KE.KDictSum
import KE.KDictObj
import OpenK.KOwn
import KE.KIsAll
import KE.KSorted
import KE.KxSplit
import PySem.Challenge.RW_uf030014_11
open PySem PySem.W PyProof.Rows
set_option genInjectivity false
set_option genSizeOf false
set_option Elab.async false
set_option autoImplicit false
set_option linter.unusedVariables false
namespace Mine
inductive AV where
  | none
  | bool (b : Bool)
  | int (i : Int)
  | str (s : Str)
  | tup (xs : List AV)
  | lst (xs : List AV)
  | ref (n : Nat)
  | rng (a b : Int)
  | exc (c : Nat)
set_option genInjectivity true in
inductive Key where
  | str (s : Str)
  | int (i : Int)
  deriving DecidableEq
inductive AO where
  | lst (xs : List AV)
  | dict (es : List (Key × AV))
  /-- a dict that a loop goes over: it stays -/
  | ldict (es : List (Key × AV))
  | inst (c : Nat) (fs : List (Option AV))
noncomputable abbrev AH := List AO
inductive Out (α : Type) where
  | ok (a : α) (H : AH)
  | exc (c : Nat) (H : AH)
  | bad
noncomputable def Out.bind {α β : Type} (o : Out α) (f : α → AH → Out β) : Out β := match o with
  | .ok a H => f a H
  | .exc c H => .exc c H
  | .bad => .bad
inductive OutS where
  | next (ρ : List (Option AV)) (H : AH)
  | ret (a : AV) (H : AH)
  | exc (c : Nat) (ρ : List (Option AV)) (H : AH)
  | bad
noncomputable abbrev RE := List (Option AV)
noncomputable abbrev DS := RE → AH → OutS
noncomputable def AV.isNone : AV → Bool
  | .none => true
  | _ => false
noncomputable def clip (k : Option Int) (n : Nat) (dflt : Nat) : Nat := match k with
  | none => dflt
  | some k => if k < 0 then (if k + n < 0 then 0 else (k + n).toNat) else if k < n then k.toNat else n
noncomputable def cut {α : Type} (xs : List α) (lo hi : Option Int) : List α := (xs.drop (clip lo xs.length 0)).take (clip hi xs.length xs.length - clip lo xs.length 0)
noncomputable def freeH (l : Option Nat) (H : AH) : AH := match l with
  | none => H
  | some n => match H[n]? with
    | some (.ldict es) => H.set n (.dict es)
    | _ => H
inductive Bm where
  | append | get | pop | join
structure Gm where
  mth : List (List (Option Nat))
  na : Nat
  up : List (List Nat)
inductive Ty where
  | int | bool | str | tup | lst
inductive Kd where
  | none | bool | int | str | tup | lst
noncomputable def isK : Kd → Ty → Bool
  | .bool, t => match t with
    | .bool => true
    | .int => true
    | _ => false
  | .int, t => match t with
    | .int => true
    | _ => false
  | .str, t => match t with
    | .str => true
    | _ => false
  | .tup, t => match t with
    | .tup => true
    | _ => false
  | .lst, t => match t with
    | .lst => true
    | _ => false
  | .none, _ => false
structure Tb where
  fns : List (Option Str)
  cls : List Str
  exs : List Str
  an : List Str
  mn : List Str
  gi : List (Str × Int)
noncomputable def OutS.then (o : OutS) (k : DS) : OutS := match o with
  | .next ρ H => k ρ H
  | o => o
noncomputable def OutS.free (l : Option Nat) : OutS → OutS
  | .next ρ H => .next ρ (freeH l H)
  | .ret a H => .ret a (freeH l H)
  | .exc c ρ H => .exc c ρ (freeH l H)
  | .bad => .bad
noncomputable def OutS.done : OutS → Out AV
  | .next _ H => .ok .none H
  | .ret a H => .ok a H
  | .exc c _ H => .exc c H
  | .bad => .bad
structure Stat where
  prog : Program
  w : World
  base : Heap
  K : Frag
  pr : Program
  loose : List Str
  mg : Str → Option Value
  mb : Str → Option Value
  hK : K.In base
  hT : TopRead pr loose mg mb base
  seer : base.NoSeer
  /-- the exceptions' classes, the other classes, the functions, the names -/
  X : Nat → Option Addr
  cl : Nat → Option Addr
  fa : Nat → Option Addr
  T : Tb
noncomputable abbrev Stat.an (S : Stat) : List Str := S.T.an
structure Cx where
  S : Stat
  A : Around
  fe : List Env
  d : Nat
  hot : Bool
  pv : List Addr × List Addr
noncomputable def Cx.fs (C : Cx) : List Addr := C.fe.filterMap (·.frame)
noncomputable def Key.ok : Key → Bool
  | .str x => PyData.strOk x
  | .int _ => true
noncomputable def Bm.name : Bm → Str
  | .append => "append"
  | .get => "get"
  | .pop => "pop"
  | .join => "join"
noncomputable def clsOK (K : Frag) (C : Addr) : Bool :=
  (findIn K (.ref C) "__getattribute__" == some (some (.builtin "object.__getattribute__"))) && (findIn K (.ref C) "__getattr__" == some none) &&
  (findIn K (.ref C) "__setattr__" == some (some (.builtin "object.__setattr__"))) && plainOver K C && hasDictIn K C && makesIn K C
noncomputable def veMro : List Value := [.type "ValueError", .type "Exception", .type "BaseException", .type "object"]
noncomputable def seesIn (K : Frag) (D : Addr) : Bool := (clsIn K D).isSome && findIn K (.ref D) "__getattribute__" == some (some (.builtin "BaseException.__getattribute__")) && findIn K (.ref D) "__getattr__" == some none &&
  findIn K (.ref D) "__class__" == some (some (.builtin "object.__class__")) && specialIn K (.builtin "object.__class__") "__get__" == some (some (.builtin "getset_descriptor.__get__")) && takesIn K (.builtin "object.__class__") == some true &&
  mroIn K D (.type "object") == some true && mroIn K D (.type "BaseException") == some true
noncomputable def Kd.type : Kd → String
  | .none => "NoneType"
  | .bool => "bool"
  | .int => "int"
  | .str => "str"
  | .tup => "tuple"
  | .lst => "list"
noncomputable def biNames : List Str := ["len", "range", "list", "min", "max", "sum", "sorted", "int", "isinstance", "bool", "str", "tuple", "dict", "ValueError"]
noncomputable def plainPrm (p : Arguments) (names : List Str) : Bool := p.posonlyargs.isEmpty && p.kwonlyargs.isEmpty && p.vararg.isNone && p.kwarg.isNone && decide (p.args.map (·.arg) = names) && decide names.Nodup
noncomputable def scopeOK (sc : Scope) (prm : List Str) : Bool :=
  sc.kind == .function && !sc.isCoroutine && !sc.isGenerator && (prm.all fun x => sc.names.lookup x == some .local || sc.names.lookup x == some .cell) && (sc.names.all fun y => y.2 != .free)
noncomputable def nsOK (ns : List (Option Str)) (prm : List Str) : Bool := decide (ns.take prm.length = prm.map some) && decide (ns.filterMap id).Nodup && decide (prm.length ≤ ns.length)
noncomputable def noDef : Value → Bool
  | .none => true
  | _ => false
noncomputable def fdOK (K : Frag) (prm : List Str) (ns : List (Option Str)) (fd : FuncData) : Bool :=
  decide (fd.globals = mainGlobals) && decide (fd.builtins = builtinsNs) && fd.closure.isEmpty && codeIn K fd.code fd.qualname && plainPrm fd.params prm && noDef fd.defaults && scopeOK fd.scope prm && nsOK ns prm
noncomputable def fnAt (K : Frag) (f : Addr) (prm : List Str) (ns : List (Option Str)) : Option (List (Str × NameKind) × List Stmt) := match K.lookup f with
  | some ⟨_, _, .func fd, _⟩ => if fdOK K prm ns fd then (match fd.body with
    | .stmts b => some (fd.scope.names, b)
    | _ => none) else none
  | _ => none
structure Df where
  prm : List Str
  names : List (Str × NameKind)
  body : List Stmt
noncomputable def Df.ns (f : Df) : List (Option Str) := (f.prm ++ (f.names.filter fun y => (y.2 == .local || y.2 == .cell) && !(f.prm.any fun x => x == y.1)).map (·.1)).map some
noncomputable def dfIn (x : Str) : List Stmt → Option Df
  | [] => none
  | .FunctionDef n a b _ _ _ sc _ _ _ :: r => if n == x then some ⟨a.args.map (·.arg), sc.names, b⟩ else dfIn x r
  | _ :: r => dfIn x r
noncomputable def clIn (x : Str) : List Stmt → List Stmt
  | [] => []
  | .ClassDef n _ _ b _ _ _ _ _ _ _ :: r => if n == x then b else clIn x r
  | _ :: r => clIn x r
inductive At where
  | top (x : Str)
  | meth (c m : Nat)
noncomputable def dfAt (p : Program) (T : Tb) : At → Option Df
  | .top x => dfIn x p.main.body
  | .meth c m => (T.cls[c]?).bind fun x => (T.mn[m]?).bind fun y => dfIn y (clIn x p.main.body)
noncomputable def glRef (K : Frag) (x : Str) : Option Addr := match nsIn K mainGlobals x with
  | some (some (.ref a)) => some a
  | _ => none
noncomputable def exA (K : Frag) (T : Tb) (c : Nat) : Option Addr := (T.exs[c]?).bind (glRef K)
noncomputable def clA (K : Frag) (T : Tb) (c : Nat) : Option Addr := (T.cls[c]?).bind (glRef K)
noncomputable def atA' (K : Frag) (D : Addr) (x : Str) : Option Addr := match findIn K (.ref D) x with
  | some (some (.ref a)) => some a
  | _ => none
noncomputable def faAt (K : Frag) (T : Tb) : At → Option Addr
  | .top x => glRef K x
  | .meth c m => (clA K T c).bind fun D => (T.mn[m]?).bind (atA' K D)
noncomputable def faA (K : Frag) (T : Tb) (src : List At) (i : Nat) : Option Addr := (src[i]?).bind (faAt K T)
noncomputable def fitCls (K : Frag) (T : Tb) (x : Str) : Bool := match glRef K x with
  | some D => clsOK K D && keepIn K (.ref D) && T.an.all fun a => findIn K (.ref D) a == some none
  | none => false
noncomputable def fitMth (K : Frag) (T : Tb) (src : List At) (c m : Nat) : Option Nat → Bool
  | none => true
  | some f => match clA K T c with
    | none => true
    | some D => match T.mn[m]?, faA K T src f with
      | some x, some fa => !(T.an.any fun a => a == x) && findIn K (.ref D) x == some (some (.ref fa)) && isFn K (.ref fa) && fnIn K fa
      | _, _ => false
noncomputable def fitExc (K : Frag) (x : Str) : Bool := match glRef K x with
  | some D => excIn K D veMro "ValueError.__new__" && seesIn K D
  | none => false
noncomputable def fitUp (K : Frag) (T : Tb) (c d : Nat) (l : List Nat) : Bool := match exA K T c, exA K T d with
  | some D, some E => subIn K (.ref D) (.ref E) == some (l.any fun x => decide (x = d))
  | _, _ => true
noncomputable def fitFn (K : Frag) (T : Tb) (src : List At) (f : Nat) : Option Str → Bool
  | none => true
  | some x => match faA K T src f with
    | some a => nsIn K mainGlobals x == some (some (.ref a)) && fnIn K a
    | none => false
noncomputable def fitGi (K : Frag) (x : Str) (i : Int) : Bool := match nsIn K mainGlobals x with
  | some (some (.int j _)) => j == i
  | _ => false
noncomputable def tyA (K : Frag) (T : Tb) : Ty → Option Value
  | .int => some (.type "int")
  | .bool => some (.type "bool")
  | .str => some (.type "str")
  | .tup => some (.type "tuple")
  | .lst => some (.type "list")
noncomputable def tys : List Ty := [.int, .bool, .str, .tup, .lst]
noncomputable def kds : List Kd := [.none, .bool, .int, .str, .tup, .lst]
noncomputable def fitK (K : Frag) (T : Tb) (t : Value) (f : Ty → Bool) : Bool := tys.all fun ty => match tyA K T ty with
  | some v => kitOne K t v == some (f ty)
  | none => true
noncomputable def each {α : Type} (l : List α) (f : Nat → α → Bool) : Bool := l.zipIdx.all fun p => f p.2 p.1
noncomputable def fitB (K : Frag) (T : Tb) (G : Gm) (src : List At) : Bool :=
  T.cls.all (fitCls K T) && decide T.an.Nodup && decide (G.na = T.an.length) && decide (T.an.length ≤ 1000) && each G.mth (fun c l => each l fun m f => fitMth K T src c m f) && decide (T.mn[0]? = some ("__init__" : Str)) &&
  T.exs.all (fitExc K) && each G.up (fun c l => each T.exs fun d _ => fitUp K T c d l) && each T.fns (fitFn K T src) && (T.gi.all fun p => fitGi K p.1 p.2) && (biNames.all fun x => nsIn K mainGlobals x == some none) &&
  (kds.all fun k => fitK K T (.type k.type) (isK k))
noncomputable def bodyK (K : Frag) (T : Tb) (a : At) (f : Option Df) : Option (List (Str × NameKind) × List Stmt) := f.bind fun f => (faAt K T a).bind fun fa => fnAt K fa f.prm f.ns
noncomputable def fragAt (n : Nat) (h : Heap) : Frag := (List.range n).filterMap fun a => (h.get? a).map fun o => (a, o)
noncomputable def xtOf (l : OpenLaw) (q : Program) (s : Shared) : Bool := xlAt q [] s && recOk (RowW.records l.row.toRowW) s
structure Tx where
  prog : Program
  T : Tb
  G : Gm
  src : List At
  mts : List (Nat × Nat × Nat)
noncomputable def Tx.ask (t : Tx) (K : Frag) : Bool × List (Option (List (Str × NameKind) × List Stmt)) := (fitB K t.T t.G t.src, t.src.map fun a => bodyK K t.T a (dfAt t.prog t.T a))
noncomputable def Tx.said (t : Tx) : Bool × List (Option (List (Str × NameKind) × List Stmt)) := (true, t.src.map fun a => (dfAt t.prog t.T a).map fun f => (f.names, f.body))
noncomputable def topN (tb : String → Option Builtin) (p : Program) (w : World) (n₀ : Nat) (ann : Option Value) : Nat → Shared → Thread → Option (Shared × Thread)
  | 0, s, t => some (s, t)
  | n + 1, s, t => match through t with
    | true => none
    | false => match stepOk n₀ ann t with
      | false => none
      | true => match step (denote tb) p w s t with
        | .go s' t' => topN tb p w n₀ ann n s' t'
        | .halt _ _ => none
noncomputable def en (w : World) (s : Str) (t : Tok) (v : Value) : DictEntry := ⟨if s.cps.isEmpty then 0 else reduceHash (w.params.strHash s.cps), .str s t, v⟩
noncomputable def topF (p : Program) (i : Nat) : Option Stmt := p.main.body[i]?
noncomputable def inF (p : Program) (i j : Nat) : Option Stmt := match p.main.body[i]? with
  | some (.ClassDef _ _ _ body ..) => body[j]?
  | _ => none
noncomputable def fd (s : Option Stmt) (name qual : Str) (d k doc m code ct : Value) (g b : Addr) : FuncData := match s with
  | some (.FunctionDef _ a body _ _ _ sc ..) => { name, qualname := qual, params := a, body := .stmts body, scope := sc, globals := g, closure := [], defaults := d, kwdefaults := k, doc, pyModule := m, annotations := none, code, closureTuple := ct, builtins := b }
  | _ => default
noncomputable def tu0 : Obj := ⟨.type "tuple", none, .seq ⟨[]⟩ 0, ⟨[]⟩⟩
noncomputable def fl0 : Obj := ⟨.none, none, .fields ⟨[]⟩, ⟨[]⟩⟩
noncomputable def cp (t : Tok) : Value := .str "/claim/cut.py" t
noncomputable def zi (i : Int) : Value := .int i 0
noncomputable def co (l : List Value) : Obj := ⟨.type "code", none, .fields ⟨l⟩, ⟨[]⟩⟩
noncomputable def fo (f : FuncData) : Obj := ⟨.type "function", none, .func f, ⟨[]⟩⟩
noncomputable def fo' (f : FuncData) : Obj := ⟨.none, none, .func f, ⟨[]⟩⟩
noncomputable def tu (l : List Value) : Obj := ⟨.type "tuple", none, .seq ⟨l⟩ 0, ⟨[]⟩⟩
noncomputable def s0 (p : Program) (w : World) (N : Nat) : Shared := (fencedOpening treeTable p w N).getD {}
noncomputable def ann0 (p : Program) (w : World) (N : Nat) : Option Value := (s0 p w N).heap.nsMap mainGlobals "__annotations__"
noncomputable def stk (p : Program) (w : World) (N : Nat) : List Frame := match topN treeTable p w (s0 p w N).heap.objs.size (ann0 p w N) 12 (s0 p w N) (topStub p) with
  | some (_, t) => t.stack
  | none => []
noncomputable def thr (p : Program) (w : World) (N i : Nat) (pos : Pos) (env : Env) : Thread :=
  ⟨((execs ((behindTheImports p).drop i) env).onRaise (leaving env)).bind fun x => .pure (.done x), .body (behindTheImports p) env, pos, stk p w N⟩
noncomputable def chk (p : Program) (s₀ s₁ : Shared) : Option Shared := match staticsOk (importedModules p.main.body) s₀.heap s₁.heap && namesBound p s₁.heap && gensDone s₁ && laidKept s₀.heap s₁.heap with
  | true => some s₁
  | false => none
noncomputable def ends (p : Program) (w : World) (N m : Nat) (s : Shared) (t : Thread) : Option Shared :=
  (topRun treeTable p w (s0 p w N).heap.objs.size (ann0 p w N) m s t).bind (chk p (s0 p w N))
noncomputable def anC : List Str := ["skills", "limit", "away", "hours", "needs", "folk", "work", "places", "days", "fits", "at", "most"]
noncomputable def mnC : List Str := ["__init__", "add_person", "add_rest", "add_shift", "person", "shift", "people", "shifts", "posts", "skills_of", "rests_of", "limit_of", "stretch_of", "count_of", "may", "left_by", "sought", "done", "shift_on"]
noncomputable def gmC : Gm where
  mth := [[some 10, none, none, none, none, none, none, none, none, none, none, none, none, none, none, none, none, none, none], [some 11, none, none, none, none, none, none, none, none, none, none, none, none, none, none, none, none, none, none], [some 12, some 13, some 14, some 15, some 16, some 17, some 18, some 19, some 20, some 21, some 22, some 23, some 24, some 25, some 26, none, none, none, none], [some 28, none, none, none, none, none, none, none, none, none, none, none, none, none, none, some 29, some 30, some 31, some 32]]
  na := 12
  up := [[0], [1, 0], [2, 0], [3, 0], [4, 0], [5, 0], [6, 0]]
noncomputable def cell (xs : List Int) (k : Int) : Int := xs.getD k.toNat 0
structure Dk where
  day : Nat → Int
  fits : Nat → List Str
  most : Str → Int
noncomputable def daysL (D : Dk) (n : Nat) : List AV := (List.range n).map fun x => .int (D.day x)
structure Sd where
  H0 : AH
  D : Dk
  P : List Str
  n : Nat
  pl : List AV
noncomputable def Sd.b (S : Sd) : Nat := S.H0.length
noncomputable def Sd.inst (S : Sd) : List (Option AV) := [none, none, none, none, none, none, none, some (.ref (S.b + 1)), some (.lst (daysL S.D S.n)), some (.ref (S.b + 2)), some (.ref (S.b + 3)), some (.ref (S.b + 4))]
noncomputable def Sd.m (S : Sd) (G : AH) : Nat := S.b + 5 + S.P.length + G.length
noncomputable def tb11 : Tb where
  fns := [some ("is_whole" : Str), some ("is_stretch" : Str), some ("meets" : Str), some ("day_of" : Str), some ("in_one_day" : Str), some ("is_name" : Str), some ("checked_skills" : Str), some ("checked_needs" : Str), some ("_law_cell" : Str), some ("_law_sign" : Str), none, none, none, none, none, none, none, none, none, none, none, none, none, none, none, none, none, some ("day_at" : Str), none, none, none, none, none, some ("dealt" : Str), none, some ("_law_name_by" : Str), none, none, none, none, none, none, none, none, some ("_law_may" : Str), none, none, none, none, some ("_law_small_parts" : Str), some ("_law_ways" : Str), some ("_law_held" : Str), some ("law" : Str)]
  cls := ["Person", "Shift", "Book", "Deal"]
  exs := ["RotaError", "BadName", "BadStretch", "BadCount", "Twice", "Missing"]
  an := anC
  mn := mnC
  gi := [("LAST", 1000000), ("DAY", 24), ("LONGEST", 20), ("MOST_DAYS", 31), ("MOST_COUNT", 9)]
noncomputable def tx11 : Tx where
  prog := PySem.Challenge.pw_uf030014_11
  T := tb11
  G := gmC
  src := [At.top "is_whole", At.top "is_stretch", At.top "meets", At.top "day_of", At.top "in_one_day", At.top "is_name", At.top "checked_skills", At.top "checked_needs", At.top "_law_cell", At.top "_law_sign", At.meth 0 0, At.meth 1 0, At.meth 2 0, At.meth 2 1, At.meth 2 2, At.meth 2 3, At.meth 2 4, At.meth 2 5, At.meth 2 6, At.meth 2 7, At.meth 2 8, At.meth 2 9, At.meth 2 10, At.meth 2 11, At.meth 2 12, At.meth 2 13, At.meth 2 14, At.top "day_at", At.meth 3 0, At.meth 3 15, At.meth 3 16, At.meth 3 17, At.meth 3 18, At.top "dealt", At.top "_law_tail", At.top "_law_name_by", At.top "_law_called", At.top "_law_person", At.top "_law_shift", At.top "_law_tight", At.top "_law_parts", At.top "_law_rested", At.top "_law_refused_deed", At.top "_law_book_of", At.top "_law_may", At.top "_law_posts", At.top "_law_wanted", At.top "_law_days", At.top "_law_room", At.top "_law_small_parts", At.top "_law_ways", At.top "_law_held", At.top "law"]
  mts := [(28, 20, 22), (48, 14, 21), (74, 15, 30), (86, 11, 13), (123, 20, 22), (130, 11, 13), (139, 11, 13), (140, 12, 14), (200, 16, 18), (243, 18, 20), (249, 18, 20), (265, 22, 24)]
noncomputable def q11 : Program := view PySem.Challenge.pw_uf030014_11 [0, 2, 3, 4, 5, 6, 7, 8, 10, 12, 13, 15, 16, 17, 18, 19, 20, 22, 23, 25, 26, 27, 28, 29, 30, 31, 33, 34, 35, 36, 37, 38, 39, 40]
noncomputable def tF11 := topF PySem.Challenge.pw_uf030014_11
noncomputable def iF11 := inF PySem.Challenge.pw_uf030014_11
noncomputable def lit11 (w : World) : Shared := { toks := 530, heap := { objs := ⟨[⟨(.type "dict"), none, (.dict ⟨[en w "__name__" 1 (.str "builtins" 160), en w "__doc__" 2 (.builtin "builtins.__doc__:str#opaque"), en w "__package__" 3 (.builtin "builtins.__package__:str#opaque"), en w "__loader__" 4 (.builtin "builtins.__loader__:shared#opaque"), en w "__spec__" 5 (.builtin "builtins.__spec__#opaque"), en w "__build_class__" 6 (.builtin "__build_class__"), en w "__import__" 7 (.builtin "__import__"), en w "abs" 8 (.builtin "abs"), en w "all" 9 (.builtin "all"), en w "any" 10 (.builtin "any"), en w "ascii" 11 (.builtin "ascii"), en w "bin" 12 (.builtin "bin"), en w "breakpoint" 13 (.builtin "breakpoint"), en w "callable" 14 (.builtin "callable"), en w "chr" 15 (.builtin "chr"), en w "compile" 16 (.builtin "compile"), en w "delattr" 17 (.builtin "delattr"), en w "dir" 18 (.builtin "dir"), en w "divmod" 19 (.builtin "divmod"), en w "eval" 20 (.builtin "eval"), en w "exec" 21 (.builtin "exec"), en w "format" 22 (.builtin "format"), en w "getattr" 23 (.builtin "getattr"), en w "globals" 24 (.builtin "globals"), en w "hasattr" 25 (.builtin "hasattr"), en w "hash" 26 (.builtin "hash"), en w "hex" 27 (.builtin "hex"), en w "id" 28 (.builtin "id"), en w "input" 29 (.builtin "input"), en w "isinstance" 30 (.builtin "isinstance"), en w "issubclass" 31 (.builtin "issubclass"), en w "iter" 32 (.builtin "iter"), en w "aiter" 33 (.builtin "aiter"), en w "len" 34 (.builtin "len"), en w "locals" 35 (.builtin "locals"), en w "max" 36 (.builtin "max"), en w "min" 37 (.builtin "min"), en w "next" 38 (.builtin "next"), en w "anext" 39 (.builtin "anext"), en w "oct" 40 (.builtin "oct"), en w "ord" 41 (.builtin "ord"), en w "pow" 42 (.builtin "pow"), en w "print" 43 (.builtin "print"), en w "repr" 44 (.builtin "repr"), en w "round" 45 (.builtin "round"), en w "setattr" 46 (.builtin "setattr"), en w "sorted" 47 (.builtin "sorted"), en w "sum" 48 (.builtin "sum"), en w "vars" 49 (.builtin "vars"), en w "None" 50 .none, en w "Ellipsis" 51 .ellipsis, en w "NotImplemented" 52 .notImplemented, en w "False" 53 (.bool false), en w "True" 54 (.bool true), en w "bool" 55 (.type "bool"), en w "memoryview" 56 (.type "memoryview"), en w "bytearray" 57 (.type "bytearray"), en w "bytes" 58 (.type "bytes"), en w "classmethod" 59 (.type "classmethod"), en w "complex" 60 (.type "complex"), en w "dict" 61 (.type "dict"), en w "enumerate" 62 (.type "enumerate"), en w "filter" 63 (.type "filter"), en w "float" 64 (.type "float"), en w "frozenset" 65 (.type "frozenset"), en w "property" 66 (.type "property"), en w "int" 67 (.type "int"), en w "list" 68 (.type "list"), en w "map" 69 (.type "map"), en w "object" 70 (.type "object"), en w "range" 71 (.type "range"), en w "reversed" 72 (.type "reversed"), en w "set" 73 (.type "set"), en w "slice" 74 (.type "slice"), en w "staticmethod" 75 (.type "staticmethod"), en w "str" 76 (.type "str"), en w "super" 77 (.type "super"), en w "tuple" 78 (.type "tuple"), en w "type" 79 (.type "type"), en w "zip" 80 (.type "zip"), en w "__debug__" 81 (.bool true), en w "BaseException" 82 (.type "BaseException"), en w "BaseExceptionGroup" 83 (.type "BaseExceptionGroup"), en w "Exception" 84 (.type "Exception"), en w "GeneratorExit" 85 (.type "GeneratorExit"), en w "KeyboardInterrupt" 86 (.type "KeyboardInterrupt"), en w "SystemExit" 87 (.type "SystemExit"), en w "ArithmeticError" 88 (.type "ArithmeticError"), en w "AssertionError" 89 (.type "AssertionError"), en w "AttributeError" 90 (.type "AttributeError"), en w "BufferError" 91 (.type "BufferError"), en w "EOFError" 92 (.type "EOFError"), en w "ImportError" 93 (.type "ImportError"), en w "LookupError" 94 (.type "LookupError"), en w "MemoryError" 95 (.type "MemoryError"), en w "NameError" 96 (.type "NameError"), en w "OSError" 97 (.type "OSError"), en w "ReferenceError" 98 (.type "ReferenceError"), en w "RuntimeError" 99 (.type "RuntimeError"), en w "StopAsyncIteration" 100 (.type "StopAsyncIteration"), en w "StopIteration" 101 (.type "StopIteration"), en w "SyntaxError" 102 (.type "SyntaxError"), en w "SystemError" 103 (.type "SystemError"), en w "TypeError" 104 (.type "TypeError"), en w "ValueError" 105 (.type "ValueError"), en w "Warning" 106 (.type "Warning"), en w "FloatingPointError" 107 (.type "FloatingPointError"), en w "OverflowError" 108 (.type "OverflowError"), en w "ZeroDivisionError" 109 (.type "ZeroDivisionError"), en w "BytesWarning" 110 (.type "BytesWarning"), en w "DeprecationWarning" 111 (.type "DeprecationWarning"), en w "EncodingWarning" 112 (.type "EncodingWarning"), en w "FutureWarning" 113 (.type "FutureWarning"), en w "ImportWarning" 114 (.type "ImportWarning"), en w "PendingDeprecationWarning" 115 (.type "PendingDeprecationWarning"), en w "ResourceWarning" 116 (.type "ResourceWarning"), en w "RuntimeWarning" 117 (.type "RuntimeWarning"), en w "SyntaxWarning" 118 (.type "SyntaxWarning"), en w "UnicodeWarning" 119 (.type "UnicodeWarning"), en w "UserWarning" 120 (.type "UserWarning"), en w "BlockingIOError" 121 (.type "BlockingIOError"), en w "ChildProcessError" 122 (.type "ChildProcessError"), en w "ConnectionError" 123 (.type "ConnectionError"), en w "FileExistsError" 124 (.type "FileExistsError"), en w "FileNotFoundError" 125 (.type "FileNotFoundError"), en w "InterruptedError" 126 (.type "InterruptedError"), en w "IsADirectoryError" 127 (.type "IsADirectoryError"), en w "NotADirectoryError" 128 (.type "NotADirectoryError"), en w "PermissionError" 129 (.type "PermissionError"), en w "ProcessLookupError" 130 (.type "ProcessLookupError"), en w "TimeoutError" 131 (.type "TimeoutError"), en w "IndentationError" 132 (.type "IndentationError"), en w "_IncompleteInputError" 133 (.type "_IncompleteInputError"), en w "IndexError" 134 (.type "IndexError"), en w "KeyError" 135 (.type "KeyError"), en w "ModuleNotFoundError" 136 (.type "ModuleNotFoundError"), en w "NotImplementedError" 137 (.type "NotImplementedError"), en w "PythonFinalizationError" 138 (.type "PythonFinalizationError"), en w "RecursionError" 139 (.type "RecursionError"), en w "UnboundLocalError" 140 (.type "UnboundLocalError"), en w "UnicodeError" 141 (.type "UnicodeError"), en w "BrokenPipeError" 142 (.type "BrokenPipeError"), en w "ConnectionAbortedError" 143 (.type "ConnectionAbortedError"), en w "ConnectionRefusedError" 144 (.type "ConnectionRefusedError"), en w "ConnectionResetError" 145 (.type "ConnectionResetError"), en w "TabError" 146 (.type "TabError"), en w "UnicodeDecodeError" 147 (.type "UnicodeDecodeError"), en w "UnicodeEncodeError" 148 (.type "UnicodeEncodeError"), en w "UnicodeTranslateError" 149 (.type "UnicodeTranslateError"), en w "ExceptionGroup" 150 (.type "ExceptionGroup"), en w "EnvironmentError" 151 (.type "OSError"), en w "IOError" 152 (.type "OSError"), en w "open" 153 (.builtin "open"), en w "quit" 154 (.builtin "builtins.quit#opaque"), en w "exit" 155 (.builtin "builtins.exit#opaque"), en w "copyright" 156 (.builtin "builtins.copyright#opaque"), en w "credits" 157 (.builtin "builtins.credits#opaque"), en w "license" 158 (.builtin "builtins.license#opaque"), en w "help" 159 (.builtin "builtins.help#opaque")]⟩ 159), ⟨[]⟩⟩,
  ⟨(.type "dict"), none, (.dict ⟨[en w "builtins" 162 (.ref 4), en w "__main__" 163 (.ref 5)]⟩ 2), ⟨[]⟩⟩,
  ⟨.none, none, (.dict ⟨[]⟩ 0), ⟨[]⟩⟩,
  ⟨(.type "dict"), none, (.dict ⟨[en w "__name__" 165 (.str "rota.book" 441), en w "__doc__" 166 .none, en w "__package__" 167 .none, en w "__loader__" 168 (.builtin "__main__.__loader__#opaque"), en w "__spec__" 169 .none, en w "__annotations__" 170 (.ref 6), en w "__builtins__" 171 (.ref 4), en w "__file__" 173 (cp 172), en w "__cached__" 174 .none, en w "_wall" 193 (.ref 21), en w "LAST" 197 (.int 1000000 196), en w "DAY" 199 (.int 24 198), en w "is_whole" 206 (.ref 28), en w "is_stretch" 213 (.ref 35), en w "meets" 221 (.ref 42), en w "day_of" 228 (.ref 49), en w "in_one_day" 235 (.ref 56), en w "day_at" 245 (.ref 63), en w "Deal" 322 (.ref 104), en w "dealt" 328 (.ref 113), en w "RotaError" 348 (.ref 123), en w "BadName" 364 (.ref 136), en w "BadStretch" 380 (.ref 148), en w "BadCount" 396 (.ref 160), en w "Twice" 412 (.ref 172), en w "Missing" 428 (.ref 184), en w "LONGEST" 432 (.int 20 431), en w "is_name" 440 (.ref 193), en w "MOST_DAYS" 444 (.int 31 443), en w "MOST_COUNT" 446 (.int 9 445), en w "Person" 478 (.ref 210), en w "Shift" 509 (.ref 231), en w "checked_skills" 518 (.ref 242), en w "checked_needs" 529 (.ref 249)]⟩ 34), ⟨[]⟩⟩,
  ⟨(.type "module"), (some 0), .plain, ⟨[]⟩⟩,
  ⟨(.type "module"), (some 3), .plain, ⟨[]⟩⟩,
  ⟨(.type "dict"), none, (.dict ⟨[]⟩ 0), ⟨[]⟩⟩,
  tu0,
  fl0,
  co [.str "<module>" 176, .str "<module>" 177, cp 178, zi 1, zi 0, zi 0, zi 0, zi 0, .ref 7, .bool false, zi 175, .ref 8, .none, .none, .none, .none, zi 179, zi 1, cp 180],
  ⟨(.type "frame"), none, .plain, ⟨[(some (.ref 9)), (some (.ref 3)), (some (.ref 3)), none, (some (.str "__main__" 164)), none, (some (.ref 0))]⟩⟩,
  tu0,
  ⟨.none, none, (.fields ⟨[zi 1, zi 0, .ref 20, zi 7, zi 0, .ref 27, zi 9, zi 0, .ref 34, zi 13, zi 0, .ref 41, zi 15, zi 0, .ref 48, zi 17, zi 0, .ref 55, zi 20, zi 0, .ref 62, zi 23, zi 0, .ref 69, zi 78, zi 0, .ref 112, zi 94, zi 0, .ref 119, zi 96, zi 0, .ref 132, zi 98, zi 0, .ref 144, zi 100, zi 0, .ref 156, zi 102, zi 0, .ref 168, zi 104, zi 0, .ref 180, zi 108, zi 0, .ref 192, zi 118, zi 0, .ref 199, zi 124, zi 0, .ref 220, zi 129, zi 0, .ref 241, zi 138, zi 0, .ref 248]⟩), ⟨[]⟩⟩,
  co [.str "<module>" 182, .str "<module>" 183, cp 184, zi 1, zi 0, zi 0, zi 0, zi 0, .ref 11, .bool false, zi 181, .ref 12, .none, .none, .none, .none, zi 185, zi 1, cp 186],
  ⟨(.type "frame"), none, .plain, ⟨[(some (.ref 13)), (some (.ref 3)), (some (.ref 3)), none, (some (.str "__main__" 164)), none, (some (.ref 0))]⟩⟩,
  tu0,
  fl0,
  tu [.str "k" 190],
  tu0,
  fo' (fd (tF11 0) "_wall" "_wall" .none .none .none .none .none .none 0 0),
  co [.str "_wall" 187, .str "_wall" 188, cp 189, zi 1, zi 1, zi 0, zi 0, zi 3, .ref 15, .bool true, zi 181, .ref 16, .none, .ref 17, .ref 18, .ref 19, zi 191, zi 1, cp 192],
  fo (fd (tF11 0) "_wall" "_wall" .none .none .none (.str "__main__" 164) (.ref 20) .none 3 0),
  tu0,
  fl0,
  tu [.str "thing" 203],
  tu0,
  fo' (fd (tF11 4) "is_whole" "is_whole" .none .none .none .none .none .none 0 0),
  co [.str "is_whole" 200, .str "is_whole" 201, cp 202, zi 7, zi 1, zi 0, zi 0, zi 3, .ref 22, .bool true, zi 181, .ref 23, .none, .ref 24, .ref 25, .ref 26, zi 204, zi 7, cp 205],
  fo (fd (tF11 4) "is_whole" "is_whole" .none .none .none (.str "rota.hours" 194) (.ref 27) .none 3 0),
  tu0,
  fl0,
  tu [.str "pair" 210],
  tu0,
  fo' (fd (tF11 5) "is_stretch" "is_stretch" .none .none .none .none .none .none 0 0),
  co [.str "is_stretch" 207, .str "is_stretch" 208, cp 209, zi 9, zi 1, zi 0, zi 0, zi 3, .ref 29, .bool true, zi 181, .ref 30, .none, .ref 31, .ref 32, .ref 33, zi 211, zi 9, cp 212],
  fo (fd (tF11 5) "is_stretch" "is_stretch" .none .none .none (.str "rota.hours" 194) (.ref 34) .none 3 0),
  tu0,
  fl0,
  tu [.str "one" 217, .str "other" 218],
  tu0,
  fo' (fd (tF11 6) "meets" "meets" .none .none .none .none .none .none 0 0),
  co [.str "meets" 214, .str "meets" 215, cp 216, zi 13, zi 2, zi 0, zi 0, zi 3, .ref 36, .bool true, zi 181, .ref 37, .none, .ref 38, .ref 39, .ref 40, zi 219, zi 13, cp 220],
  fo (fd (tF11 6) "meets" "meets" .none .none .none (.str "rota.hours" 194) (.ref 41) .none 3 0),
  tu0,
  fl0,
  tu [.str "stretch" 225],
  tu0,
  fo' (fd (tF11 7) "day_of" "day_of" .none .none .none .none .none .none 0 0),
  co [.str "day_of" 222, .str "day_of" 223, cp 224, zi 15, zi 1, zi 0, zi 0, zi 3, .ref 43, .bool true, zi 181, .ref 44, .none, .ref 45, .ref 46, .ref 47, zi 226, zi 15, cp 227],
  fo (fd (tF11 7) "day_of" "day_of" .none .none .none (.str "rota.hours" 194) (.ref 48) .none 3 0),
  tu0,
  fl0,
  tu [.str "stretch" 232],
  tu0,
  fo' (fd (tF11 8) "in_one_day" "in_one_day" .none .none .none .none .none .none 0 0),
  co [.str "in_one_day" 229, .str "in_one_day" 230, cp 231, zi 17, zi 1, zi 0, zi 0, zi 3, .ref 50, .bool true, zi 181, .ref 51, .none, .ref 52, .ref 53, .ref 54, zi 233, zi 17, cp 234],
  fo (fd (tF11 8) "in_one_day" "in_one_day" .none .none .none (.str "rota.hours" 194) (.ref 55) .none 3 0),
  tu0,
  fl0,
  tu [.str "book" 241, .str "shift" 242],
  tu0,
  fo' (fd (tF11 10) "day_at" "day_at" .none .none .none .none .none .none 0 0),
  co [.str "day_at" 238, .str "day_at" 239, cp 240, zi 20, zi 2, zi 0, zi 0, zi 3, .ref 57, .bool true, zi 181, .ref 58, .none, .ref 59, .ref 60, .ref 61, zi 243, zi 20, cp 244],
  fo (fd (tF11 10) "day_at" "day_at" .none .none .none (.str "rota.checks" 236) (.ref 62) .none 3 0),
  tu0,
  ⟨(.type "builtin_function_or_method"), none, (.fields ⟨[(.builtin "type.__prepare__"), (.type "type")]⟩), ⟨[]⟩⟩,
  ⟨(.type "dict"), none, (.dict ⟨[en w "__module__" 255 (.str "rota.deals" 246), en w "__qualname__" 257 (.str "Deal" 256), en w "__firstlineno__" 259 (.int 23 258), en w "__init__" 265 (.ref 75), en w "left_by" 271 (.ref 80), en w "sought" 286 (.ref 87), en w "done" 298 (.ref 94), en w "shift_on" 309 (.ref 101), en w "__static_attributes__" 315 (.ref 102)]⟩ 9), ⟨[]⟩⟩,
  tu0,
  ⟨.none, none, (.fields ⟨[zi 25, zi 4, .ref 74, zi 37, zi 4, .ref 79, zi 46, zi 4, .ref 86, zi 65, zi 4, .ref 93, zi 73, zi 4, .ref 100]⟩), ⟨[]⟩⟩,
  co [.str "Deal" 250, .str "Deal" 251, cp 252, zi 23, zi 0, zi 0, zi 0, zi 0, .ref 67, .bool false, zi 181, .ref 68, .none, .none, .none, .none, zi 253, zi 23, cp 254],
  ⟨(.type "frame"), none, .plain, ⟨[(some (.ref 69)), (some (.ref 3)), (some (.ref 66)), none, (some (.str "rota.deals" 246)), none, (some (.ref 0))]⟩⟩,
  tu0,
  fl0,
  fo' (fd (iF11 12 0) "__init__" "Deal.__init__" .none .none .none .none .none .none 0 0),
  co [.str "__init__" 260, .str "Deal.__init__" 261, cp 262, zi 25, zi 2, zi 0, zi 0, zi 3, .ref 71, .bool true, zi 181, .ref 72, .none, .none, .none, .ref 73, zi 263, zi 25, cp 264],
  fo (fd (iF11 12 0) "__init__" "Deal.__init__" .none .none .none (.str "rota.deals" 246) (.ref 74) .none 3 0),
  tu0,
  fl0,
  fo' (fd (iF11 12 1) "left_by" "Deal.left_by" .none .none .none .none .none .none 0 0),
  co [.str "left_by" 266, .str "Deal.left_by" 267, cp 268, zi 37, zi 3, zi 0, zi 0, zi 3, .ref 76, .bool true, zi 181, .ref 77, .none, .none, .none, .ref 78, zi 269, zi 37, cp 270],
  fo (fd (iF11 12 1) "left_by" "Deal.left_by" .none .none .none (.str "rota.deals" 246) (.ref 79) .none 3 0),
  tu0,
  fl0,
  tu [.str "self" 275, .str "first" 276, .str "met" 277, .str "row" 278, .str "at" 279, .str "place" 280, .str "person" 281, .str "lefts" 282, .str "left" 283],
  tu0,
  fo' (fd (iF11 12 2) "sought" "Deal.sought" .none .none .none .none .none .none 0 0),
  co [.str "sought" 272, .str "Deal.sought" 273, cp 274, zi 46, zi 2, zi 0, zi 0, zi 3, .ref 81, .bool true, zi 181, .ref 82, .none, .ref 83, .ref 84, .ref 85, zi 284, zi 46, cp 285],
  fo (fd (iF11 12 2) "sought" "Deal.sought" .none .none .none (.str "rota.deals" 246) (.ref 86) .none 3 0),
  tu0,
  fl0,
  tu [.str "self" 290, .str "met" 291, .str "place" 292, .str "person" 293, .str "before" 294, .str "mover" 295],
  tu0,
  fo' (fd (iF11 12 3) "done" "Deal.done" .none .none .none .none .none .none 0 0),
  co [.str "done" 287, .str "Deal.done" 288, cp 289, zi 65, zi 4, zi 0, zi 0, zi 3, .ref 88, .bool true, zi 181, .ref 89, .none, .ref 90, .ref 91, .ref 92, zi 296, zi 65, cp 297],
  fo (fd (iF11 12 3) "done" "Deal.done" .none .none .none (.str "rota.deals" 246) (.ref 93) .none 3 0),
  tu0,
  fl0,
  tu [.str "self" 302, .str "person" 303, .str "left" 304, .str "place" 305, .str "held" 306],
  tu0,
  fo' (fd (iF11 12 4) "shift_on" "Deal.shift_on" .none .none .none .none .none .none 0 0),
  co [.str "shift_on" 299, .str "Deal.shift_on" 300, cp 301, zi 73, zi 4, zi 0, zi 0, zi 3, .ref 95, .bool true, zi 181, .ref 96, .none, .ref 97, .ref 98, .ref 99, zi 307, zi 73, cp 308],
  fo (fd (iF11 12 4) "shift_on" "Deal.shift_on" .none .none .none (.str "rota.deals" 246) (.ref 100) .none 3 0),
  tu [.str "at" 310, .str "days" 311, .str "fits" 312, .str "most" 313, .str "places" 314],
  ⟨(.type "dict"), none, (.dict ⟨[en w "__module__" 255 (.str "rota.deals" 246), en w "__firstlineno__" 259 (.int 23 258), en w "__init__" 265 (.ref 75), en w "left_by" 271 (.ref 80), en w "sought" 286 (.ref 87), en w "done" 298 (.ref 94), en w "shift_on" 309 (.ref 101), en w "__static_attributes__" 315 (.ref 102), en w "__dict__" 317 (.ref 105), en w "__weakref__" 319 (.ref 106), en w "__doc__" 320 .none]⟩ 4), ⟨[]⟩⟩,
  ⟨(.type "type"), none, (.cls ⟨"Deal", [(.type "object")], [.ref 104, (.type "object")], 103, "Deal", true, [], [], false, none, false⟩), ⟨[none, none, (some (.str "Deal" 248)), (some (.str "Deal" 256)), (some (.builtin "object.__new__")), (some (.bool true))]⟩⟩,
  ⟨(.type "getset_descriptor"), none, (.fields ⟨[.str "__dict__" 316, .ref 104, (.builtin "function.__dict__"), (.builtin "function.__dict__#set")]⟩), ⟨[]⟩⟩,
  ⟨(.type "getset_descriptor"), none, (.fields ⟨[.str "__weakref__" 318, .ref 104, (.builtin "ExceptionGroup.__weakref__"), .none]⟩), ⟨[]⟩⟩,
  ⟨(.type "super"), none, (.fields ⟨[.ref 104, .ref 104, .ref 104]⟩), ⟨[]⟩⟩,
  ⟨(.type "builtin_function_or_method"), none, (.fields ⟨[(.builtin "object.__init_subclass__"), .ref 104]⟩), ⟨[]⟩⟩,
  tu0,
  fl0,
  fo' (fd (tF11 13) "dealt" "dealt" .none .none .none .none .none .none 0 0),
  co [.str "dealt" 323, .str "dealt" 324, cp 325, zi 78, zi 1, zi 0, zi 0, zi 3, .ref 109, .bool true, zi 181, .ref 110, .none, .none, .none, .ref 111, zi 326, zi 78, cp 327],
  fo (fd (tF11 13) "dealt" "dealt" .none .none .none (.str "rota.deals" 246) (.ref 112) .none 3 0),
  tu [(.type "ValueError")],
  ⟨(.type "builtin_function_or_method"), none, (.fields ⟨[(.builtin "type.__prepare__"), (.type "type")]⟩), ⟨[]⟩⟩,
  ⟨(.type "dict"), none, (.dict ⟨[en w "__module__" 338 (.str "rota.errors" 329), en w "__qualname__" 340 (.str "RotaError" 339), en w "__firstlineno__" 342 (.int 94 341), en w "__static_attributes__" 343 (.ref 121)]⟩ 4), ⟨[]⟩⟩,
  tu0,
  fl0,
  co [.str "RotaError" 333, .str "RotaError" 334, cp 335, zi 94, zi 0, zi 0, zi 0, zi 0, .ref 117, .bool false, zi 181, .ref 118, .none, .none, .none, .none, zi 336, zi 94, cp 337],
  ⟨(.type "frame"), none, .plain, ⟨[(some (.ref 119)), (some (.ref 3)), (some (.ref 116)), none, (some (.str "rota.errors" 329)), none, (some (.ref 0))]⟩⟩,
  tu0,
  ⟨(.type "dict"), none, (.dict ⟨[en w "__module__" 338 (.str "rota.errors" 329), en w "__firstlineno__" 342 (.int 94 341), en w "__static_attributes__" 343 (.ref 121), en w "__weakref__" 345 (.ref 124), en w "__doc__" 346 .none]⟩ 3), ⟨[]⟩⟩,
  ⟨(.type "type"), none, (.cls ⟨"RotaError", [(.type "ValueError")], [.ref 123, (.type "ValueError"), (.type "Exception"), (.type "BaseException"), (.type "object")], 122, "RotaError", true, [], [.ref 136, .ref 148, .ref 160, .ref 172, .ref 184], false, none, false⟩), ⟨[(some (.ref 114)), none, (some (.str "RotaError" 331)), (some (.str "RotaError" 339)), (some (.builtin "ValueError.__new__")), (some (.bool true))]⟩⟩,
  ⟨(.type "getset_descriptor"), none, (.fields ⟨[.str "__weakref__" 344, .ref 123, (.builtin "ExceptionGroup.__weakref__"), .none]⟩), ⟨[]⟩⟩,
  ⟨(.type "super"), none, (.fields ⟨[.ref 123, .ref 123, .ref 123]⟩), ⟨[]⟩⟩,
  ⟨(.type "builtin_function_or_method"), none, (.fields ⟨[(.builtin "object.__init_subclass__"), .ref 123]⟩), ⟨[]⟩⟩,
  tu [.ref 123],
  ⟨(.type "builtin_function_or_method"), none, (.fields ⟨[(.builtin "type.__prepare__"), (.type "type")]⟩), ⟨[]⟩⟩,
  ⟨(.type "dict"), none, (.dict ⟨[en w "__module__" 356 (.str "rota.errors" 329), en w "__qualname__" 358 (.str "BadName" 357), en w "__firstlineno__" 360 (.int 96 359), en w "__static_attributes__" 361 (.ref 134)]⟩ 4), ⟨[]⟩⟩,
  tu0,
  fl0,
  co [.str "BadName" 351, .str "BadName" 352, cp 353, zi 96, zi 0, zi 0, zi 0, zi 0, .ref 130, .bool false, zi 181, .ref 131, .none, .none, .none, .none, zi 354, zi 96, cp 355],
  ⟨(.type "frame"), none, .plain, ⟨[(some (.ref 132)), (some (.ref 3)), (some (.ref 129)), none, (some (.str "rota.errors" 329)), none, (some (.ref 0))]⟩⟩,
  tu0,
  ⟨(.type "dict"), none, (.dict ⟨[en w "__module__" 356 (.str "rota.errors" 329), en w "__firstlineno__" 360 (.int 96 359), en w "__static_attributes__" 361 (.ref 134), en w "__doc__" 362 .none]⟩ 2), ⟨[]⟩⟩,
  ⟨(.type "type"), none, (.cls ⟨"BadName", [.ref 123], [.ref 136, .ref 123, (.type "ValueError"), (.type "Exception"), (.type "BaseException"), (.type "object")], 135, "BadName", true, [], [], false, none, false⟩), ⟨[(some (.ref 127)), none, (some (.str "BadName" 349)), (some (.str "BadName" 357)), (some (.builtin "ValueError.__new__")), (some (.bool true))]⟩⟩,
  ⟨(.type "super"), none, (.fields ⟨[.ref 136, .ref 136, .ref 136]⟩), ⟨[]⟩⟩,
  ⟨(.type "builtin_function_or_method"), none, (.fields ⟨[(.builtin "object.__init_subclass__"), .ref 136]⟩), ⟨[]⟩⟩,
  tu [.ref 123],
  ⟨(.type "builtin_function_or_method"), none, (.fields ⟨[(.builtin "type.__prepare__"), (.type "type")]⟩), ⟨[]⟩⟩,
  ⟨(.type "dict"), none, (.dict ⟨[en w "__module__" 372 (.str "rota.errors" 329), en w "__qualname__" 374 (.str "BadStretch" 373), en w "__firstlineno__" 376 (.int 98 375), en w "__static_attributes__" 377 (.ref 146)]⟩ 4), ⟨[]⟩⟩,
  tu0,
  fl0,
  co [.str "BadStretch" 367, .str "BadStretch" 368, cp 369, zi 98, zi 0, zi 0, zi 0, zi 0, .ref 142, .bool false, zi 181, .ref 143, .none, .none, .none, .none, zi 370, zi 98, cp 371],
  ⟨(.type "frame"), none, .plain, ⟨[(some (.ref 144)), (some (.ref 3)), (some (.ref 141)), none, (some (.str "rota.errors" 329)), none, (some (.ref 0))]⟩⟩,
  tu0,
  ⟨(.type "dict"), none, (.dict ⟨[en w "__module__" 372 (.str "rota.errors" 329), en w "__firstlineno__" 376 (.int 98 375), en w "__static_attributes__" 377 (.ref 146), en w "__doc__" 378 .none]⟩ 2), ⟨[]⟩⟩,
  ⟨(.type "type"), none, (.cls ⟨"BadStretch", [.ref 123], [.ref 148, .ref 123, (.type "ValueError"), (.type "Exception"), (.type "BaseException"), (.type "object")], 147, "BadStretch", true, [], [], false, none, false⟩), ⟨[(some (.ref 139)), none, (some (.str "BadStretch" 365)), (some (.str "BadStretch" 373)), (some (.builtin "ValueError.__new__")), (some (.bool true))]⟩⟩,
  ⟨(.type "super"), none, (.fields ⟨[.ref 148, .ref 148, .ref 148]⟩), ⟨[]⟩⟩,
  ⟨(.type "builtin_function_or_method"), none, (.fields ⟨[(.builtin "object.__init_subclass__"), .ref 148]⟩), ⟨[]⟩⟩,
  tu [.ref 123],
  ⟨(.type "builtin_function_or_method"), none, (.fields ⟨[(.builtin "type.__prepare__"), (.type "type")]⟩), ⟨[]⟩⟩,
  ⟨(.type "dict"), none, (.dict ⟨[en w "__module__" 388 (.str "rota.errors" 329), en w "__qualname__" 390 (.str "BadCount" 389), en w "__firstlineno__" 392 (.int 100 391), en w "__static_attributes__" 393 (.ref 158)]⟩ 4), ⟨[]⟩⟩,
  tu0,
  fl0,
  co [.str "BadCount" 383, .str "BadCount" 384, cp 385, zi 100, zi 0, zi 0, zi 0, zi 0, .ref 154, .bool false, zi 181, .ref 155, .none, .none, .none, .none, zi 386, zi 100, cp 387],
  ⟨(.type "frame"), none, .plain, ⟨[(some (.ref 156)), (some (.ref 3)), (some (.ref 153)), none, (some (.str "rota.errors" 329)), none, (some (.ref 0))]⟩⟩,
  tu0,
  ⟨(.type "dict"), none, (.dict ⟨[en w "__module__" 388 (.str "rota.errors" 329), en w "__firstlineno__" 392 (.int 100 391), en w "__static_attributes__" 393 (.ref 158), en w "__doc__" 394 .none]⟩ 2), ⟨[]⟩⟩,
  ⟨(.type "type"), none, (.cls ⟨"BadCount", [.ref 123], [.ref 160, .ref 123, (.type "ValueError"), (.type "Exception"), (.type "BaseException"), (.type "object")], 159, "BadCount", true, [], [], false, none, false⟩), ⟨[(some (.ref 151)), none, (some (.str "BadCount" 381)), (some (.str "BadCount" 389)), (some (.builtin "ValueError.__new__")), (some (.bool true))]⟩⟩,
  ⟨(.type "super"), none, (.fields ⟨[.ref 160, .ref 160, .ref 160]⟩), ⟨[]⟩⟩,
  ⟨(.type "builtin_function_or_method"), none, (.fields ⟨[(.builtin "object.__init_subclass__"), .ref 160]⟩), ⟨[]⟩⟩,
  tu [.ref 123],
  ⟨(.type "builtin_function_or_method"), none, (.fields ⟨[(.builtin "type.__prepare__"), (.type "type")]⟩), ⟨[]⟩⟩,
  ⟨(.type "dict"), none, (.dict ⟨[en w "__module__" 404 (.str "rota.errors" 329), en w "__qualname__" 406 (.str "Twice" 405), en w "__firstlineno__" 408 (.int 102 407), en w "__static_attributes__" 409 (.ref 170)]⟩ 4), ⟨[]⟩⟩,
  tu0,
  fl0,
  co [.str "Twice" 399, .str "Twice" 400, cp 401, zi 102, zi 0, zi 0, zi 0, zi 0, .ref 166, .bool false, zi 181, .ref 167, .none, .none, .none, .none, zi 402, zi 102, cp 403],
  ⟨(.type "frame"), none, .plain, ⟨[(some (.ref 168)), (some (.ref 3)), (some (.ref 165)), none, (some (.str "rota.errors" 329)), none, (some (.ref 0))]⟩⟩,
  tu0,
  ⟨(.type "dict"), none, (.dict ⟨[en w "__module__" 404 (.str "rota.errors" 329), en w "__firstlineno__" 408 (.int 102 407), en w "__static_attributes__" 409 (.ref 170), en w "__doc__" 410 .none]⟩ 2), ⟨[]⟩⟩,
  ⟨(.type "type"), none, (.cls ⟨"Twice", [.ref 123], [.ref 172, .ref 123, (.type "ValueError"), (.type "Exception"), (.type "BaseException"), (.type "object")], 171, "Twice", true, [], [], false, none, false⟩), ⟨[(some (.ref 163)), none, (some (.str "Twice" 397)), (some (.str "Twice" 405)), (some (.builtin "ValueError.__new__")), (some (.bool true))]⟩⟩,
  ⟨(.type "super"), none, (.fields ⟨[.ref 172, .ref 172, .ref 172]⟩), ⟨[]⟩⟩,
  ⟨(.type "builtin_function_or_method"), none, (.fields ⟨[(.builtin "object.__init_subclass__"), .ref 172]⟩), ⟨[]⟩⟩,
  tu [.ref 123],
  ⟨(.type "builtin_function_or_method"), none, (.fields ⟨[(.builtin "type.__prepare__"), (.type "type")]⟩), ⟨[]⟩⟩,
  ⟨(.type "dict"), none, (.dict ⟨[en w "__module__" 420 (.str "rota.errors" 329), en w "__qualname__" 422 (.str "Missing" 421), en w "__firstlineno__" 424 (.int 104 423), en w "__static_attributes__" 425 (.ref 182)]⟩ 4), ⟨[]⟩⟩,
  tu0,
  fl0,
  co [.str "Missing" 415, .str "Missing" 416, cp 417, zi 104, zi 0, zi 0, zi 0, zi 0, .ref 178, .bool false, zi 181, .ref 179, .none, .none, .none, .none, zi 418, zi 104, cp 419],
  ⟨(.type "frame"), none, .plain, ⟨[(some (.ref 180)), (some (.ref 3)), (some (.ref 177)), none, (some (.str "rota.errors" 329)), none, (some (.ref 0))]⟩⟩,
  tu0,
  ⟨(.type "dict"), none, (.dict ⟨[en w "__module__" 420 (.str "rota.errors" 329), en w "__firstlineno__" 424 (.int 104 423), en w "__static_attributes__" 425 (.ref 182), en w "__doc__" 426 .none]⟩ 2), ⟨[]⟩⟩,
  ⟨(.type "type"), none, (.cls ⟨"Missing", [.ref 123], [.ref 184, .ref 123, (.type "ValueError"), (.type "Exception"), (.type "BaseException"), (.type "object")], 183, "Missing", true, [], [], false, none, false⟩), ⟨[(some (.ref 175)), none, (some (.str "Missing" 413)), (some (.str "Missing" 421)), (some (.builtin "ValueError.__new__")), (some (.bool true))]⟩⟩,
  ⟨(.type "super"), none, (.fields ⟨[.ref 184, .ref 184, .ref 184]⟩), ⟨[]⟩⟩,
  ⟨(.type "builtin_function_or_method"), none, (.fields ⟨[(.builtin "object.__init_subclass__"), .ref 184]⟩), ⟨[]⟩⟩,
  tu0,
  fl0,
  tu [.str "text" 436, .str "sign" 437],
  tu0,
  fo' (fd (tF11 23) "is_name" "is_name" .none .none .none .none .none .none 0 0),
  co [.str "is_name" 433, .str "is_name" 434, cp 435, zi 108, zi 1, zi 0, zi 0, zi 3, .ref 187, .bool true, zi 181, .ref 188, .none, .ref 189, .ref 190, .ref 191, zi 438, zi 108, cp 439],
  fo (fd (tF11 23) "is_name" "is_name" .none .none .none (.str "rota.names" 429) (.ref 192) .none 3 0),
  tu0,
  ⟨(.type "builtin_function_or_method"), none, (.fields ⟨[(.builtin "type.__prepare__"), (.type "type")]⟩), ⟨[]⟩⟩,
  ⟨(.type "dict"), none, (.dict ⟨[en w "__module__" 454 (.str "rota.book" 441), en w "__qualname__" 456 (.str "Person" 455), en w "__firstlineno__" 458 (.int 118 457), en w "__init__" 467 (.ref 207), en w "__static_attributes__" 471 (.ref 208)]⟩ 5), ⟨[]⟩⟩,
  tu0,
  ⟨.none, none, (.fields ⟨[zi 120, zi 4, .ref 206]⟩), ⟨[]⟩⟩,
  co [.str "Person" 449, .str "Person" 450, cp 451, zi 118, zi 0, zi 0, zi 0, zi 0, .ref 197, .bool false, zi 181, .ref 198, .none, .none, .none, .none, zi 452, zi 118, cp 453],
  ⟨(.type "frame"), none, .plain, ⟨[(some (.ref 199)), (some (.ref 3)), (some (.ref 196)), none, (some (.str "rota.book" 441)), none, (some (.ref 0))]⟩⟩,
  tu0,
  fl0,
  tu [.str "self" 462, .str "skills" 463, .str "limit" 464],
  tu0,
  fo' (fd (iF11 27 0) "__init__" "Person.__init__" .none .none .none .none .none .none 0 0),
  co [.str "__init__" 459, .str "Person.__init__" 460, cp 461, zi 120, zi 3, zi 0, zi 0, zi 3, .ref 201, .bool true, zi 181, .ref 202, .none, .ref 203, .ref 204, .ref 205, zi 465, zi 120, cp 466],
  fo (fd (iF11 27 0) "__init__" "Person.__init__" .none .none .none (.str "rota.book" 441) (.ref 206) .none 3 0),
  tu [.str "away" 468, .str "limit" 469, .str "skills" 470],
  ⟨(.type "dict"), none, (.dict ⟨[en w "__module__" 454 (.str "rota.book" 441), en w "__firstlineno__" 458 (.int 118 457), en w "__init__" 467 (.ref 207), en w "__static_attributes__" 471 (.ref 208), en w "__dict__" 473 (.ref 211), en w "__weakref__" 475 (.ref 212), en w "__doc__" 476 .none]⟩ 4), ⟨[]⟩⟩,
  ⟨(.type "type"), none, (.cls ⟨"Person", [(.type "object")], [.ref 210, (.type "object")], 209, "Person", true, [], [], false, none, false⟩), ⟨[none, none, (some (.str "Person" 447)), (some (.str "Person" 455)), (some (.builtin "object.__new__")), (some (.bool true))]⟩⟩,
  ⟨(.type "getset_descriptor"), none, (.fields ⟨[.str "__dict__" 472, .ref 210, (.builtin "function.__dict__"), (.builtin "function.__dict__#set")]⟩), ⟨[]⟩⟩,
  ⟨(.type "getset_descriptor"), none, (.fields ⟨[.str "__weakref__" 474, .ref 210, (.builtin "ExceptionGroup.__weakref__"), .none]⟩), ⟨[]⟩⟩,
  ⟨(.type "super"), none, (.fields ⟨[.ref 210, .ref 210, .ref 210]⟩), ⟨[]⟩⟩,
  ⟨(.type "builtin_function_or_method"), none, (.fields ⟨[(.builtin "object.__init_subclass__"), .ref 210]⟩), ⟨[]⟩⟩,
  tu0,
  ⟨(.type "builtin_function_or_method"), none, (.fields ⟨[(.builtin "type.__prepare__"), (.type "type")]⟩), ⟨[]⟩⟩,
  ⟨(.type "dict"), none, (.dict ⟨[en w "__module__" 486 (.str "rota.book" 441), en w "__qualname__" 488 (.str "Shift" 487), en w "__firstlineno__" 490 (.int 124 489), en w "__init__" 499 (.ref 228), en w "__static_attributes__" 502 (.ref 229)]⟩ 5), ⟨[]⟩⟩,
  tu0,
  ⟨.none, none, (.fields ⟨[zi 126, zi 4, .ref 227]⟩), ⟨[]⟩⟩,
  co [.str "Shift" 481, .str "Shift" 482, cp 483, zi 124, zi 0, zi 0, zi 0, zi 0, .ref 218, .bool false, zi 181, .ref 219, .none, .none, .none, .none, zi 484, zi 124, cp 485],
  ⟨(.type "frame"), none, .plain, ⟨[(some (.ref 220)), (some (.ref 3)), (some (.ref 217)), none, (some (.str "rota.book" 441)), none, (some (.ref 0))]⟩⟩,
  tu0,
  fl0,
  tu [.str "self" 494, .str "hours" 495, .str "needs" 496],
  tu0,
  fo' (fd (iF11 28 0) "__init__" "Shift.__init__" .none .none .none .none .none .none 0 0),
  co [.str "__init__" 491, .str "Shift.__init__" 492, cp 493, zi 126, zi 3, zi 0, zi 0, zi 3, .ref 222, .bool true, zi 181, .ref 223, .none, .ref 224, .ref 225, .ref 226, zi 497, zi 126, cp 498],
  fo (fd (iF11 28 0) "__init__" "Shift.__init__" .none .none .none (.str "rota.book" 441) (.ref 227) .none 3 0),
  tu [.str "hours" 500, .str "needs" 501],
  ⟨(.type "dict"), none, (.dict ⟨[en w "__module__" 486 (.str "rota.book" 441), en w "__firstlineno__" 490 (.int 124 489), en w "__init__" 499 (.ref 228), en w "__static_attributes__" 502 (.ref 229), en w "__dict__" 504 (.ref 232), en w "__weakref__" 506 (.ref 233), en w "__doc__" 507 .none]⟩ 4), ⟨[]⟩⟩,
  ⟨(.type "type"), none, (.cls ⟨"Shift", [(.type "object")], [.ref 231, (.type "object")], 230, "Shift", true, [], [], false, none, false⟩), ⟨[none, none, (some (.str "Shift" 479)), (some (.str "Shift" 487)), (some (.builtin "object.__new__")), (some (.bool true))]⟩⟩,
  ⟨(.type "getset_descriptor"), none, (.fields ⟨[.str "__dict__" 503, .ref 231, (.builtin "function.__dict__"), (.builtin "function.__dict__#set")]⟩), ⟨[]⟩⟩,
  ⟨(.type "getset_descriptor"), none, (.fields ⟨[.str "__weakref__" 505, .ref 231, (.builtin "ExceptionGroup.__weakref__"), .none]⟩), ⟨[]⟩⟩,
  ⟨(.type "super"), none, (.fields ⟨[.ref 231, .ref 231, .ref 231]⟩), ⟨[]⟩⟩,
  ⟨(.type "builtin_function_or_method"), none, (.fields ⟨[(.builtin "object.__init_subclass__"), .ref 231]⟩), ⟨[]⟩⟩,
  tu0,
  fl0,
  tu [.str "skills" 513, .str "seen" 514, .str "skill" 515],
  tu0,
  fo' (fd (tF11 29) "checked_skills" "checked_skills" .none .none .none .none .none .none 0 0),
  co [.str "checked_skills" 510, .str "checked_skills" 511, cp 512, zi 129, zi 1, zi 0, zi 0, zi 3, .ref 236, .bool true, zi 181, .ref 237, .none, .ref 238, .ref 239, .ref 240, zi 516, zi 129, cp 517],
  fo (fd (tF11 29) "checked_skills" "checked_skills" .none .none .none (.str "rota.book" 441) (.ref 241) .none 3 0),
  tu0,
  fl0,
  tu [.str "needs" 522, .str "seen" 523, .str "found" 524, .str "skill" 525, .str "count" 526],
  tu0,
  fo' (fd (tF11 30) "checked_needs" "checked_needs" .none .none .none .none .none .none 0 0),
  co [.str "checked_needs" 519, .str "checked_needs" 520, cp 521, zi 138, zi 1, zi 0, zi 0, zi 3, .ref 243, .bool true, zi 181, .ref 244, .none, .ref 245, .ref 246, .ref 247, zi 527, zi 138, cp 528],
  fo (fd (tF11 30) "checked_needs" "checked_needs" .none .none .none (.str "rota.book" 441) (.ref 248) .none 3 0)]⟩ } }
noncomputable def thr11 (w : World) : Thread := thr PySem.Challenge.pw_uf030014_11 w 6000 31 ⟨138, 0, 150, 16⟩ { scope := Program.main PySem.Challenge.pw_uf030014_11 |>.scope, locals := mainNs, globals := mainNs, cells := [], code := .ref 13, frame := some 14 }
set_option maxRecDepth 100000 in
set_option maxHeartbeats 8000000 in
theorem boot11 : ∀ w, ((fencedOpening treeTable PySem.Challenge.pw_uf030014_11 w 6000).isSome && (s0 PySem.Challenge.pw_uf030014_11 w 6000).heap.isNs mainGlobals && (s0 PySem.Challenge.pw_uf030014_11 w 6000).gens.size == 0) = true := by
  intro w
  kernel_rfl
set_option maxRecDepth 100000 in
set_option maxHeartbeats 8000000 in
theorem halfS11 : ∀ w, (topN treeTable PySem.Challenge.pw_uf030014_11 w (s0 PySem.Challenge.pw_uf030014_11 w 6000).heap.objs.size (ann0 PySem.Challenge.pw_uf030014_11 w 6000) 2496 (s0 PySem.Challenge.pw_uf030014_11 w 6000) (topStub PySem.Challenge.pw_uf030014_11)).map (fun x => x.1) = some (lit11 w) := by
  intro w
  kernel_rfl
set_option maxRecDepth 100000 in
set_option maxHeartbeats 8000000 in
theorem halfT11 : ∀ w, (topN treeTable PySem.Challenge.pw_uf030014_11 w (s0 PySem.Challenge.pw_uf030014_11 w 6000).heap.objs.size (ann0 PySem.Challenge.pw_uf030014_11 w 6000) 2496 (s0 PySem.Challenge.pw_uf030014_11 w 6000) (topStub PySem.Challenge.pw_uf030014_11)).map (fun x => x.2) = some (thr11 w) := by
  intro w
  kernel_rfl
set_option maxRecDepth 100000 in
set_option maxHeartbeats 8000000 in
theorem base11 : ∀ w, (ends PySem.Challenge.pw_uf030014_11 w 6000 3504 (lit11 w) (thr11 w)).map (fun s => (openSeen q11 [] (importedModules (Program.main PySem.Challenge.pw_uf030014_11).body) (xtOf PySem.Challenge.rw_uf030014_11 q11) true s, ())) = some (openGood q11 [], ()) := by
  intro w
  kernel_rfl
set_option maxRecDepth 100000 in
set_option maxHeartbeats 8000000 in
theorem fit11 : ∀ w, (ends PySem.Challenge.pw_uf030014_11 w 6000 3504 (lit11 w) (thr11 w)).map (fun s => fitB (fragAt 600 s.heap) tx11.T tx11.G tx11.src) = some true := by
  intro w
  kernel_rfl
set_option maxRecDepth 100000 in
set_option maxHeartbeats 8000000 in
theorem body11 : ∀ w, (ends PySem.Challenge.pw_uf030014_11 w 6000 3504 (lit11 w) (thr11 w)).map (fun s => (tx11.ask (fragAt 600 s.heap)).2) = some tx11.said.2 := by
  intro w
  kernel_rfl
open PySem PyProof.Rows
set_option autoImplicit false
set_option linter.unusedVariables false
theorem y2_2 {A0 A1 : Sort _} {q : Prop} {p0 p1 : A0 → A1 → Prop} {G : Prop} (h : q ∧ ∃ a b, p0 a b ∧ p1 a b) (k : q → ∀ a b, p0 a b → p1 a b → G) : G := by
  obtain ⟨h0, a, b, h1, h2⟩ := h; exact k h0 a b h1 h2
theorem w4 {p1 p2 p3 p4 G : Prop} (h : ((p1 ∧ p2) ∧ p3) ∧ p4) (k : p1 → p2 → p3 → p4 → G) : G := by
  obtain ⟨⟨⟨h1, h2⟩, h3⟩, h4⟩ := h; exact k h1 h2 h3 h4
theorem w5 {p1 p2 p3 p4 p5 G : Prop} (h : (((p1 ∧ p2) ∧ p3) ∧ p4) ∧ p5) (k : p1 → p2 → p3 → p4 → p5 → G) : G := by
  obtain ⟨⟨⟨⟨h1, h2⟩, h3⟩, h4⟩, h5⟩ := h; exact k h1 h2 h3 h4 h5
theorem w6 {p1 p2 p3 p4 p5 p6 G : Prop} (h : ((((p1 ∧ p2) ∧ p3) ∧ p4) ∧ p5) ∧ p6) (k : p1 → p2 → p3 → p4 → p5 → p6 → G) : G := by
  obtain ⟨⟨⟨⟨⟨h1, h2⟩, h3⟩, h4⟩, h5⟩, h6⟩ := h; exact k h1 h2 h3 h4 h5 h6
theorem w12 {p1 p2 p3 p4 p5 p6 p7 p8 p9 p10 p11 p12 G : Prop} (h : ((((((((((p1 ∧ p2) ∧ p3) ∧ p4) ∧ p5) ∧ p6) ∧ p7) ∧ p8) ∧ p9) ∧ p10) ∧ p11) ∧ p12) (k : p1 → p2 → p3 → p4 → p5 → p6 → p7 → p8 → p9 → p10 → p11 → p12 → G) : G := by
  obtain ⟨⟨⟨⟨⟨⟨⟨⟨⟨⟨⟨h1, h2⟩, h3⟩, h4⟩, h5⟩, h6⟩, h7⟩, h8⟩, h9⟩, h10⟩, h11⟩, h12⟩ := h; exact k h1 h2 h3 h4 h5 h6 h7 h8 h9 h10 h11 h12
theorem y1_2 {A0 : Sort _} {q : Prop} {p0 p1 : A0 → Prop} {G : Prop} (h : q ∧ ∃ a, p0 a ∧ p1 a) (k : q → ∀ a, p0 a → p1 a → G) : G := by
  obtain ⟨h0, a, h1, h2⟩ := h; exact k h0 a h1 h2
theorem x0_3  {p0 p1 p2 : Prop} {G : Prop} (h : p0 ∧ p1 ∧ p2) (k : p0 → p1 → p2 → G) : G := by
  obtain ⟨h0, h1, h2⟩ := h; exact k h0 h1 h2
theorem x0_4  {p0 p1 p2 p3 : Prop} {G : Prop} (h : p0 ∧ p1 ∧ p2 ∧ p3) (k : p0 → p1 → p2 → p3 → G) : G := by
  obtain ⟨h0, h1, h2, h3⟩ := h; exact k h0 h1 h2 h3
theorem x0_6  {p0 p1 p2 p3 p4 p5 : Prop} {G : Prop} (h : p0 ∧ p1 ∧ p2 ∧ p3 ∧ p4 ∧ p5) (k : p0 → p1 → p2 → p3 → p4 → p5 → G) : G := by
  obtain ⟨h0, h1, h2, h3, h4, h5⟩ := h; exact k h0 h1 h2 h3 h4 h5
theorem x1_2 {A0 : Sort _} {p0 p1 : A0 → Prop} {G : Prop} (h : ∃ a0, p0 a0 ∧ p1 a0) (k : ∀ a0, p0 a0 → p1 a0 → G) : G := by
  obtain ⟨a0, h0, h1⟩ := h; exact k a0 h0 h1
theorem x1_3 {A0 : Sort _} {p0 p1 p2 : A0 → Prop} {G : Prop} (h : ∃ a0, p0 a0 ∧ p1 a0 ∧ p2 a0) (k : ∀ a0, p0 a0 → p1 a0 → p2 a0 → G) : G := by
  obtain ⟨a0, h0, h1, h2⟩ := h; exact k a0 h0 h1 h2
theorem x1_4 {A0 : Sort _} {p0 p1 p2 p3 : A0 → Prop} {G : Prop} (h : ∃ a0, p0 a0 ∧ p1 a0 ∧ p2 a0 ∧ p3 a0) (k : ∀ a0, p0 a0 → p1 a0 → p2 a0 → p3 a0 → G) : G := by
  obtain ⟨a0, h0, h1, h2, h3⟩ := h; exact k a0 h0 h1 h2 h3
theorem x1_5 {A0 : Sort _} {p0 p1 p2 p3 p4 : A0 → Prop} {G : Prop} (h : ∃ a0, p0 a0 ∧ p1 a0 ∧ p2 a0 ∧ p3 a0 ∧ p4 a0) (k : ∀ a0, p0 a0 → p1 a0 → p2 a0 → p3 a0 → p4 a0 → G) : G := by
  obtain ⟨a0, h0, h1, h2, h3, h4⟩ := h; exact k a0 h0 h1 h2 h3 h4
theorem x2_1 {A0 : Sort _} {A1 : Sort _} {p0 : A0 → A1 → Prop} {G : Prop} (h : ∃ a0 a1, p0 a0 a1) (k : ∀ a0 a1, p0 a0 a1 → G) : G := by
  obtain ⟨a0, a1, h0⟩ := h; exact k a0 a1 h0
theorem x2_2 {A0 : Sort _} {A1 : Sort _} {p0 p1 : A0 → A1 → Prop} {G : Prop} (h : ∃ a0 a1, p0 a0 a1 ∧ p1 a0 a1) (k : ∀ a0 a1, p0 a0 a1 → p1 a0 a1 → G) : G := by
  obtain ⟨a0, a1, h0, h1⟩ := h; exact k a0 a1 h0 h1
theorem x2_3 {A0 : Sort _} {A1 : Sort _} {p0 p1 p2 : A0 → A1 → Prop} {G : Prop} (h : ∃ a0 a1, p0 a0 a1 ∧ p1 a0 a1 ∧ p2 a0 a1) (k : ∀ a0 a1, p0 a0 a1 → p1 a0 a1 → p2 a0 a1 → G) : G := by
  obtain ⟨a0, a1, h0, h1, h2⟩ := h; exact k a0 a1 h0 h1 h2
theorem x2_4 {A0 : Sort _} {A1 : Sort _} {p0 p1 p2 p3 : A0 → A1 → Prop} {G : Prop} (h : ∃ a0 a1, p0 a0 a1 ∧ p1 a0 a1 ∧ p2 a0 a1 ∧ p3 a0 a1) (k : ∀ a0 a1, p0 a0 a1 → p1 a0 a1 → p2 a0 a1 → p3 a0 a1 → G) : G := by
  obtain ⟨a0, a1, h0, h1, h2, h3⟩ := h; exact k a0 a1 h0 h1 h2 h3
theorem x2_5 {A0 : Sort _} {A1 : Sort _} {p0 p1 p2 p3 p4 : A0 → A1 → Prop} {G : Prop} (h : ∃ a0 a1, p0 a0 a1 ∧ p1 a0 a1 ∧ p2 a0 a1 ∧ p3 a0 a1 ∧ p4 a0 a1) (k : ∀ a0 a1, p0 a0 a1 → p1 a0 a1 → p2 a0 a1 → p3 a0 a1 → p4 a0 a1 → G) : G := by
  obtain ⟨a0, a1, h0, h1, h2, h3, h4⟩ := h; exact k a0 a1 h0 h1 h2 h3 h4
theorem x2_6 {A0 : Sort _} {A1 : Sort _} {p0 p1 p2 p3 p4 p5 : A0 → A1 → Prop} {G : Prop} (h : ∃ a0 a1, p0 a0 a1 ∧ p1 a0 a1 ∧ p2 a0 a1 ∧ p3 a0 a1 ∧ p4 a0 a1 ∧ p5 a0 a1) (k : ∀ a0 a1, p0 a0 a1 → p1 a0 a1 → p2 a0 a1 → p3 a0 a1 → p4 a0 a1 → p5 a0 a1 → G) : G := by
  obtain ⟨a0, a1, h0, h1, h2, h3, h4, h5⟩ := h; exact k a0 a1 h0 h1 h2 h3 h4 h5
theorem x2_7 {A0 : Sort _} {A1 : Sort _} {p0 p1 p2 p3 p4 p5 p6 : A0 → A1 → Prop} {G : Prop} (h : ∃ a0 a1, p0 a0 a1 ∧ p1 a0 a1 ∧ p2 a0 a1 ∧ p3 a0 a1 ∧ p4 a0 a1 ∧ p5 a0 a1 ∧ p6 a0 a1) (k : ∀ a0 a1, p0 a0 a1 → p1 a0 a1 → p2 a0 a1 → p3 a0 a1 → p4 a0 a1 → p5 a0 a1 → p6 a0 a1 → G) : G := by
  obtain ⟨a0, a1, h0, h1, h2, h3, h4, h5, h6⟩ := h; exact k a0 a1 h0 h1 h2 h3 h4 h5 h6
theorem x3_2 {A0 : Sort _} {A1 : Sort _} {A2 : Sort _} {p0 p1 : A0 → A1 → A2 → Prop} {G : Prop} (h : ∃ a0 a1 a2, p0 a0 a1 a2 ∧ p1 a0 a1 a2) (k : ∀ a0 a1 a2, p0 a0 a1 a2 → p1 a0 a1 a2 → G) : G := by
  obtain ⟨a0, a1, a2, h0, h1⟩ := h; exact k a0 a1 a2 h0 h1
theorem x3_3 {A0 : Sort _} {A1 : Sort _} {A2 : Sort _} {p0 p1 p2 : A0 → A1 → A2 → Prop} {G : Prop} (h : ∃ a0 a1 a2, p0 a0 a1 a2 ∧ p1 a0 a1 a2 ∧ p2 a0 a1 a2) (k : ∀ a0 a1 a2, p0 a0 a1 a2 → p1 a0 a1 a2 → p2 a0 a1 a2 → G) : G := by
  obtain ⟨a0, a1, a2, h0, h1, h2⟩ := h; exact k a0 a1 a2 h0 h1 h2
theorem x3_4 {A0 : Sort _} {A1 : Sort _} {A2 : Sort _} {p0 p1 p2 p3 : A0 → A1 → A2 → Prop} {G : Prop} (h : ∃ a0 a1 a2, p0 a0 a1 a2 ∧ p1 a0 a1 a2 ∧ p2 a0 a1 a2 ∧ p3 a0 a1 a2) (k : ∀ a0 a1 a2, p0 a0 a1 a2 → p1 a0 a1 a2 → p2 a0 a1 a2 → p3 a0 a1 a2 → G) : G := by
  obtain ⟨a0, a1, a2, h0, h1, h2, h3⟩ := h; exact k a0 a1 a2 h0 h1 h2 h3
theorem x4_1 {A0 : Sort _} {A1 : Sort _} {A2 : Sort _} {A3 : Sort _} {p0 : A0 → A1 → A2 → A3 → Prop} {G : Prop} (h : ∃ a0 a1 a2 a3, p0 a0 a1 a2 a3) (k : ∀ a0 a1 a2 a3, p0 a0 a1 a2 a3 → G) : G := by
  obtain ⟨a0, a1, a2, a3, h0⟩ := h; exact k a0 a1 a2 a3 h0
theorem x4_2 {A0 : Sort _} {A1 : Sort _} {A2 : Sort _} {A3 : Sort _} {p0 p1 : A0 → A1 → A2 → A3 → Prop} {G : Prop} (h : ∃ a0 a1 a2 a3, p0 a0 a1 a2 a3 ∧ p1 a0 a1 a2 a3) (k : ∀ a0 a1 a2 a3, p0 a0 a1 a2 a3 → p1 a0 a1 a2 a3 → G) : G := by
  obtain ⟨a0, a1, a2, a3, h0, h1⟩ := h; exact k a0 a1 a2 a3 h0 h1
theorem x4_3 {A0 : Sort _} {A1 : Sort _} {A2 : Sort _} {A3 : Sort _} {p0 p1 p2 : A0 → A1 → A2 → A3 → Prop} {G : Prop} (h : ∃ a0 a1 a2 a3, p0 a0 a1 a2 a3 ∧ p1 a0 a1 a2 a3 ∧ p2 a0 a1 a2 a3) (k : ∀ a0 a1 a2 a3, p0 a0 a1 a2 a3 → p1 a0 a1 a2 a3 → p2 a0 a1 a2 a3 → G) : G := by
  obtain ⟨a0, a1, a2, a3, h0, h1, h2⟩ := h; exact k a0 a1 a2 a3 h0 h1 h2
theorem x4_4 {A0 : Sort _} {A1 : Sort _} {A2 : Sort _} {A3 : Sort _} {p0 p1 p2 p3 : A0 → A1 → A2 → A3 → Prop} {G : Prop} (h : ∃ a0 a1 a2 a3, p0 a0 a1 a2 a3 ∧ p1 a0 a1 a2 a3 ∧ p2 a0 a1 a2 a3 ∧ p3 a0 a1 a2 a3) (k : ∀ a0 a1 a2 a3, p0 a0 a1 a2 a3 → p1 a0 a1 a2 a3 → p2 a0 a1 a2 a3 → p3 a0 a1 a2 a3 → G) : G := by
  obtain ⟨a0, a1, a2, a3, h0, h1, h2, h3⟩ := h; exact k a0 a1 a2 a3 h0 h1 h2 h3
theorem x4_5 {A0 : Sort _} {A1 : Sort _} {A2 : Sort _} {A3 : Sort _} {p0 p1 p2 p3 p4 : A0 → A1 → A2 → A3 → Prop} {G : Prop} (h : ∃ a0 a1 a2 a3, p0 a0 a1 a2 a3 ∧ p1 a0 a1 a2 a3 ∧ p2 a0 a1 a2 a3 ∧ p3 a0 a1 a2 a3 ∧ p4 a0 a1 a2 a3) (k : ∀ a0 a1 a2 a3, p0 a0 a1 a2 a3 → p1 a0 a1 a2 a3 → p2 a0 a1 a2 a3 → p3 a0 a1 a2 a3 → p4 a0 a1 a2 a3 → G) : G := by
  obtain ⟨a0, a1, a2, a3, h0, h1, h2, h3, h4⟩ := h; exact k a0 a1 a2 a3 h0 h1 h2 h3 h4
theorem x4_7 {A0 : Sort _} {A1 : Sort _} {A2 : Sort _} {A3 : Sort _} {p0 p1 p2 p3 p4 p5 p6 : A0 → A1 → A2 → A3 → Prop} {G : Prop} (h : ∃ a0 a1 a2 a3, p0 a0 a1 a2 a3 ∧ p1 a0 a1 a2 a3 ∧ p2 a0 a1 a2 a3 ∧ p3 a0 a1 a2 a3 ∧ p4 a0 a1 a2 a3 ∧ p5 a0 a1 a2 a3 ∧ p6 a0 a1 a2 a3) (k : ∀ a0 a1 a2 a3, p0 a0 a1 a2 a3 → p1 a0 a1 a2 a3 → p2 a0 a1 a2 a3 → p3 a0 a1 a2 a3 → p4 a0 a1 a2 a3 → p5 a0 a1 a2 a3 → p6 a0 a1 a2 a3 → G) : G := by
  obtain ⟨a0, a1, a2, a3, h0, h1, h2, h3, h4, h5, h6⟩ := h; exact k a0 a1 a2 a3 h0 h1 h2 h3 h4 h5 h6
theorem x5_6 {A0 : Sort _} {A1 : Sort _} {A2 : Sort _} {A3 : Sort _} {A4 : Sort _} {p0 p1 p2 p3 p4 p5 : A0 → A1 → A2 → A3 → A4 → Prop} {G : Prop} (h : ∃ a0 a1 a2 a3 a4, p0 a0 a1 a2 a3 a4 ∧ p1 a0 a1 a2 a3 a4 ∧ p2 a0 a1 a2 a3 a4 ∧ p3 a0 a1 a2 a3 a4 ∧ p4 a0 a1 a2 a3 a4 ∧ p5 a0 a1 a2 a3 a4) (k : ∀ a0 a1 a2 a3 a4, p0 a0 a1 a2 a3 a4 → p1 a0 a1 a2 a3 a4 → p2 a0 a1 a2 a3 a4 → p3 a0 a1 a2 a3 a4 → p4 a0 a1 a2 a3 a4 → p5 a0 a1 a2 a3 a4 → G) : G := by
  obtain ⟨a0, a1, a2, a3, a4, h0, h1, h2, h3, h4, h5⟩ := h; exact k a0 a1 a2 a3 a4 h0 h1 h2 h3 h4 h5
noncomputable abbrev Mp := List (Addr × Addr)
noncomputable def foot (M : Mp) (a : Addr) : Prop := ∃ p ∈ M, a = p.1 ∨ a = p.2
structure Wd where
  h : Heap
  M : Mp
  F : Addr → Prop
  X : Nat → Option Addr
noncomputable def IsExc (h : Heap) (a D : Addr) : Prop := ∃ o vs, h.get? a = some o ∧ o.cls = .ref D ∧ o.dict = none ∧ o.data = .fields vs
inductive VRel (w : Wd) : Value → AV → Prop
  | none : VRel w .none .none
  | bool (b : Bool) : VRel w (.bool b) (.bool b)
  | int (i : Int) (t : Tok) : VRel w (.int i t) (.int i)
  | str (x : Str) (t : Tok) (ok : PyData.strOk x = true) : VRel w (.str x t) (.str x)
  | tup {a : Addr} {vs : Array Value} {n : Nat} {xs : List AV} : IsT w.h a vs n → ¬ w.F a → vs.toList.length = xs.length → (∀ (i : Nat) v x, vs.toList[i]? = some v → xs[i]? = some x → VRel w v x) → VRel w (.ref a) (.tup xs)
  | lst {a : Addr} {vs : Array Value} {n : Nat} {xs : List AV} : IsL w.h a vs n → ¬ w.F a → vs.toList.length = xs.length → (∀ (i : Nat) v x, vs.toList[i]? = some v → xs[i]? = some x → VRel w v x) → VRel w (.ref a) (.lst xs)
  | ref {n : Nat} {p : Addr × Addr} : w.M[n]? = some p → VRel w (.ref p.1) (.ref n)
  | rng {r : Addr} {a b : Int} {t u v : Tok} : IsRange w.h r a b 1 t u v → ¬ w.F r → VRel w (.ref r) (.rng a b)
  | exc {a D : Addr} {c : Nat} : IsExc w.h a D → w.X c = some D → ¬ w.F a → VRel w (.ref a) (.exc c)
noncomputable def VRels (w : Wd) (vs : List Value) (xs : List AV) : Prop := vs.length = xs.length ∧ ∀ (i : Nat) v x, vs[i]? = some v → xs[i]? = some x → VRel w v x
noncomputable def VInv (w : Wd) (v : Value) : AV → Prop
  | .none => v = .none
  | .bool b => v = .bool b
  | .int i => ∃ t, v = .int i t
  | .str x => ∃ t, v = .str x t ∧ PyData.strOk x = true
  | .tup xs => ∃ a vs n, v = .ref a ∧ IsT w.h a vs n ∧ ¬ w.F a ∧ VRels w vs.toList xs
  | .lst xs => ∃ a vs n, v = .ref a ∧ IsL w.h a vs n ∧ ¬ w.F a ∧ VRels w vs.toList xs
  | .ref n => ∃ p : Addr × Addr, v = .ref p.1 ∧ w.M[n]? = some p
  | .rng a b => ∃ r t u x, v = .ref r ∧ IsRange w.h r a b 1 t u x ∧ ¬ w.F r
  | .exc c => ∃ a D, v = .ref a ∧ IsExc w.h a D ∧ w.X c = some D ∧ ¬ w.F a
theorem VRel.inv {w : Wd} {v : Value} {a : AV} (r : VRel w v a) : VInv w v a := match r with
  | .none => rfl
  | .bool _ => rfl
  | .int _ t => ⟨t, rfl⟩
  | .str _ t ok => ⟨t, rfl, ok⟩
  | .tup ho n e r => ⟨_, _, _, rfl, ho, n, e, r⟩
  | .lst ho n e r => ⟨_, _, _, rfl, ho, n, e, r⟩
  | .ref e => ⟨_, rfl, e⟩
  | .rng ho n => ⟨_, _, _, _, rfl, ho, n⟩
  | .exc e x n => ⟨_, _, rfl, e, x, n⟩
noncomputable def Held (o : Obj) : Prop := ((∃ xs n, o.data = .seq xs n) ∨ ∃ vs, o.data = .fields vs) ∧ ∀ T, o.cls = .type T → T = "tuple" ∨ T = "list" ∨ T = "range"
theorem Held.nd {o : Obj} (h : Held o) : ∀ es ep, o.data ≠ .dict es ep := fun _ _ q => by
  rcases h.1 with ⟨_, _, e⟩ | ⟨_, e⟩ <;> rw [q] at e <;> cases e
structure Kp (w w' : Wd) : Prop where
  keep : ∀ b o, w.h.get? b = some o → ¬ w.F b → Held o → w'.h.get? b = some o ∧ ¬ w'.F b
  pre : ∃ l, w'.M = w.M ++ l
  X : w'.X = w.X
theorem Kp.refl (w : Wd) : Kp w w := ⟨fun _ _ e n _ => ⟨e, n⟩, ⟨[], by simp⟩, rfl⟩
theorem Kp.trans {w w' w'' : Wd} (x : Kp w w') (y : Kp w' w'') : Kp w w'' :=
  ⟨fun b o e n h => let q := x.keep b o e n h; y.keep b o q.1 q.2 h, by
    obtain ⟨l, e⟩ := x.pre
    obtain ⟨l', e'⟩ := y.pre
    exact ⟨l ++ l', by rw [e', e, List.append_assoc]⟩, y.X.trans x.X⟩
theorem Kp.at {w w' : Wd} (k : Kp w w') {n : Nat} {p : Addr × Addr} (h : w.M[n]? = some p) : w'.M[n]? = some p := by
  obtain ⟨l, e⟩ := k.pre
  rw [e, List.getElem?_append_left (List.getElem?_eq_some_iff.mp h).1]; exact h
theorem Kp.heldT {w w' : Wd} (k : Kp w w') {a : Addr} {T : String} {d : Data} (hT : T = "tuple" ∨ T = "list" ∨ T = "range") (hd : (∃ xs n, d = .seq xs n) ∨ ∃ vs, d = .fields vs) (e : w.h.get? a = some { cls := .type T, dict := none, data := d, slots := #[] }) (n : ¬ w.F a) : w'.h.get? a = some { cls := .type T, dict := none, data := d, slots := #[] } ∧ ¬ w'.F a :=
  k.keep _ _ e n ⟨hd, fun _ q => by injection q with q; exact q ▸ hT⟩
theorem Kp.isExc {w w' : Wd} (k : Kp w w') {a D : Addr} (e : IsExc w.h a D) (n : ¬ w.F a) : IsExc w'.h a D ∧ ¬ w'.F a := by
  obtain ⟨o, vs, ho, hc, hn, hd⟩ := e
  have q := k.keep _ _ ho n ⟨.inr ⟨vs, hd⟩, fun _ q => by rw [hc] at q; cases q⟩
  exact ⟨⟨o, vs, q.1, hc, hn, hd⟩, q.2⟩
theorem VRel.keep {w w' : Wd} (k : Kp w w') {v : Value} {a : AV} (r : VRel w v a) : VRel w' v a := by
  induction r with
  | none => exact .none
  | bool b => exact .bool b
  | int i t => exact .int i t
  | str x t ok => exact .str x t ok
  | tup ho n e _ ih => have q := k.heldT (.inl rfl) (.inl ⟨_, _, rfl⟩) ho n; exact .tup q.1 q.2 e ih
  | lst ho n e _ ih => have q := k.heldT (.inr (.inl rfl)) (.inl ⟨_, _, rfl⟩) ho n; exact .lst q.1 q.2 e ih
  | ref e => exact .ref (k.at e)
  | rng ho n => have q := k.heldT (.inr (.inr rfl)) (.inr ⟨_, rfl⟩) ho n; exact .rng q.1 q.2
  | exc e x n => have q := k.isExc e n; exact .exc q.1 (k.X ▸ x) q.2
theorem VRels.keep {w w' : Wd} (k : Kp w w') {vs : List Value} {as : List AV} (r : VRels w vs as) : VRels w' vs as := ⟨r.1, fun i v x h1 h2 => (r.2 i v x h1 h2).keep k⟩
section
variable {w : Wd} {vs : List Value} {as : List AV}
theorem VRels.nil : VRels w [] [] := ⟨rfl, fun _ _ _ h => nomatch h⟩
theorem VRels.cons {v : Value} {a : AV} (x : VRel w v a) (r : VRels w vs as) : VRels w (v :: vs) (a :: as) :=
  ⟨congrArg (· + 1) r.1, fun i u y h1 h2 => match i, h1, h2 with
    | 0, h1, h2 => by cases h1; cases h2; exact x
    | i + 1, h1, h2 => r.2 i u y h1 h2⟩
theorem VRels.un {u : Value} {a : AV} (r : VRels w (u :: vs) (a :: as)) : VRel w u a ∧ VRels w vs as := ⟨r.2 0 _ _ rfl rfl, Nat.succ.inj r.1, fun i v x h1 h2 => r.2 (i + 1) v x h1 h2⟩
theorem VRels.size {vs : Array Value} (r : VRels w vs.toList as) : vs.size = as.length := r.1
theorem VRels.get (r : VRels w vs as) (i : Nat) {a : AV} (e : as[i]? = some a) : ∃ v, vs[i]? = some v ∧ VRel w v a := by
  have h := (List.getElem?_eq_some_iff.mp e).1
  rw [← r.1] at h
  exact ⟨_, List.getElem?_eq_getElem h, r.2 i _ _ (List.getElem?_eq_getElem h) e⟩
theorem VRels.append {us : List Value} {bs : List AV} (r : VRels w vs as) (s : VRels w us bs) : VRels w (vs ++ us) (as ++ bs) := by
  refine ⟨by rw [List.length_append, List.length_append, r.1, s.1], fun i v x h1 h2 => ?_⟩
  rw [List.getElem?_append] at h1 h2
  rw [← r.1] at h2
  split at h1
  · rename_i q; rw [if_pos q] at h2; exact r.2 i v x h1 h2
  · rename_i q; rw [if_neg q] at h2; exact s.2 _ v x h1 h2
theorem VRels.snoc {v : Value} {a : AV} (r : VRels w vs as) (x : VRel w v a) : VRels w (vs ++ [v]) (as ++ [a]) := r.append (.cons x .nil)
theorem VRels.pick (r : VRels w vs as) : ∀ is : List Nat, VRels w (is.filterMap fun i => vs[i]?) (is.filterMap fun i => as[i]?)
  | [] => .nil
  | i :: is => by
    simp only [List.filterMap_cons]
    cases q : as[i]? with
    | none =>
      have : vs[i]? = none := by
        rw [List.getElem?_eq_none_iff] at q ⊢
        rw [r.1]; exact q
      rw [this]
      exact r.pick is
    | some a =>
      obtain ⟨v, hv, rv⟩ := r.get i q
      rw [hv]
      exact .cons rv (r.pick is)
theorem VRels.set {v : Value} {a : AV} (x : VRel w v a) (r : VRels w vs as) (n : Nat) : VRels w (vs.set n v) (as.set n a) := by
  refine ⟨by rw [List.length_set, List.length_set, r.1], fun i u y h1 h2 => ?_⟩
  rw [List.getElem?_set] at h1 h2
  split at h1
  · rename_i q
    rw [if_pos q] at h2
    split at h1 <;> cases h1
    split at h2 <;> cases h2
    exact x
  · rename_i q; rw [if_neg q] at h2; exact r.2 i u y h1 h2
end
theorem strOk_iff {x : Str} : PyData.strOk x = true ↔ ∀ c ∈ x.cps.toList, c < 0x110000 := by
  unfold PyData.strOk
  rw [← Array.all_toList, List.all_eq_true]
  exact ⟨fun h c hc => of_decide_eq_true (h c hc), fun h c hc => decide_eq_true (h c hc)⟩
theorem strOk_append {x y : Str} (hx : PyData.strOk x = true) (hy : PyData.strOk y = true) : PyData.strOk (x ++ y) = true := by
  rw [strOk_iff] at *
  intro c hc
  rw [Str.cps_append] at hc
  simp only [Array.toList_append, List.mem_append] at hc
  exact hc.elim (hx c) (hy c)
theorem strOk_sub {x y : Str} (hx : PyData.strOk x = true) (h : ∀ c ∈ y.cps.toList, c ∈ x.cps.toList) : PyData.strOk y = true := by
  rw [strOk_iff] at *
  exact fun c hc => hx c (h c hc)
open PySem PySem.W PyProof.Rows
noncomputable abbrev DE := RE → AH → Out AV
noncomputable abbrev FT := Nat → List AV → AH → Out AV
section
variable {α : Type}
noncomputable def asInt (a : AV) (k : Int → Out α) : Out α := match a with
  | .int i => k i
  | _ => .bad
noncomputable def asBool (a : AV) (k : Bool → Out α) : Out α := match a with
  | .bool b => k b
  | _ => .bad
noncomputable def asStr (a : AV) (k : Str → Out α) : Out α := match a with
  | .str x => k x
  | _ => .bad
noncomputable def orBad {β : Type} (o : Option β) (k : β → Out α) : Out α := match o with
  | some x => k x
  | none => .bad
end
noncomputable def lsOf (H : AH) : AV → Option (List AV)
  | .lst xs => some xs
  | .ref n => match H[n]? with
    | some (.lst xs) => some xs
    | _ => none
  | _ => none
noncomputable def dcOf (H : AH) : AV → Option (Nat × List (Key × AV))
  | .ref n => match H[n]? with
    | some (.dict es) => some (n, es)
    | some (.ldict es) => some (n, es)
    | _ => none
  | _ => none
noncomputable def inOf (H : AH) : AV → Option (Nat × Nat × List (Option AV))
  | .ref n => match H[n]? with
    | some (.inst c fs) => some (n, c, fs)
    | _ => none
  | _ => none
noncomputable def newL (mt : Bool) (xs : List AV) (H : AH) : Out AV := if mt then .ok (.ref H.length) (H ++ [.lst xs]) else .ok (.lst xs) H
noncomputable def keyOf : AV → Option Key
  | .str x => some (.str x)
  | .int i => some (.int i)
  | _ => none
noncomputable def Key.av : Key → AV
  | .str x => .str x
  | .int i => .int i
noncomputable def addA (mt : Bool) (a b : AV) (H : AH) : Out AV := match a with
  | .int i => asInt b fun j => .ok (.int (i + j)) H
  | .str x => asStr b fun y => if x.length + y.length ≤ sizeLine then .ok (.str (x ++ y)) H else .bad
  | a => orBad (lsOf H a) fun xs => orBad (lsOf H b) fun ys => if xs.length + ys.length ≤ sizeLine then newL mt (xs ++ ys) H else .bad
noncomputable def mulA (a b : AV) (H : AH) : Out AV := asInt b fun j => match a with
  | .int i => if (-(2 ^ 64) < i ∧ i < 2 ^ 64) ∨ (-(2 ^ 64) < j ∧ j < 2 ^ 64) then .ok (.int (i * j)) H else .bad
  | .lst xs => if -1000 < j ∧ j < 1000 ∧ xs.length < 1000 then .ok (.lst ((List.replicate j.toNat xs).flatten)) H else .bad
  | _ => .bad
noncomputable def binA (mt : Bool) (op : Operator) (a b : AV) (H : AH) : Out AV := match op with
  | .Add => addA mt a b H
  | .Mult => mulA a b H
  | .Sub => asInt a fun i => asInt b fun j => .ok (.int (i - j)) H
  | .FloorDiv => asInt a fun i => asInt b fun j => if 0 < j ∧ j < 1073741824 then .ok (.int (i / j)) H else .bad
  | .Mod => asInt a fun i => asInt b fun j => if 0 < j ∧ j < 1073741824 then .ok (.int (i % j)) H else .bad
  | _ => .bad
noncomputable def denL (f : AV → Option PyData) : List AV → Option (List PyData)
  | [] => some []
  | a :: r => (f a).bind fun d => (denL f r).map (d :: ·)
noncomputable def den : Nat → AH → AV → Option PyData
  | 0, _, _ => none
  | n + 1, H, a => match a with
    | .none => some .none
    | .bool b => some (.bool b)
    | .int i => some (.int i)
    | .str x => some (.str x)
    | .tup xs => (denL (den n H) xs).map .tuple
    | .lst xs => (denL (den n H) xs).map .list
    | .ref r => match H[r]? with
      | some (.lst xs) => (denL (den n H) xs).map .list
      | _ => none
    | _ => none
noncomputable abbrev deep : Nat := 20
noncomputable def ltA : AV → AV → Option Bool
  | .int i, b => match b with
    | .int j => some (decide (i < j))
    | _ => none
  | .str x, b => match b with
    | .str y => some (decide (x.cps.toList < y.cps.toList))
    | _ => none
  | _, _ => none
noncomputable def leA : AV → AV → Option Bool
  | .int i, b => match b with
    | .int j => some (decide (i ≤ j))
    | _ => none
  | .str x, b => match b with
    | .str y => some (!decide (y.cps.toList < x.cps.toList))
    | _ => none
  | _, _ => none
noncomputable def eqA (H : AH) (a b : AV) : Option Bool := (den deep H a).bind fun x => (den deep H b).map fun y => PyData.eqv x y
noncomputable def AV.isBool (y : Bool) : AV → Bool
  | .bool x => x == y
  | _ => false
noncomputable def isA (a : AV) : AV → Option Bool
  | .none => some a.isNone
  | .bool y => some (a.isBool y)
  | _ => none
noncomputable def inA (H : AH) (a b : AV) : Option Bool := match dcOf H b with
  | some (_, es) => (keyOf a).map fun k => es.any fun e => decide (e.1 = k)
  | none => match lsOf H b with
    | some xs => (den deep H a).bind fun d => (denL (den deep H) xs).map fun ds => ds.any fun y => PyData.eqv y d
    | none => none
noncomputable def cmpA (H : AH) (op : CmpOp) (a b : AV) : Option Bool := match op with
  | .Lt => ltA a b
  | .LtE => leA a b
  | .Gt => ltA b a
  | .GtE => leA b a
  | .Eq => eqA H a b
  | .NotEq => (eqA H a b).map (!·)
  | .Is => isA a b
  | .IsNot => (isA a b).map (!·)
  | .In => inA H a b
  | .NotIn => (inA H a b).map (!·)
noncomputable def idxA (k : Int) (n : Nat) : Option Nat := if 0 ≤ k then (if k < n then some k.toNat else none) else if 0 ≤ k + n then some (k + n).toNat else none
noncomputable def small (k : Int) : Bool := decide (-(2 ^ 62 : Int) < k) && decide (k < 2 ^ 62)
noncomputable def atA (k : Int) (xs : List AV) : Option AV := if small k then (idxA k xs.length).bind fun n => xs[n]? else none
noncomputable def subA (a i : AV) (H : AH) : Out AV := match dcOf H a with
  | some (_, es) => orBad (keyOf i) fun k => orBad (es.lookup k) fun v => .ok v H
  | none => asInt i fun k => match a with
    | .tup xs => orBad (atA k xs) fun v => .ok v H
    | .str x => if small k then orBad ((idxA k x.length).bind fun n => x.cps[n]?) fun c => .ok (.str ⟨#[c]⟩) H else .bad
    | a => orBad (lsOf H a) fun xs => orBad (atA k xs) fun v => .ok v H
noncomputable def pickL {α : Type} (xs : List α) (lo hi st : Option Int) : List α := (sliceRange (sliceBounds lo hi st xs.length).1 (sliceBounds lo hi st xs.length).2.1 (sliceBounds lo hi st xs.length).2.2).filterMap fun i => xs[i]?
noncomputable def optI : AV → Option (Option Int)
  | .none => some none
  | .int k => if small k then some (some k) else none
  | _ => none
noncomputable def cutL (l u t : Option Int) (xs : List AV) : List AV := match t with
  | none => cut xs l u
  | some t => pickL xs l u (some t)
noncomputable def slcA (mt : Bool) (a lo hi st : AV) (H : AH) : Out AV := orBad (optI lo) fun l => orBad (optI hi) fun u => orBad (optI st) fun t => match a with
  | .str x => match t with
    | none => if x.length ≤ sizeLine then .ok (.str ⟨(cut x.cps.toList l u).toArray⟩) H else .bad
    | _ => .bad
  | a => orBad (lsOf H a) fun xs => if xs.length ≤ sizeLine ∧ t ≠ some 0 then newL mt (cutL l u t xs) H else .bad
noncomputable def signs (x : Str) : List AV := x.cps.toList.map fun c => .str ⟨#[c]⟩
noncomputable def span (a b : Int) : List AV := (List.range (b - a).toNat).map fun (k : Nat) => .int (a + k)
inductive Src where
  | seq (xs : List AV)
  | lref (n : Nat)
noncomputable def srcOf (H : AH) : AV → Option (Src × Nat × Option Nat)
  | .lst xs => some (.seq xs, xs.length, none)
  | .tup xs => some (.seq xs, xs.length, none)
  | .str x => some (.seq (signs x), x.length, none)
  | .rng a b => if small a && small b then some (.seq (span a b), (b - a).toNat, none) else none
  | .ref n => match H[n]? with
    | some (.lst xs) => some (.lref n, xs.length, none)
    | some (.dict es) => some (.seq (es.map (·.1.av)), es.length, some n)
    | some (.ldict es) => some (.seq (es.map (·.1.av)), es.length, none)
    | _ => none
  | _ => none
noncomputable def itemAt (H : AH) : Src → Nat → Option (Option AV)
  | .seq xs, k => some xs[k]?
  | .lref n, k => match H[n]? with
    | some (.lst xs) => some xs[k]?
    | _ => none
noncomputable def lockH (l : Option Nat) (H : AH) : AH := match l with
  | none => H
  | some n => match H[n]? with
    | some (.dict es) => H.set n (.ldict es)
    | _ => H
noncomputable def cstE (a : AV) : DE := fun _ H => .ok a H
noncomputable def badE : DE := fun _ _ => .bad
noncomputable def varE (i : Nat) : DE := fun ρ H => match ρ[i]? with
  | some (some a) => .ok a H
  | _ => .bad
noncomputable def binE (mt : Bool) (op : Operator) (l r : DE) : DE := fun ρ H => (l ρ H).bind fun a H₁ => (r ρ H₁).bind fun b H₂ => binA mt op a b H₂
noncomputable def negE (e : DE) : DE := fun ρ H => (e ρ H).bind fun a H₁ => asInt a fun i => .ok (.int (-i)) H₁
noncomputable def ntE (e : DE) : DE := fun ρ H => (e ρ H).bind fun a H₁ => asBool a fun b => .ok (.bool (!b)) H₁
noncomputable def bopE (k : Bool) : List DE → DE
  | [] => badE
  | [e] => e
  | e :: r => fun ρ H => (e ρ H).bind fun a H₁ => asBool a fun b => if b = k then bopE k r ρ H₁ else .ok (.bool b) H₁
noncomputable def chainE (a : AV) : List CmpOp → List DE → DE
  | [op], [e] => fun ρ H => (e ρ H).bind fun b H₁ => orBad (cmpA H₁ op a b) fun c => .ok (.bool c) H₁
  | op :: ops, e :: r => fun ρ H => (e ρ H).bind fun b H₁ => orBad (cmpA H₁ op a b) fun c => if c then chainE b ops r ρ H₁ else .ok (.bool false) H₁
  | _, _ => badE
noncomputable def cmpE (l : DE) (ops : List CmpOp) (rs : List DE) : DE := fun ρ H => (l ρ H).bind fun a H₁ => chainE a ops rs ρ H₁
noncomputable def evL : List DE → RE → AH → Out (List AV)
  | [], _, H => .ok [] H
  | e :: r, ρ, H => (e ρ H).bind fun a H₁ => (evL r ρ H₁).bind fun as H₂ => .ok (a :: as) H₂
noncomputable def subE (e i : DE) : DE := fun ρ H => (e ρ H).bind fun a H₁ => (i ρ H₁).bind fun b H₂ => subA a b H₂
noncomputable def slcE (mt : Bool) (e lo hi st : DE) : DE := fun ρ H => (e ρ H).bind fun a H₁ => (lo ρ H₁).bind fun l H₂ => (hi ρ H₂).bind fun u H₃ => (st ρ H₃).bind fun t H₄ => slcA mt a l u t H₄
noncomputable def lstE (mt : Bool) (es : List DE) : DE := fun ρ H => (evL es ρ H).bind fun as H₁ => if as.length ≤ sizeLine then newL mt as H₁ else .bad
noncomputable def tupE (es : List DE) : DE := fun ρ H => (evL es ρ H).bind fun as H₁ => if as.length ≤ sizeLine then .ok (.tup as) H₁ else .bad
noncomputable def callE (Φ : FT) (f : Nat) (es : List DE) : DE := fun ρ H => (evL es ρ H).bind fun as H₁ => Φ f as H₁
noncomputable def Out.calm {α : Type} : Out α → Out α
  | .exc _ _ => .bad
  | o => o
noncomputable def compL (T E : AV → AH → Out AV) (src : Src) : Nat → Nat → List AV → AH → Out (List AV)
  | n, k, acc, H => match itemAt H src k with
    | none => .bad
    | some none => .ok acc H
    | some (some v) => match n with
      | 0 => .bad
      | n + 1 => (T v H).bind fun c H₁ => asBool c fun c => if c then (E v H₁).bind fun a H₂ => compL T E src n (k + 1) (acc ++ [a]) H₂ else compL T E src n (k + 1) acc H₁
noncomputable def compE (hot mt : Bool) (elt it cond : DE) : DE := fun ρ H => (it ρ H).bind fun a H₁ => orBad (srcOf H₁ a) fun s =>
  if hot = false ∧ s.2.1 ≤ 1000000 then (compL (fun v => cond (ρ ++ [some v])) (fun v => elt (ρ ++ [some v])) s.1 s.2.1 0 [] (lockH s.2.2 H₁)).calm.bind fun ys H₂ => newL mt ys (freeH s.2.2 H₂) else .bad
inductive Bi where
  | len | range | list (mt : Bool) | min | max | sorted
noncomputable def lenA (H : AH) : AV → Option Nat
  | .str x => some x.length
  | .tup xs => some xs.length
  | .lst xs => some xs.length
  | .ref n => match H[n]? with
    | some (.lst xs) => some xs.length
    | some (.dict es) => some es.length
    | some (.ldict es) => some es.length
    | _ => none
  | _ => none
noncomputable def intsOf : List AV → Option (List Int)
  | [] => some []
  | .int i :: r => (intsOf r).map (i :: ·)
  | _ => none
noncomputable def insI (i : Int) : List Int → List Int
  | [] => [i]
  | j :: r => if i ≤ j then i :: j :: r else j :: insI i r
noncomputable def sortI : List Int → List Int
  | [] => []
  | i :: r => insI i (sortI r)
noncomputable def biA (hot : Bool) (f : Bi) (as : List AV) (H : AH) : Out AV := match as with
  | [a] => match f with
    | .len => orBad (lenA H a) fun n => if n < 2 ^ 62 then .ok (.int n) H else .bad
    | .range => asInt a fun n => .ok (.rng 0 n) H
    | .list mt => match dcOf H a with
      | some (_, es) => if !hot && decide (es.length ≤ 1000000) then newL mt (es.map (·.1.av)) H else .bad
      | none => orBad (lsOf H a) fun xs => if xs.length ≤ sizeLine then newL mt xs H else .bad
    | .sorted => match dcOf H a with
      | some (_, es) => orBad (intsOf (es.map (·.1.av))) fun is => if !hot && decide (is.length < 64) then .ok (.lst ((sortI is).map .int)) H else .bad
      | none => .bad
    | _ => .bad
  | [a, b] => asInt a fun i => asInt b fun j => match f with
    | .min => if hot then .bad else .ok (.int (if j < i then j else i)) H
    | .max => if hot then .bad else .ok (.int (if i < j then j else i)) H
    | .range => .ok (.rng i j) H
    | _ => .bad
  | _ => .bad
noncomputable def biE (hot : Bool) (f : Bi) (es : List DE) : DE := fun ρ H => (evL es ρ H).bind fun as H₁ => biA hot f as H₁
noncomputable def strsOf : List AV → Option (List Str)
  | [] => some []
  | .str x :: r => (strsOf r).map (x :: ·)
  | _ => none
noncomputable def setD (es : List (Key × AV)) (k : Key) (v : AV) : List (Key × AV) := if es.any (fun e => decide (e.1 = k)) then es.map (fun e => if e.1 = k then (e.1, v) else e) else es ++ [(k, v)]
noncomputable def setL (H : AH) (n : Nat) (xs : List AV) : AH := H.set n (.lst xs)
noncomputable def mlA (f : Bm) (n : Nat) (xs : List AV) (as : List AV) (H : AH) : Out AV := match f with
  | .append => match as with
    | [v] => .ok .none (setL H n (xs ++ [v]))
    | _ => .bad
  | _ => .bad
noncomputable def mdA (f : Bm) (n : Nat) (es : List (Key × AV)) (as : List AV) (H : AH) : Out AV := match as with
  | [a] => orBad (keyOf a) fun k => match f with
    | .get => .ok ((es.lookup k).getD .none) H
    | .pop => orBad (es.lookup k) fun v => .ok v (H.set n (.dict (es.filter fun e => decide (e.1 ≠ k))))
    | _ => .bad
  | _ => .bad
noncomputable def msA (f : Bm) (x : Str) (as : List AV) (H : AH) : Out AV := match as with
  | [a] => match f with
    | .join => orBad ((lsOf H a).bind strsOf) fun ys => if JoinOk x ys then .ok (.str (Txt.join x ys)) H else .bad
    | _ => .bad
  | _ => .bad
noncomputable def mbA (f : Bm) (o : AV) (as : List AV) (H : AH) : Out AV := match o with
  | .str x => msA f x as H
  | .ref n => match H[n]? with
    | some (.lst xs) => if xs.length ≤ 1000000 then mlA f n xs as H else .bad
    | some (.dict es) => if es.length ≤ 1000000 then mdA f n es as H else .bad
    | _ => .bad
  | _ => .bad
noncomputable def kindM (o : AV) (H : AH) : Nat := match o with
  | .str _ => 1
  | .ref n => match H[n]? with
    | some (.lst _) => 2
    | some (.dict _) => 3
    | some (.ldict _) => 3
    | _ => 0
  | _ => 0
noncomputable def bmId (k : Nat) (f : Bm) : Option String := match f with
  | .append => if k = 2 then some "list.append" else none
  | .get => if k = 3 then some "dict.get" else none
  | .pop => if k = 3 then some "dict.pop" else none
  | .join => if k = 1 then some "str.join" else none
noncomputable def mbE (f : Bm) (o : DE) (es : List DE) : DE := fun ρ H => (o ρ H).bind fun a H₁ => orBad (bmId (kindM a H₁) f) fun _ => (evL es ρ H₁).bind fun as H₂ => if kindM a H₁ = kindM a H₂ then mbA f a as H₂ else .bad
noncomputable def Gm.fn (G : Gm) (c m : Nat) : Option Nat := (G.mth[c]?).bind fun l => (l[m]?).bind id
noncomputable def moE (G : Gm) (Φ : FT) (m : Nat) (o : DE) (es : List DE) : DE := fun ρ H => (o ρ H).bind fun a H₁ => orBad (inOf H₁ a) fun i => orBad (G.fn i.2.1 m) fun f => (evL es ρ H₁).bind fun as H₂ => Φ f (a :: as) H₂
noncomputable def newE (G : Gm) (Φ : FT) (c : Nat) (es : List DE) : DE := fun ρ H => (evL es ρ H).bind fun as H₁ => orBad (G.fn c 0) fun f =>
  (Φ f (.ref H₁.length :: as) (H₁ ++ [.inst c (List.replicate G.na none)])).bind fun r H₂ => match r with
    | .none => .ok (.ref H₁.length) H₂
    | _ => .bad
noncomputable def attrE (k : Nat) (o : DE) : DE := fun ρ H => (o ρ H).bind fun a H₁ => orBad (inOf H₁ a) fun i => match i.2.2[k]? with
  | some (some v) => .ok v H₁
  | _ => .bad
noncomputable def dct0E : DE := fun _ H => .ok (.ref H.length) (H ++ [.dict []])
noncomputable def kdOf (H : AH) : AV → Option Kd
  | .none => some .none
  | .bool _ => some .bool
  | .int _ => some .int
  | .str _ => some .str
  | .tup _ => some .tup
  | .lst _ => some .lst
  | .ref n => match H[n]? with
    | some (.lst _) => some .lst
    | _ => none
  | _ => none
noncomputable def isiAny (H : AH) (a : AV) (ts : List Ty) : Option Bool := match ts with
  | [t] => (kdOf H a).map fun k => isK k t
  | _ => none
noncomputable def isiE (G : Gm) (e : DE) (ts : List Ty) : DE := fun ρ H => (e ρ H).bind fun a H₁ => orBad (isiAny H₁ a ts) fun b => .ok (.bool b) H₁
noncomputable def Out.inS {α : Type} (o : Out α) (ρ : RE) (f : α → AH → OutS) : OutS := match o with
  | .ok a H => f a H
  | .exc c H => .exc c ρ H
  | .bad => .bad
noncomputable def orBadS {β : Type} (o : Option β) (k : β → OutS) : OutS := match o with
  | some x => k x
  | none => .bad
noncomputable def badS : DS := fun _ _ => .bad
noncomputable def exprS (e : DE) : DS := fun ρ H => (e ρ H).inS ρ fun _ H₁ => .next ρ H₁
inductive Tg where
  | one (i : Nat)
  | many (is : List Nat)
noncomputable def bindMany : List Nat → List AV → RE → Option RE
  | [], [], ρ => some ρ
  | i :: is, v :: vs, ρ => bindMany is vs (ρ.set i (some v))
  | _, _, _ => none
noncomputable def bindT (hot : Bool) (t : Tg) (v : AV) (ρ : RE) : Option RE := match t with
  | .one i => some (ρ.set i (some v))
  | .many is => if hot then none else match v with
    | .tup xs => bindMany is xs ρ
    | _ => none
noncomputable def assignS (hot : Bool) (t : Tg) (e : DE) : DS := fun ρ H => (e ρ H).inS ρ fun a H₁ => orBadS (bindT hot t a ρ) fun ρ₁ => .next ρ₁ H₁
noncomputable def setItemA (o i v : AV) (H : AH) : Option AH := match o with
  | .ref n => match H[n]? with
    | some (.lst xs) => match i with
      | .int k => if small k then (idxA k xs.length).map fun j => setL H n (xs.set j v) else none
      | _ => none
    | some (.dict es) => if es.length ≤ 1000000 then (keyOf i).map fun k => H.set n (.dict (setD es k v)) else none
    | _ => none
  | _ => none
noncomputable def dctF (f g : DE) (ρ : RE) (d : AV) (H : AH) : Out AV := (f ρ H).bind fun a H₁ => (g ρ H₁).bind fun b H₂ => if (dcOf H₂ d).isSome then orBad (setItemA d a b H₂) fun H₃ => .ok d H₃ else .bad
noncomputable def dct1E (f g : DE) : DE := fun ρ H => dctF f g ρ (.ref H.length) (H ++ [.dict []])
noncomputable def setItemS (o i e : DE) : DS := fun ρ H => (e ρ H).inS ρ fun v H₁ => (o ρ H₁).inS ρ fun a H₂ => (i ρ H₂).inS ρ fun k H₃ => orBadS (setItemA a k v H₃) fun H₄ => .next ρ H₄
noncomputable def setAttrS (k : Nat) (o e : DE) : DS := fun ρ H => (e ρ H).inS ρ fun v H₁ => (o ρ H₁).inS ρ fun a H₂ => orBadS (inOf H₂ a) fun i => if k < i.2.2.length then .next ρ (H₂.set i.1 (.inst i.2.1 (i.2.2.set k (some v)))) else .bad
noncomputable def augS (o i e : DE) : DS := fun ρ H => (o ρ H).inS ρ fun a H₁ => (i ρ H₁).inS ρ fun k H₂ => (subA a k H₂).inS ρ fun u H₃ => (e ρ H₃).inS ρ fun v H₄ => (asInt u fun x => asInt v fun y => .ok (.int (x + y)) H₄).inS ρ fun w H₅ => orBadS (setItemA a k w H₅) fun H₆ => .next ρ H₆
noncomputable def ifS (t : DE) (b o : DS) : DS := fun ρ H => (t ρ H).inS ρ fun a H₁ => match a with
  | .bool c => if c then b ρ H₁ else o ρ H₁
  | _ => .bad
noncomputable def retS (e : DE) : DS := fun ρ H => (e ρ H).inS ρ fun a H₁ => .ret a H₁
noncomputable def passS : DS := fun ρ H => .next ρ H
noncomputable def raiseS (hot : Bool) (c : Nat) : DS := fun ρ H => if hot then .bad else .exc c ρ H
noncomputable def seqS : List DS → DS
  | [] => passS
  | s :: r => fun ρ H => (s ρ H).then (seqS r)
noncomputable def loopS (B : AV → DS) (src : Src) : Nat → Nat → DS
  | n, k, ρ, H => match itemAt H src k with
    | none => .bad
    | some none => .next ρ H
    | some (some v) => match n with
      | 0 => .bad
      | n + 1 => (B v ρ H).then (loopS B src n (k + 1))
noncomputable def forS (hot : Bool) (t : Tg) (it : DE) (b : DS) : DS := fun ρ H => (it ρ H).inS ρ fun a H₁ => orBadS (srcOf H₁ a) fun s => if hot then .bad else (loopS (fun v ρ H => orBadS (bindT hot t v ρ) fun ρ₁ => b ρ₁ H) s.1 s.2.1 0 ρ (lockH s.2.2 H₁)).free s.2.2
noncomputable def OutS.calm : OutS → OutS
  | .exc _ _ _ => .bad
  | o => o
noncomputable def whileS (t : DE) (b : DS) : Nat → DS
  | 0, _, _ => .bad
  | n + 1, ρ, H => ((t ρ H).inS ρ fun a H₁ => match a with
    | .bool c => if c then (b ρ H₁).then (whileS t b n) else .next ρ H₁
    | _ => .bad).calm
section
variable {H : AH} {n : Nat} {o : Option AO}
theorem lsOf_at (q : H[n]? = o) : lsOf H (.ref n) = (match (generalizing := false) o with | some (.lst xs) => some xs | _ => none) := by subst q; rfl
theorem dcOf_at (q : H[n]? = o) : dcOf H (.ref n) = (match (generalizing := false) o with | some (.dict es) => some (n, es) | some (.ldict es) => some (n, es) | _ => none) := by subst q; rfl
theorem inOf_at (q : H[n]? = o) : inOf H (.ref n) = (match (generalizing := false) o with | some (.inst c fs) => some (n, c, fs) | _ => none) := by subst q; rfl
theorem lenA_at (q : H[n]? = o) : lenA H (.ref n) = (match (generalizing := false) o with | some (.lst xs) => some xs.length | some (.dict es) => some es.length | some (.ldict es) => some es.length | _ => none) := by subst q; rfl
theorem srcOf_at (q : H[n]? = o) : srcOf H (.ref n) = (match (generalizing := false) o with | some (.lst xs) => some (.lref n, xs.length, none) | some (.dict es) => some (.seq (es.map (·.1.av)), es.length, some n) | some (.ldict es) => some (.seq (es.map (·.1.av)), es.length, none) | _ => none) := by subst q; rfl
theorem den_at {m : Nat} (q : H[n]? = o) : den (m + 1) H (.ref n) = (match (generalizing := false) o with | some (.lst xs) => (denL (den m H) xs).map .list | _ => none) := by subst q; rfl
theorem setItemA_at {i v : AV} (q : H[n]? = o) : setItemA (.ref n) i v H = (match (generalizing := false) o with | some (.lst xs) => (match i with | .int k => if small k then (idxA k xs.length).map fun j => setL H n (xs.set j v) else none | _ => none) | some (.dict es) => if es.length ≤ 1000000 then (keyOf i).map fun k => H.set n (.dict (setD es k v)) else none | _ => none) := by subst q; rfl
theorem mb_at {f : Bm} {as : List AV} (q : H[n]? = o) : mbA f (.ref n) as H = (match (generalizing := false) o with | some (.lst xs) => if xs.length ≤ 1000000 then mlA f n xs as H else .bad | some (.dict es) => if es.length ≤ 1000000 then mdA f n es as H else .bad | _ => .bad) := by subst q; rfl
theorem mb_lst {f : Bm} {xs as : List AV} (h : H[n]? = some (.lst xs)) : mbA f (.ref n) as H = if xs.length ≤ 1000000 then mlA f n xs as H else .bad := mb_at h
end
noncomputable def Key.is : Key → Value → Bool
  | .str x, v => Value.isStrOf x v
  | .int i, v => Value.isInt i v
theorem Key.is_shape {k : Key} {v : Value} (h : k.is v = true) : (∃ x t, k = .str x ∧ v = .str x t) ∨ (∃ i t, k = .int i ∧ v = .int i t) := by
  cases k with
  | str x => obtain ⟨t, rfl⟩ := Value.isStrOf_shape h; exact .inl ⟨x, t, rfl, rfl⟩
  | int i => obtain ⟨t, rfl⟩ := Value.isInt_shape h; exact .inr ⟨i, t, rfl, rfl⟩
noncomputable def Key.hash (w : World) : Key → Int
  | .str x => hashStr w x
  | .int i => hashInt i
noncomputable def kk (prog : Program) (w : World) : KeyKind prog w Key where
  is := Key.is
  hash := Key.hash w
  inj := fun v a b ha hb => by
    rcases Key.is_shape ha with ⟨x, t, rfl, rfl⟩ | ⟨i, t, rfl, rfl⟩ <;> rcases Key.is_shape hb with ⟨y, u, rfl, e⟩ | ⟨j, u, rfl, e⟩ <;> cases e <;> rfl
  byValue := fun k v h => by
    rcases Key.is_shape h with ⟨x, t, rfl, rfl⟩ | ⟨i, t, rfl, rfl⟩ <;> rfl
  pyHash := fun hv h => by
    rcases Key.is_shape hv with ⟨x, t, rfl, rfl⟩ | ⟨i, t, rfl, rfl⟩
    · exact wpAny_pyHash_str h
    · exact wpAny_pyHash_int h
  eqBool := fun {_ _ _ a b u v _} hu hv h => by
    rcases Key.is_shape hu with ⟨x, t, rfl, rfl⟩ | ⟨i, t, rfl, rfl⟩ <;> rcases Key.is_shape hv with ⟨y, u, rfl, rfl⟩ | ⟨j, u, rfl, rfl⟩
    · exact wpAny_eqBool_str (by simpa using h)
    · exact SeqAt.EqAt.str_int x t j u prog w _ _ (by simpa using h)
    · exact SeqAt.EqAt.int_str i t y u prog w _ _ (by simpa using h)
    · refine wpAny_eqBool_int ?_
      have e : (i == j) = decide (Key.int i = Key.int j) := by
        by_cases q : i = j
        · subst q; simp
        · simp [q]
      rw [e]; exact h
  «strs» := fun k x t v h => by
    rcases Key.is_shape h with ⟨y, u, rfl, e⟩ | ⟨i, u, rfl, e⟩
    · cases e; cases v <;> rfl
    · cases e
noncomputable abbrev Stat.M (S : Stat) : Model := model S.prog S.w
noncomputable def wdOf (S : Stat) (pv : List Addr × List Addr) (h : Heap) (M : Mp) : Wd := ⟨h, M, fun a => foot M a ∨ a ∈ pv.1, S.X⟩
noncomputable abbrev Cx.wd (C : Cx) (h : Heap) (M : Mp) : Wd := wdOf C.S C.pv h M
noncomputable def cnt (fs : List (Option AV)) : Nat := fs.countP (·.isSome)
noncomputable def FRel (w : Wd) (an : List Str) (es : List DictEntry) (fs : List (Option AV)) : Prop :=
  es.length = cnt fs ∧ fs.length = an.length ∧ (∀ x, x ∉ an → getL x es = some none) ∧ ∀ (k : Nat) x, an[k]? = some x → match fs[k]? with
    | some (some a) => ∃ v, getL x es = some (some v) ∧ VRel w v a
    | _ => getL x es = some none
noncomputable def DRel (S : Stat) (w : Wd) (a : Addr) (es : List (Key × AV)) : Prop := ∃ kvs : List (Key × Value), w.h.DictOf (kk S.prog S.w) a kvs ∧ kvs.map (·.1) = es.map (·.1) ∧ VRels w (kvs.map (·.2)) (es.map (·.2)) ∧ ∀ e ∈ es, e.1.ok = true
noncomputable def ORel (S : Stat) (w : Wd) (p : Addr × Addr) : AO → Prop
  | .lst xs => p.2 = p.1 ∧ ∃ vs n, IsL w.h p.1 vs n ∧ VRels w vs.toList xs
  | .dict es => p.2 = p.1 ∧ DRel S w p.1 es
  | .ldict es => p.2 = p.1 ∧ DRel S w p.1 es
  | .inst c fs => p.2 ≠ p.1 ∧ ∃ D es n, S.cl c = some D ∧ w.h.get? p.1 = some (instObj D p.2) ∧ w.h.get? p.2 = some (dictOf es n) ∧ FRel w S.an es fs
noncomputable def Apart (p q : Addr × Addr) : Prop := p.1 ≠ q.1 ∧ p.1 ≠ q.2 ∧ p.2 ≠ q.1 ∧ p.2 ≠ q.2
structure Rep (S : Stat) (pv : List Addr × List Addr) (h : Heap) (M : Mp) (H : AH) : Prop where
  len : M.length = H.length
  obj : ∀ (n : Nat) p ao, M[n]? = some p → H[n]? = some ao → ORel S (wdOf S pv h M) p ao
  apart : ∀ (i j : Nat) p q, M[i]? = some p → M[j]? = some q → i ≠ j → Apart p q
  held : ∀ (n : Nat) p, M[n]? = some p → p.1 ∈ pv.2 ∨ p.2 ∈ pv.2 → ∃ es, H[n]? = some (.ldict es)
  lkd : ∀ (n : Nat) p es, M[n]? = some p → H[n]? = some (.ldict es) → p.1 ∈ pv.2
theorem FRel.keep {w w' : Wd} {an : List Str} {es : List DictEntry} {fs : List (Option AV)} (k : Kp w w') (r : FRel w an es fs) : FRel w' an es fs := by
  refine ⟨r.1, r.2.1, r.2.2.1, fun i x hx => ?_⟩
  have := r.2.2.2 i x hx
  split at this
  · obtain ⟨v, h1, h2⟩ := this; exact ⟨v, h1, h2.keep k⟩
  · exact this
theorem DRel.keep {S : Stat} {w w' : Wd} {a : Addr} {es : List (Key × AV)} (r : DRel S w a es) (k : Kp w w') (h1 : w'.h.get? a = w.h.get? a) : DRel S w' a es := by
  obtain ⟨kvs, ⟨o, es', ep, ho, r⟩, hk, v, ok⟩ := r; exact ⟨kvs, ⟨o, es', ep, h1.trans ho, r⟩, hk, v.keep k, ok⟩
theorem ORel.keep {S : Stat} {w w' : Wd} {p : Addr × Addr} {ao : AO} (r : ORel S w p ao) (k : Kp w w') (h1 : w'.h.get? p.1 = w.h.get? p.1) (h2 : w'.h.get? p.2 = w.h.get? p.2) : ORel S w' p ao := by
  cases ao with
  | lst xs => obtain ⟨e, vs, n, ho, v⟩ := r; exact ⟨e, vs, n, h1.trans ho, v.keep k⟩
  | dict es => exact ⟨r.1, r.2.keep k h1⟩
  | ldict es => exact ⟨r.1, r.2.keep k h1⟩
  | inst c fs => obtain ⟨e, D, es, n, a, b, c, f⟩ := r; exact ⟨e, D, es, n, a, h1.trans b, h2.trans c, f.keep k⟩
theorem ORel.at {S : Stat} {w : Wd} {p : Addr × Addr} {ao : AO} (r : ORel S w p ao) : (∃ o, w.h.get? p.1 = some o) ∧ ∃ o, w.h.get? p.2 = some o := by
  cases ao with
  | lst xs => obtain ⟨e, vs, n, ho, v⟩ := r; exact ⟨⟨_, ho⟩, _, e ▸ ho⟩
  | dict es => obtain ⟨e, kvs, ⟨o, es', ep, ho, r⟩, _⟩ := r; exact ⟨⟨_, ho⟩, _, e ▸ ho⟩
  | ldict es => obtain ⟨e, kvs, ⟨o, es', ep, ho, r⟩, _⟩ := r; exact ⟨⟨_, ho⟩, _, e ▸ ho⟩
  | inst c fs => obtain ⟨e, D, es, n, a, b, c, f⟩ := r; exact ⟨⟨_, b⟩, _, c⟩
theorem ne_of {h : Heap} {x y : Addr} {o : Obj} (b : h.get? y = some o) (a : h.get? x = none) : y ≠ x := fun e => by rw [e, a] at b; cases b
theorem foot_at {M : Mp} {n : Nat} {p : Addr × Addr} (h : M[n]? = some p) : foot M p.1 ∧ foot M p.2 := ⟨⟨p, List.mem_of_getElem? h, .inl rfl⟩, p, List.mem_of_getElem? h, .inr rfl⟩
theorem of_foot {M : Mp} {a : Addr} (h : foot M a) : ∃ (n : Nat) (p : Addr × Addr), M[n]? = some p ∧ (a = p.1 ∨ a = p.2) := by
  refine x1_2 (h) fun p hp h => ?_
  obtain ⟨n, hn⟩ := List.mem_iff_getElem?.mp hp
  exact ⟨n, p, hn, h⟩
theorem foot_append {M l : Mp} {a : Addr} : foot (M ++ l) a ↔ foot M a ∨ foot l a := by
  constructor
  · rintro ⟨p, hp, h⟩
    exact (List.mem_append.mp hp).imp (fun q => ⟨p, q, h⟩) fun q => ⟨p, q, h⟩
  · rintro (⟨p, hp, h⟩ | ⟨p, hp, h⟩)
    · exact ⟨p, List.mem_append.mpr (.inl hp), h⟩
    · exact ⟨p, List.mem_append.mpr (.inr hp), h⟩
section
variable {S : Stat} {pv : List Addr × List Addr} {h : Heap} {M : Mp} {H : AH}
theorem Rep.ao (R : Rep S pv h M H) {n : Nat} {p : Addr × Addr} (e : M[n]? = some p) : ∃ ao, H[n]? = some ao := ⟨_, List.getElem?_eq_getElem (by rw [← R.len]; exact (List.getElem?_eq_some_iff.mp e).1)⟩
theorem Rep.there (R : Rep S pv h M H) {a : Addr} (f : foot M a) : ∃ o, h.get? a = some o := by
  refine x2_2 (of_foot f) fun n p e ha => ?_
  obtain ⟨ao, e'⟩ := R.ao e
  have := (R.obj n p ao e e').at
  rcases ha with rfl | rfl
  · exact this.1
  · exact this.2
theorem Rep.off (R : Rep S pv h M H) {a : Addr} (ha : h.get? a = none) : ¬ foot M a := fun f => by
  obtain ⟨o, ho⟩ := R.there f
  rw [ha] at ho; cases ho
theorem Rep.keep {l : List Addr} {h' : Heap} (R : Rep S pv h M H) (k : Kp (wdOf S pv h M) (wdOf S (l, pv.2) h' M)) (e : ∀ a, foot M a → h'.get? a = h.get? a) : Rep S (l, pv.2) h' M H :=
  ⟨R.len, fun n p ao h1 h2 => (R.obj n p ao h1 h2).keep k (e _ (foot_at h1).1) (e _ (foot_at h1).2), R.apart, R.held, R.lkd⟩
theorem kp_ext {h' : Heap} (k : ∀ b o, h.get? b = some o → h'.get? b = some o) : Kp (wdOf S pv h M) (wdOf S pv h' M) := ⟨fun b o e n _ => ⟨k b o e, n⟩, ⟨[], by simp [wdOf]⟩, rfl⟩
theorem Rep.ext {h' : Heap} (R : Rep S pv h M H) (k : ∀ b o, h.get? b = some o → h'.get? b = some o) : Rep S pv h' M H :=
  R.keep (l := pv.1) (kp_ext k) fun a f => by obtain ⟨o, ho⟩ := R.there f; rw [ho, k a o ho]
theorem kp_new {h' : Heap} {p : Addr × Addr} (k : ∀ b o, h.get? b = some o → h'.get? b = some o) (h1 : h.get? p.1 = none) (h2 : h.get? p.2 = none) : Kp (wdOf S pv h M) (wdOf S pv h' (M ++ [p])) := by
  refine ⟨fun b o e n _ => ⟨k b o e, fun q => n (q.imp (fun f => ?_) id)⟩, ⟨[p], rfl⟩, rfl⟩
  rcases foot_append.mp f with f | ⟨p', hp, z⟩
  · exact f
  · cases List.mem_singleton.mp hp
    have e : h.get? b = some o := e
    rcases z with rfl | rfl
    · rw [h1] at e; cases e
    · rw [h2] at e; cases e
theorem Rep.newO {h' : Heap} {p : Addr × Addr} {ao : AO} (R : Rep S pv h M H) (hl : ∀ a ∈ pv.2, ∃ o, h.get? a = some o) (hao : ∀ es, ao ≠ .ldict es) (k : ∀ b o, h.get? b = some o → h'.get? b = some o) (h1 : h.get? p.1 = none) (h2 : h.get? p.2 = none) (ho : ORel S (wdOf S pv h' (M ++ [p])) p ao) : Rep S pv h' (M ++ [p]) (H ++ [ao]) := by
  have K := kp_new (S := S) (pv := pv) (M := M) k h1 h2
  have old : ∀ {n q}, M[n]? = some q → Apart q p := fun {n q} e => by
    obtain ⟨⟨o, a⟩, o', b⟩ := (foot_at e).imp R.there R.there
    exact ⟨ne_of a h1, ne_of a h2, ne_of b h1, ne_of b h2⟩
  refine ⟨by rw [List.length_append, List.length_append, R.len]; rfl, fun n q ao' e e' => ?_, fun i j q q' e e' ne => ?_, fun n q e z => ?_, fun n q es e e' => ?_⟩
  · rw [List.getElem?_append] at e e'
    rw [← R.len] at e'
    split at e
    · rename_i z
      rw [if_pos z] at e'
      refine (R.obj n q ao' e e').keep K ?_ ?_
      · obtain ⟨o, z⟩ := R.there (foot_at e).1; exact (k _ o z).trans z.symm
      · obtain ⟨o, z⟩ := R.there (foot_at e).2; exact (k _ o z).trans z.symm
    · rename_i z
      rw [if_neg z] at e'
      obtain ⟨m, hm⟩ : ∃ m, n - M.length = m := ⟨_, rfl⟩
      rw [hm] at e e'
      cases m with
      | zero => cases e; cases e'; exact ho
      | succ m => cases e
  · rw [List.getElem?_append] at e e'
    split at e <;> split at e'
    · exact R.apart i j q q' e e' ne
    · have := List.mem_singleton.mp (List.mem_of_getElem? e'); subst this; exact old e
    · have := List.mem_singleton.mp (List.mem_of_getElem? e); subst this; obtain ⟨a, b, c, d⟩ := old e'; exact ⟨a.symm, c.symm, b.symm, d.symm⟩
    · have h1 := (List.getElem?_eq_some_iff.mp e).1
      have h2 := (List.getElem?_eq_some_iff.mp e').1
      simp at h1 h2; lia
  · rw [List.getElem?_append] at e ⊢
    rw [← R.len]
    split at e
    · rename_i y; rw [if_pos y]; exact R.held n q e z
    · have := List.mem_singleton.mp (List.mem_of_getElem? e)
      subst this
      rcases z with z | z
      · obtain ⟨o, ho⟩ := hl _ z; rw [h1] at ho; cases ho
      · obtain ⟨o, ho⟩ := hl _ z; rw [h2] at ho; cases ho
  · rw [List.getElem?_append] at e e'
    rw [← R.len] at e'
    split at e
    · rename_i y; rw [if_pos y] at e'; exact R.lkd n q es e e'
    · rename_i y; rw [if_neg y] at e'; exact absurd (List.mem_singleton.mp (List.mem_of_getElem? e')).symm (hao es)
theorem kp_set {h' : Heap} {n : Nat} {p : Addr × Addr} (e : M[n]? = some p) (k : ∀ b o, b ≠ p.1 → b ≠ p.2 → h.get? b = some o → h'.get? b = some o) : Kp (wdOf S pv h M) (wdOf S pv h' M) :=
  ⟨fun b o z nf _ => ⟨k b o (fun q => nf (.inl (q ▸ (foot_at e).1))) (fun q => nf (.inl (q ▸ (foot_at e).2))) z, nf⟩, ⟨[], by simp [wdOf]⟩, rfl⟩
theorem Rep.off2 (R : Rep S pv h M H) {n : Nat} {p : Addr × Addr} (e : M[n]? = some p) (hn : ∀ es, H[n]? ≠ some (.ldict es)) : p.1 ∉ pv.2 ∧ p.2 ∉ pv.2 :=
  ⟨fun q => let ⟨es, h⟩ := R.held n p e (.inl q); hn es h, fun q => let ⟨es, h⟩ := R.held n p e (.inr q); hn es h⟩
theorem Rep.setO {h' : Heap} {n : Nat} {p : Addr × Addr} {ao : AO} (R : Rep S pv h M H) (e : M[n]? = some p) (hn : ∀ es, H[n]? ≠ some (.ldict es)) (hao : ∀ es, ao ≠ .ldict es) (k : ∀ b o, b ≠ p.1 → b ≠ p.2 → h.get? b = some o → h'.get? b = some o) (ho : ORel S (wdOf S pv h' M) p ao) : Rep S pv h' M (H.set n ao) := by
  refine ⟨by rw [List.length_set]; exact R.len, fun m q ao' e1 e2 => ?_, R.apart, fun m q e1 z => ?_, fun m q es e1 e2 => ?_⟩
  · rw [List.getElem?_set] at e2
    split at e2
    · rename_i z
      subst z
      split at e2 <;> cases e2
      rw [e] at e1; cases e1; exact ho
    · rename_i z
      refine x0_4 (R.apart m n q p e1 e (Ne.symm z)) fun a b c d => ?_
      refine (R.obj m q ao' e1 e2).keep (kp_set e k) ?_ ?_
      · obtain ⟨o, z⟩ := R.there (foot_at e1).1; exact (k _ o a b z).trans z.symm
      · obtain ⟨o, z⟩ := R.there (foot_at e1).2; exact (k _ o c d z).trans z.symm
  · by_cases y : n = m
    · subst y
      rw [e] at e1; cases e1
      exact absurd z (fun z => z.elim (R.off2 e hn).1 (R.off2 e hn).2)
    · rw [List.getElem?_set, if_neg y]; exact R.held m q e1 z
  · rw [List.getElem?_set] at e2
    split at e2
    · split at e2
      · exact absurd (Option.some.inj e2) (hao es)
      · cases e2
    · exact R.lkd m q es e1 e2
end
structure Step (C : Cx) (W : Addr → Prop) (s : Shared) (M : Mp) (s' : Shared) (M' : Mp) : Prop where
  keep : ∀ b o, s.heap.get? b = some o → (foot M b → b ∈ C.pv.2) → ¬ W b → b ∉ C.fs → s'.heap.get? b = some o
  slots : ∀ b o, s.heap.get? b = some o → b ∈ C.fs → ¬ W b → ∃ sl, s'.heap.get? b = some { o with slots := sl }
  alive : ∀ b o, s.heap.get? b = some o → ∃ o', s'.heap.get? b = some o'
  pre : ∃ l, M' = M ++ l
  grow : ∀ a, foot M' a → foot M a ∨ s.heap.get? a = none
  gens : s'.gens = s.gens
  os : s'.os = s.os
noncomputable def noW : Addr → Prop := fun _ => False
structure Live (C : Cx) (h : Heap) (M : Mp) : Prop where
  frames : C.A.frames = some C.fe
  funs : h.FunFrames C.S.base C.fe
  stays : C.S.base.StaysIn h
  off : ∀ L ∈ C.fs, ¬ foot M L
  new : ∀ a, foot M a → C.S.base.get? a = none
  handled : C.hot = false → C.A.handled = none
  dicts : ∀ b ∈ C.fs, ∃ o es ep, h.get? b = some o ∧ o.data = .dict es ep
  depth : C.A.depth + C.d < recursionLimit
  units : C.A.units + 20 * C.d + 100 < cLine
  priv : ∀ a, a ∈ C.pv.1 ∨ a ∈ C.pv.2 → ∃ o, h.get? a = some o
  poff : ∀ a ∈ C.pv.1, ¬ foot M a
section
variable {C : Cx} {W W' : Addr → Prop} {s s₁ s₂ s' : Shared} {M M₁ M₂ M' : Mp} {h h' : Heap}
theorem Step.not (k : Step C W s M s' M') {b : Addr} {o : Obj} (e : s.heap.get? b = some o) (n : ¬ foot M b) : ¬ foot M' b :=
  fun q => (k.grow b q).elim n fun l => by rw [l] at e; cases e
theorem Step.offM (k : Step C W s M s' M') {b : Addr} {o : Obj} (e : s.heap.get? b = some o) (n : foot M b → b ∈ C.pv.2) : foot M' b → b ∈ C.pv.2 :=
  fun q => (k.grow b q).elim n fun l => by rw [l] at e; cases e
theorem gone {h h' : Heap} (k : ∀ b o, h.get? b = some o → ∃ o', h'.get? b = some o') {a : Addr} (e : h'.get? a = none) : h.get? a = none := by
  cases q : h.get? a with
  | none => rfl
  | some o => obtain ⟨o', z⟩ := k a o q; rw [e] at z; cases z
theorem Step.thenNew (x : Step C W s M s₁ M₁) (y : Step C W' s₁ M₁ s₂ M₂) (hn : ∀ a, W' a → W a ∨ s.heap.get? a = none) : Step C W s M s₂ M₂ where
  keep := fun b o e n m f => y.keep b o (x.keep b o e n m f) (x.offM e n) (fun q => (hn b q).elim m fun z => by rw [e] at z; cases z) f
  slots := fun b o e f m => by
    obtain ⟨sl, h1⟩ := x.slots b o e f m
    obtain ⟨sl', h2⟩ := y.slots b _ h1 f (fun q => (hn b q).elim m fun z => by rw [e] at z; cases z)
    exact ⟨sl', h2⟩
  alive := fun b o e => by
    obtain ⟨o', e'⟩ := x.alive b o e
    exact y.alive b o' e'
  pre := by
    obtain ⟨l, e⟩ := x.pre
    obtain ⟨l', e'⟩ := y.pre
    exact ⟨l ++ l', by rw [e', e, List.append_assoc]⟩
  grow := fun a q => (y.grow a q).elim (fun p => x.grow a p) fun l => .inr (gone x.alive l)
  gens := y.gens.trans x.gens
  os := y.os.trans x.os
theorem Step.trans (x : Step C W s M s₁ M₁) (y : Step C W s₁ M₁ s₂ M₂) : Step C W s M s₂ M₂ := x.thenNew y fun _ q => .inl q
theorem Step.refl (C : Cx) (W : Addr → Prop) (s : Shared) (M : Mp) : Step C W s M s M :=
  ⟨fun _ _ e _ _ _ => e, fun _ o e _ _ => ⟨o.slots, e⟩, fun _ o e => ⟨o, e⟩, ⟨[], by simp⟩, fun _ q => .inl q, rfl, rfl⟩
theorem Step.wider (x : Step C W s M s' M') (hw : ∀ a, W a → W' a) : Step C W' s M s' M' := (Step.refl C W' s M).thenNew x fun a q => .inl (hw a q)
theorem Step.ofNo (x : Step C noW s M s' M') : Step C W s M s' M' := x.wider fun _ q => q.elim
theorem Step.ext {t : Nat} (k : ∀ b o, s.heap.get? b = some o → h'.get? b = some o) : Step C W s M { s with heap := h', toks := t } M :=
  ⟨fun b o e _ _ _ => k b o e, fun b o e _ _ => ⟨o.slots, k b o e⟩, fun b o e => ⟨o, k b o e⟩, ⟨[], by simp⟩, fun _ q => .inl q, rfl, rfl⟩
theorem Step.new {t : Nat} {p : Addr × Addr} (k : ∀ b o, s.heap.get? b = some o → h'.get? b = some o) (h1 : s.heap.get? p.1 = none) (h2 : s.heap.get? p.2 = none) : Step C W s M { s with heap := h', toks := t } (M ++ [p]) :=
  ⟨fun b o e _ _ _ => k b o e, fun b o e _ _ => ⟨o.slots, k b o e⟩, fun b o e => ⟨o, k b o e⟩, ⟨[p], rfl⟩, fun a q => (foot_append.mp q).imp id fun ⟨q, hq, z⟩ => by
    cases List.mem_singleton.mp hq
    rcases z with rfl | rfl
    · exact h1
    · exact h2, rfl, rfl⟩
theorem Live.fsNew (L : Live C h M) {b : Addr} (hb : b ∈ C.fs) : C.S.base.get? b = none := (L.funs.mem hb).1
theorem Live.baseOff (L : Live C h M) {b : Addr} {o : Obj} (e : C.S.base.get? b = some o) : ¬ foot M b ∧ b ∉ C.fs :=
  ⟨fun f => (nomatch (L.new b f).symm.trans e), fun f => (nomatch (L.fsNew f).symm.trans e)⟩
theorem Live.offFs (L : Live C h M) {b : Addr} {o : Obj} (e : h.get? b = some o) (hn : ∀ es ep, o.data ≠ .dict es ep) : b ∉ C.fs := fun q => by
  refine x3_2 (L.dicts b q) fun o' es ep ho hd => ?_
  rw [e] at ho; cases ho; exact hn es ep hd
theorem Live.K (L : Live C h M) : C.S.K.In h := C.S.hK.keeps L.stays
theorem Live.base0 (L : Live C h M) {a : Addr} (e : h.get? a = none) : C.S.base.get? a = none := gone (fun b o e => ⟨o, L.stays b o e⟩) e
theorem Live.fs0 (L : Live C h M) {a : Addr} (e : h.get? a = none) : a ∉ C.fs := fun q => by
  refine x3_2 (L.dicts a q) fun o es ep ho hd => ?_
  rw [e] at ho; cases ho
theorem Live.pv0 (L : Live C h M) {a : Addr} (e : h.get? a = none) : a ∉ C.pv.1 := fun q => by
  obtain ⟨o, ho⟩ := L.priv a (.inl q)
  rw [e] at ho; cases ho
noncomputable def VarsOnly (h : Heap) (W : Addr → Prop) : Prop := ∀ b o, W b → h.get? b = some o → ¬ Held o
theorem noW_seq {h : Heap} : VarsOnly h noW := fun _ _ q => q.elim
theorem Step.kp (x : Step C W s M s' M') (L : Live C s.heap M) (hw : VarsOnly s.heap W) : Kp (C.wd s.heap M) (C.wd s'.heap M') :=
  ⟨fun b o e n hh => ⟨x.keep b o e (fun q => absurd (.inl q) n) (fun q => hw b o q e hh) (L.offFs e hh.nd), fun q => q.elim (x.not e fun q => n (.inl q)) fun q => n (.inr q)⟩, x.pre, rfl⟩
theorem funs_keep (hs : ∀ b o, h.get? b = some o → b ∈ C.fs → (∀ vs, o.data ≠ .fields vs) → ∃ o', h'.get? b = some o' ∧ ∀ vs, o'.data ≠ .fields vs) {B : Heap} : ∀ l : List Env, (∀ b ∈ l.filterMap (·.frame), b ∈ C.fs) → h.FunFrames B l → h'.FunFrames B l
  | [], _, _ => trivial
  | env :: r, hl, ⟨hk, ⟨a, o, hf, hn, ho, hd⟩, hr⟩ => by
    have ha : a ∈ C.fs := hl a (by rw [List.filterMap_cons, hf]; exact .head _)
    refine x1_2 (hs a o ho ha hd) fun o' h1 h2 => ?_
    refine ⟨hk, ⟨a, o', hf, hn, h1, h2⟩, funs_keep hs r (fun b hb => hl b ?_) hr⟩
    rw [List.filterMap_cons, hf]; exact .tail _ hb
theorem Live.step (L : Live C s.heap M) (x : Step C noW s M s' M') : Live C s'.heap M' where
  frames := L.frames
  funs := funs_keep (fun b o ho hb hd => by obtain ⟨sl, h1⟩ := x.slots b o ho hb (fun q => q); exact ⟨_, h1, hd⟩) C.fe (fun b hb => hb) L.funs
  stays := fun b o e => x.keep b o (L.stays b o e) (fun q => absurd q (L.baseOff e).1) (fun q => q) (L.baseOff e).2
  off := fun a ha => by
    obtain ⟨_, o, ho, _⟩ := L.funs.mem ha
    exact x.not ho (L.off a ha)
  new := fun a f => (x.grow a f).elim (L.new a) L.base0
  handled := L.handled
  dicts := fun b hb => by
    refine x3_2 (L.dicts b hb) fun o es ep ho hd => ?_
    obtain ⟨sl, h1⟩ := x.slots b o ho hb (fun q => q)
    exact ⟨_, es, ep, h1, hd⟩
  depth := L.depth
  units := L.units
  priv := fun a ha => by obtain ⟨o, ho⟩ := L.priv a ha; exact x.alive a o ho
  poff := fun a ha => by obtain ⟨o, ho⟩ := L.priv a (.inl ha); exact x.not ho (L.poff a ha)
end
noncomputable def Raw (h : Heap) (e D : Addr) : Prop := ∃ o vs, h.get? e = some o ∧ (o.cls = .ref D ∧ o.dict = none) ∧ o.data = .fields vs ∧ 2 < vs.size ∧ vs[1]? = some .none
noncomputable def Fly (B h : Heap) (e D : Addr) (fl : Value) : Prop := ∃ o vs T oT ts, h.get? e = some o ∧ (o.cls = .ref D ∧ o.dict = none) ∧ o.data = .fields vs ∧ 2 < vs.size ∧ vs[1]? = some (.ref T) ∧ B.get? T = none ∧ T ≠ e ∧ h.get? T = some oT ∧ oT.data = .fields ts ∧ ts[3]? = some fl
structure Flt (B : Heap) (fe : List Env) (e D : Addr) (h : Heap) : Prop where
  stays : B.StaysIn h
  new : B.get? e = none
  funs : h.FunFrames B fe
  st : Raw h e D ∨ ∃ fl, Fly B h e D fl ∧ (fl = .none ∨ ∃ L, fe.head?.bind (·.frame) = some L ∧ fl = rawInt L)
structure Exn (C : Cx) (W : Addr → Prop) (s : Shared) (M : Mp) (e : Addr) (c : Nat) (s' : Shared) (M' : Mp) (H' : AH) (B : Heap) : Prop where
  keepB : ∀ b o, s.heap.get? b = some o → (foot M b → b ∈ C.pv.2) → ¬ W b → b ∉ C.fs → B.get? b = some o
  base : C.S.base.StaysIn B
  rep : Rep C.S C.pv B M' H'
  flt : ∃ D, C.S.X c = some D ∧ Flt B C.fe e D s'.heap
  slots : ∀ b o, s.heap.get? b = some o → b ∈ C.fs → ¬ W b → ∃ sl, s'.heap.get? b = some { o with slots := sl }
  alive : ∀ b o, s.heap.get? b = some o → ∃ o', s'.heap.get? b = some o'
  pre : ∃ l, M' = M ++ l
  grow : ∀ a, foot M' a → foot M a ∨ s.heap.get? a = none
  gens : s'.gens = s.gens
  os : s'.os = s.os
  fresh : s.heap.get? e = none
section
variable {C : Cx} {W W' : Addr → Prop} {s s₁ s' : Shared} {M M₁ M' : Mp} {H' : AH} {e : Addr} {c : Nat} {B : Heap}
theorem Exn.step (x : Exn C W s M e c s' M' H' B) : Step C W s M s' M' :=
  ⟨fun b o z n m f => let ⟨_, _, q⟩ := x.flt; q.stays _ _ (x.keepB b o z n m f), x.slots, x.alive, x.pre, x.grow, x.gens, x.os⟩
theorem Exn.after (x : Step C W' s M s₁ M₁) (y : Exn C W s₁ M₁ e c s' M' H' B) (hw : ∀ a, W' a → W a) : Exn C W s M e c s' M' H' B :=
  have z := (x.wider hw).trans y.step
  { y with keepB := fun b o e n m f => y.keepB b o (x.keep b o e n (fun q => m (hw b q)) f) (x.offM e n) m f, slots := z.slots, alive := z.alive, pre := z.pre, grow := z.grow, gens := z.gens, os := z.os, fresh := gone x.alive y.fresh }
theorem Exn.wider (y : Exn C W s M e c s' M' H' B) (hw : ∀ a, W a → W' a) : Exn C W' s M e c s' M' H' B :=
  { y with keepB := fun b o e n m f => y.keepB b o e n (fun q => m (hw b q)) f, slots := fun b o e f m => y.slots b o e f fun q => m (hw b q) }
end
noncomputable abbrev RelT (α β : Type) := Wd → α → β → Prop
noncomputable def EqR {α : Type} : RelT α α := fun _ a b => a = b
noncomputable def Post {α β : Type} (R : RelT α β) (C : Cx) (s : Shared) (M : Mp) (y : β) (H' : AH) (x : α) (s' : Shared) : Prop :=
  ∃ M', Step C noW s M s' M' ∧ Rep C.S C.pv s'.heap M' H' ∧ R (C.wd s'.heap M') x y
noncomputable def PostX (C : Cx) (s : Shared) (M : Mp) (c : Nat) (H' : AH) (ev : Value) (s' : Shared) : Prop :=
  ∃ e M' B, ev = .ref e ∧ Exn C noW s M e c s' M' H' B
noncomputable abbrev no1 {α : Type} : α → Shared → Prop := fun _ _ => False
noncomputable def Ev {α β : Type} (R : RelT α β) (C : Cx) (t : Sem α) (s : Shared) (M : Mp) : Out β → Prop
  | .ok y H' => wpAny C.S.M C.A t (Post R C s M y H') no1 s
  | .exc c H' => wpAny C.S.M C.A t no1 (PostX C s M c H') s
  | .bad => True
section
variable {α β γ δ : Type} {R : RelT α β} {R' : RelT γ δ} {C : Cx} {s : Shared} {M : Mp}
theorem Ev.then {t : Sem α} {k : α → Sem γ} {o : Out β} {f : β → AH → Out δ} (h : Ev R C t s M o)
    (hk : ∀ y H₁ x s₁ M₁, Step C noW s M s₁ M₁ → Rep C.S C.pv s₁.heap M₁ H₁ → R (C.wd s₁.heap M₁) x y → Ev R' C (k x) s₁ M₁ (f y H₁)) : Ev R' C (t >>= k) s M (o.bind f) := by
  cases o with
  | bad => trivial
  | exc c H' => exact wpAny_bind (wpAny_mono h (fun _ _ q => q.elim) fun _ _ q => q)
  | ok y H₁ =>
    show Ev R' C (t >>= k) s M (f y H₁)
    generalize hf : f y H₁ = o'
    cases o' with
    | bad => trivial
    | exc c H' => exact wpAny_bind (wpAny_mono h (fun x s₁ ⟨M₁, st, rp, r⟩ => wpAny_mono (hf ▸ hk y H₁ x s₁ M₁ st rp r : Ev R' C (k x) s₁ M₁ (.exc c H')) (fun _ _ q => q) fun _ _ ⟨e, M₂, B, he, z⟩ => ⟨e, M₂, B, he, z.after st fun _ q => q⟩) fun _ _ q => q.elim)
    | ok y' H' => exact wpAny_bind (wpAny_mono h (fun x s₁ ⟨M₁, st, rp, r⟩ => wpAny_mono (hf ▸ hk y H₁ x s₁ M₁ st rp r : Ev R' C (k x) s₁ M₁ (.ok y' H')) (fun _ _ ⟨M₂, st₂, z⟩ => ⟨M₂, st.trans st₂, z⟩) fun _ _ q => q) fun _ _ q => q.elim)
theorem Ev.of {t : Sem α} {o : Out β} (h : ∀ {P : α → Shared → Prop} {E : Value → Shared → Prop} (y : β) (H' : AH), o = .ok y H' → (∀ x s', Post R C s M y H' x s' → P x s') → wpAny C.S.M C.A t P E s) (he : ∀ c H', o ≠ .exc c H') : Ev R C t s M o := by
  cases o with
  | bad => trivial
  | exc c H' => exact absurd rfl (he c H')
  | ok y H' => exact h y H' rfl fun _ _ q => q
theorem Ev.map {t t' : Sem α} (e : ∀ {P : α → Shared → Prop} {E : Value → Shared → Prop}, wpAny C.S.M C.A t P E s → wpAny C.S.M C.A t' P E s) {o : Out β} (h : Ev R C t s M o) : Ev R C t' s M o := by
  cases o with
  | bad => trivial
  | exc c H' => exact e h
  | ok y H' => exact e h
theorem Ev.holding {t : Sem α} {vs : List Value} {o : Out β} (h : Ev R C t s M o) : Ev R C (holding vs t) s M o := h.map fun z => wpAny_holding z
theorem Ev.stand {t : Sem α} {pos : Pos} {o : Out β} (h : Ev R C t s M o) : Ev R C (standAt pos >>= fun _ => t) s M o := h.map fun z => wpAny_bind (wpAny_standAt z)
theorem Ev.operate {t : Sem Value} {R : RelT Value β} {vs : List Value} {o : Out β} (h : Ev R C t s M o) : Ev R C (operate vs t) s M o := h.map fun z => wpAny_operate' z
theorem Ev.look {t : Sem γ} {v : γ} {k : γ → Sem α} {o : Out β} (h : ∀ {P : γ → Shared → Prop} {E : Value → Shared → Prop}, P v s → wpAny C.S.M C.A t P E s) (hk : Ev R C (k v) s M o) : Ev R C (t >>= k) s M o := hk.map fun z => wpAny_bind (h z)
theorem Ev.orBad {ε : Type} {t : Sem α} {x : Option ε} {f : ε → Out β} (h : ∀ y, x = some y → Ev R C t s M (f y)) : Ev R C t s M (orBad x f) := by
  cases x with
  | none => trivial
  | some y => exact h y rfl
theorem Ev.ite {t : Sem α} {p : Prop} [Decidable p] {a : Out β} (h : p → Ev R C t s M a) : Ev R C t s M (if p then a else .bad) := by
  split
  · exact h ‹_›
  · trivial
theorem Ev.asInt {t : Sem α} {a : AV} {f : Int → Out β} (h : ∀ i, a = .int i → Ev R C t s M (f i)) : Ev R C t s M (asInt a f) := by
  cases a <;> first | trivial | exact h _ rfl
theorem Ev.asBool {t : Sem α} {a : AV} {f : Bool → Out β} (h : ∀ i, a = .bool i → Ev R C t s M (f i)) : Ev R C t s M (asBool a f) := by
  cases a <;> first | trivial | exact h _ rfl
theorem Ev.asStr {t : Sem α} {a : AV} {f : Str → Out β} (h : ∀ i, a = .str i → Ev R C t s M (f i)) : Ev R C t s M (asStr a f) := by
  cases a <;> first | trivial | exact h _ rfl
variable {H : AH} {x : α} {y : β} {h' : Heap}
theorem post_tok (rp : Rep C.S C.pv s.heap M H) (r : R (C.wd s.heap M) x y) (t : Nat) : Post R C s M y H x { s with toks := t } :=
  ⟨M, ⟨fun _ _ e _ _ _ => e, fun _ o e _ _ => ⟨o.slots, e⟩, fun _ o e => ⟨o, e⟩, ⟨[], by simp⟩, fun _ q => .inl q, rfl, rfl⟩, rp, r⟩
theorem post_here (rp : Rep C.S C.pv s.heap M H) (r : R (C.wd s.heap M) x y) : Post R C s M y H x s := ⟨M, Step.refl .., rp, r⟩
theorem post_grow (rp : Rep C.S C.pv s.heap M H) (k : ∀ b o, s.heap.get? b = some o → h'.get? b = some o) (r : R (C.wd h' M) x y) (t : Nat) : Post R C s M y H x { s with heap := h', toks := t } := ⟨M, Step.ext k, rp.ext k, r⟩
theorem post_push {o : Obj} (rp : Rep C.S C.pv s.heap M H) (r : R (C.wd (s.heap.push o) M) x y) (t : Nat) : Post R C s M y H x { s with heap := s.heap.push o, toks := t } := post_grow rp (fun _ _ e => Heap.get?_push_of_some _ e) r t
theorem Ev.pure (rp : Rep C.S C.pv s.heap M H) (r : R (C.wd s.heap M) x y) : Ev R C (pure x) s M (.ok y H) := wpAny_pure (post_here rp r)
theorem post_setO {n : Nat} {p : Addr × Addr} {ao : AO} {tk : Nat} (L : Live C s.heap M) (rp : Rep C.S C.pv s.heap M H) (e : M[n]? = some p) (hn : ∀ es, H[n]? ≠ some (.ldict es)) (hao : ∀ es, ao ≠ .ldict es) (k : ∀ b o, b ≠ p.1 → b ≠ p.2 → s.heap.get? b = some o → h'.get? b = some o)
    (ho : Kp (C.wd s.heap M) (C.wd h' M) → ORel C.S (C.wd h' M) p ao) (rx : Kp (C.wd s.heap M) (C.wd h' M) → R (C.wd h' M) x y) : Post R C s M y (H.set n ao) x { s with heap := h', toks := tk } := by
  have K : Kp (C.wd s.heap M) (C.wd h' M) := kp_set e k
  obtain ⟨⟨o1, a1⟩, o2, a2⟩ := (ho K).at
  have nl := rp.off2 e hn
  refine ⟨M, ⟨fun b o z n _ _ => k b o (fun q => nl.1 (q ▸ n (q ▸ (foot_at e).1))) (fun q => nl.2 (q ▸ n (q ▸ (foot_at e).2))) z, fun b o z hb _ => ⟨o.slots, k b o (fun q => L.off b hb (q ▸ (foot_at e).1)) (fun q => L.off b hb (q ▸ (foot_at e).2)) z⟩, fun b o z => ?_, ⟨[], by simp⟩, fun _ q => .inl q, rfl, rfl⟩, rp.setO e hn hao k (ho K), rx K⟩
  by_cases h1 : b = p.1
  · exact ⟨o1, h1 ▸ a1⟩
  · by_cases h2 : b = p.2
    · exact ⟨o2, h2 ▸ a2⟩
    · exact ⟨o, k b o h1 h2 z⟩
end
noncomputable def OwnW (env : Env) : Addr → Prop := fun a => a = env.locals ∨ ∃ n, env.cells.lookup n = some a
structure EnvAt (C : Cx) (env : Env) (ns : List (Option Str)) (ρ : RE) (h : Heap) (w : Wd) (m cm : Str → Option Value) : Prop where
  fn : env.scope.kind = .function
  glob : env.globals = mainGlobals
  bns : env.builtins = builtinsNs
  loc : h.Ns env.locals m
  off : ∀ a, OwnW env a → ¬ foot w.M a ∧ C.S.base.get? a = none
  inj : ∀ (i j : Nat) (x : Str), ns[i]? = some (some x) → ns[j]? = some (some x) → i = j
  len : ρ.length = ns.length
  has : ∀ x, (env.kindOf x = some .cell ∨ env.kindOf x = some .free) → ∃ c, env.cells.lookup x = some c
  cell : ∀ n c, env.cells.lookup n = some c → h.IsCell c (cm n) ∧ c ∉ C.fs ∧ c ≠ env.locals
  apart : ∀ n n' c, env.cells.lookup n = some c → env.cells.lookup n' = some c → n = n'
  var : ∀ (i : Nat) (x : Str) (a : AV), ns[i]? = some (some x) → ρ[i]? = some (some a) → ∃ v, VRel w v a ∧
    ((env.kindOf x = some .local ∧ m x = some v) ∨ ((env.kindOf x = some .cell ∨ env.kindOf x = some .free) ∧ (∃ c, env.cells.lookup x = some c) ∧ cm x = some v))
noncomputable def EnvB (C : Cx) (env : Env) (ns : List (Option Str)) (ρ : RE) (h B : Heap) (M : Mp) : Prop := ∃ m cm, EnvAt C env ns ρ h (C.wd B M) m cm
structure St (C : Cx) (env : Env) (ns : List (Option Str)) (ρ : RE) (s : Shared) (M : Mp) (H : AH) : Prop where
  live : Live C s.heap M
  rep : Rep C.S C.pv s.heap M H
  env : EnvB C env ns ρ s.heap s.heap M
section
variable {C C' : Cx} {env : Env} {ns : List (Option Str)} {ρ : RE} {h h' : Heap} {w w' : Wd} {m cm : Str → Option Value} {s s' : Shared} {M M' : Mp} {H H' : AH}
theorem EnvAt.keep (E : EnvAt C env ns ρ h w m cm) (hS : C'.S = C.S) (hf : ∀ a, a ∉ C.fs → a ∉ C'.fs) (hl : ∀ o, h.get? env.locals = some o → ∃ sl, h'.get? env.locals = some { o with slots := sl }) (hc : ∀ n c o, env.cells.lookup n = some c → h.get? c = some o → h'.get? c = some o) (k : Kp w w') (nf : ∀ a o, OwnW env a → h.get? a = some o → ¬ foot w.M a → ¬ foot w'.M a) : EnvAt C' env ns ρ h' w' m cm := by
  refine ⟨E.fn, E.glob, E.bns, ?_, fun a ha => ⟨?_, hS ▸ (E.off a ha).2⟩, E.inj, E.len, E.has, fun n c e => ?_, E.apart, fun i x a h1 h2 => ?_⟩
  · refine x3_3 (E.loc) fun o es ep ho hd r => ?_
    obtain ⟨sl, h1⟩ := hl o ho
    exact ⟨_, es, ep, h1, hd, r⟩
  · have : ∃ o, h.get? a = some o := by
      rcases ha with rfl | ⟨n, e⟩
      · obtain ⟨o, es, ep, ho, _⟩ := E.loc; exact ⟨o, ho⟩
      · obtain ⟨⟨o, ho, _⟩, _⟩ := E.cell n a e; exact ⟨o, ho⟩
    obtain ⟨o, ho⟩ := this
    exact nf a o ha ho (E.off a ha).1
  · obtain ⟨⟨o, ho, hd⟩, h2, h3⟩ := E.cell n c e
    exact ⟨⟨o, hc n c o e ho, hd⟩, hf _ h2, h3⟩
  · refine x1_2 (E.var i x a h1 h2) fun v hv r => ?_
    exact ⟨v, hv.keep k, r⟩
theorem EnvAt.offFs (E : EnvAt C env ns ρ h w m cm) {n : Str} {c : Addr} (e : env.cells.lookup n = some c) : c ∉ C.fs := (E.cell n c e).2.1
theorem St.step (st : St C env ns ρ s M H) (x : Step C noW s M s' M') (r : Rep C.S C.pv s'.heap M' H') : St C env ns ρ s' M' H' := by
  refine x2_1 (st.env) fun m cm E => ?_
  refine ⟨st.live.step x, r, m, cm, E.keep rfl (fun _ q => q) (fun o ho => ?_) (fun n c o e ho => x.keep c o ho (fun q => absurd q (E.off c (.inr ⟨n, e⟩)).1) (fun q => q) (E.offFs e)) (x.kp st.live noW_seq) (fun a o _ ho n => x.not ho n)⟩
  by_cases q : env.locals ∈ C.fs
  · exact x.slots _ o ho q (fun q => q)
  · exact ⟨o.slots, x.keep _ o ho (fun q => absurd q (E.off _ (.inl rfl)).1) (fun q => q) q⟩
theorem EnvAt.vars (E : EnvAt C env ns ρ h w m cm) : VarsOnly h (OwnW env) := by
  rintro b o (rfl | ⟨n, hc⟩) ho hh
  · refine x3_3 (E.loc) fun o' es ep h1 h2 _ => ?_
    rw [ho] at h1; cases h1
    exact hh.nd _ _ h2
  · obtain ⟨⟨o', h1, h2⟩, _⟩ := E.cell n b hc
    rw [ho] at h1; cases h1
    rcases hh.1 with ⟨_, _, e⟩ | ⟨_, e⟩ <;> rw [h2] at e <;> cases e
structure Aside (C : Cx) (env : Env) (h : Heap) (M : Mp) (it : Addr) : Prop where
  obj : ∃ o, h.get? it = some o ∧ (it ∈ C.pv.1 ∨ ¬ Held o)
  foot : ¬ foot M it
  fs : it ∉ C.fs
  own : ¬ OwnW env it
  base : C.S.base.get? it = none
variable {it : Addr}
theorem St.but {tk : Nat} (st : St C env ns ρ s M H) (x : Aside C env s.heap M it) (k : ∀ b o, b ≠ it → s.heap.get? b = some o → h'.get? b = some o) (he : it ∈ C.pv.1 ∨ it ∈ C.pv.2 → ∃ o, h'.get? it = some o) : St C env ns ρ { s with heap := h', toks := tk } M H := by
  obtain ⟨L, R, m, cm, E⟩ := st
  have K : Kp (C.wd s.heap M) (C.wd h' M) := ⟨fun b o e n hh => ⟨k b o (fun q => by
      subst q
      refine x1_2 (x.obj) fun o' h1 h2 => ?_
      have e : s.heap.get? b = some o := e
      rw [e] at h1; cases h1
      exact h2.elim (fun z => n (.inr z)) fun z => z hh) e, n⟩, ⟨[], by simp [wdOf]⟩, rfl⟩
  refine ⟨⟨L.frames, funs_keep (C := C) (fun b o ho hb hd => ⟨o, k b o (fun q => x.fs (q ▸ hb)) ho, hd⟩) C.fe (fun b hb => hb) L.funs, fun b o e => k b o (ne_of e x.base) (L.stays b o e), L.off, L.new, L.handled, fun b hb => ?_, L.depth, L.units, fun a ha => ?_, L.poff⟩, R.keep (l := C.pv.1) K (fun a f => ?_), m, cm, E.keep rfl (fun _ q => q) (fun o ho => ⟨o.slots, k _ o (fun q => x.own (.inl q.symm)) ho⟩) (fun n c o e ho => k c o (fun q => x.own (.inr ⟨n, q ▸ e⟩)) ho) K fun a o _ _ n => n⟩
  · refine x3_2 (L.dicts b hb) fun o es ep ho hd => ?_
    exact ⟨o, es, ep, k b o (fun q => x.fs (q ▸ hb)) ho, hd⟩
  · by_cases q : a = it
    · exact q ▸ he (q ▸ ha)
    · obtain ⟨o, ho⟩ := L.priv a ha
      exact ⟨o, k a o q ho⟩
  · obtain ⟨o, ho⟩ := R.there f
    exact (k a o (fun q => x.foot (q ▸ f)) ho).trans ho.symm
theorem Step.but {W : Addr → Prop} {tk : Nat} (x : Step C W s M s' M') (hn : s.heap.get? it = none) (k : ∀ b o, b ≠ it → s'.heap.get? b = some o → h'.get? b = some o) : Step C W s M { s' with heap := h', toks := tk } M' where
  keep := fun b o e n m f => k b o (ne_of e hn) (x.keep b o e n m f)
  slots := fun b o e f m => by
    obtain ⟨sl, h1⟩ := x.slots b o e f m
    exact ⟨sl, k b _ (ne_of e hn) h1⟩
  alive := fun b o e => by
    obtain ⟨o', e'⟩ := x.alive b o e
    exact ⟨o', k b o' (ne_of e hn) e'⟩
  pre := x.pre
  grow := x.grow
  gens := x.gens
  os := x.os
theorem Aside.step (x : Aside C env s.heap M it) (y : Step C (OwnW env) s M s' M') : Aside C env s'.heap M' it := by
  obtain ⟨⟨o, h1, h2⟩, nf, nfs, nW, nb⟩ := x
  exact ⟨⟨o, y.keep it o h1 (fun q => absurd q nf) nW nfs, h2⟩, y.not h1 nf, nfs, nW, nb⟩
theorem Aside.keepObj {o : Obj} (x : Aside C env s.heap M it) (y : Step C (OwnW env) s M s' M') (e : s.heap.get? it = some o) : s'.heap.get? it = some o := y.keep it o e (fun q => absurd q x.foot) x.own x.fs
theorem St.own0 (st : St C env ns ρ s M H) {a : Addr} (h0 : s.heap.get? a = none) : ¬ OwnW env a := by
  refine x2_1 (st.env) fun m cm E => ?_
  rintro (q | ⟨n, q⟩)
  · obtain ⟨o', _, _, ho, _⟩ := E.loc; rw [← q, h0] at ho; cases ho
  · obtain ⟨⟨o', ho, _⟩, _⟩ := E.cell n _ q; rw [h0] at ho; cases ho
theorem Aside.new {o : Obj} (st : St C env ns ρ s M H) (h0 : s.heap.get? it = none) (h1 : h'.get? it = some o) (hh : ¬ Held o) : Aside C env h' M it :=
  ⟨⟨o, h1, .inr hh⟩, st.rep.off h0, st.live.fs0 h0, st.own0 h0, st.live.base0 h0⟩
theorem not_held {o : Obj} {T : String} (hc : o.cls = .type T) (hT : ¬ (T = "tuple" ∨ T = "list" ∨ T = "range")) : ¬ Held o := fun h => hT (h.2 T hc)
theorem set_get {ρ : RE} {i j : Nat} {a : Option AV} (hi : i < ρ.length) : (ρ.set i a)[j]? = if i = j then some a else ρ[j]? := by
  rw [List.getElem?_set]
  split
  · rename_i q; subst q; simp [hi]
  · rfl
theorem step_store {W : Addr → Prop} {tk : Nat} {c : Addr} (hc : W c) (k : Heap.SameBut c s.heap h') (hl : ∃ o, h'.get? c = some o) : Step C W s M { s with heap := h', toks := tk } M where
  keep := fun b o e _ w _ => (k.2 b (fun q => w (q ▸ hc))).trans e
  slots := fun b o e _ w => ⟨o.slots, (k.2 b (fun q => w (q ▸ hc))).trans e⟩
  alive := fun b o e => by
    by_cases q : b = c
    · subst q; exact hl
    · exact ⟨o, (k.2 b q).trans e⟩
  pre := ⟨[], by simp⟩
  grow := fun _ q => .inl q
  gens := rfl
  os := rfl
theorem own_turned {c : Addr} (E : EnvAt C env ns ρ s.heap (C.wd s.heap M) m cm) (L : Live C s.heap M) (R : Rep C.S C.pv s.heap M H) (hc : OwnW env c) (k : Heap.SameBut c s.heap h') (hl : ∃ o, h'.get? c = some o) (hd : c ∈ C.fs → ∃ o es ep, h'.get? c = some o ∧ o.data = .dict es ep) :
    Kp (C.wd s.heap M) (C.wd h' M) ∧ Live C h' M ∧ Rep C.S C.pv h' M H := by
  have x : Step C (OwnW env) s M { s with heap := h', toks := s.toks } M := step_store hc k hl
  have K : Kp (C.wd s.heap M) (C.wd h' M) := x.kp L E.vars
  refine ⟨K, ⟨L.frames, funs_keep (C := C) (fun b o ho hb hd' => ?_) C.fe (fun b hb => hb) L.funs, fun b o e => (k.2 b (ne_of e (E.off c hc).2)).trans (L.stays b o e), L.off, L.new, L.handled, fun b hb => ?_, L.depth, L.units, fun a ha => ?_, L.poff⟩, R.keep (l := C.pv.1) K fun a f => k.2 a fun q => (E.off c hc).1 (q ▸ f)⟩
  · by_cases q : b = c
    · subst q
      refine x3_2 (hd hb) fun o' es ep h1 h2 => ?_
      exact ⟨o', h1, fun vs z => by rw [h2] at z; cases z⟩
    · exact ⟨o, (k.2 b q).trans ho, hd'⟩
  · by_cases q : b = c
    · exact q ▸ hd (q ▸ hb)
    · refine x3_2 (L.dicts b hb) fun o es ep h1 h2 => ?_
      exact ⟨o, es, ep, (k.2 b q).trans h1, h2⟩
  · obtain ⟨o, ho⟩ := L.priv a ha
    exact x.alive a o ho
theorem local_turned {i : Nat} {x : Str} {o : Option AV} {tk : Nat} {m' : Str → Option Value} (st : St C env ns ρ s M H) (E : EnvAt C env ns ρ s.heap (C.wd s.heap M) m cm) (hx : ns[i]? = some (some x)) (hk : env.kindOf x = some .local) (hn' : h'.Ns env.locals m') (hs' : Heap.SameBut env.locals s.heap h')
    (ho : ∀ a, o = some a → ∃ v, VRel (C.wd s.heap M) v a ∧ m' x = some v) (hm : ∀ y, y ≠ x → m' y = m y) : Step C (fun b => b = env.locals) s M { s with heap := h', toks := tk } M ∧ St C env ns (ρ.set i o) { s with heap := h', toks := tk } M H := by
  have hi : i < ρ.length := by rw [E.len]; exact (List.getElem?_eq_some_iff.mp hx).1
  have hl : ∃ o, h'.get? env.locals = some o := let ⟨o, _, _, ho, _⟩ := hn'; ⟨o, ho⟩
  obtain ⟨K, L', R'⟩ := own_turned E st.live st.rep (.inl rfl) hs' hl fun _ => let ⟨o, es, ep, ho, hd, _⟩ := hn'; ⟨o, es, ep, ho, hd⟩
  refine ⟨step_store rfl hs' hl, L', R', m', cm, E.fn, E.glob, E.bns, hn', E.off, E.inj, by rw [List.length_set]; exact E.len, E.has, fun n c hc => ?_, E.apart, fun j y b h1 h2 => ?_⟩
  · obtain ⟨⟨o, c1, c1'⟩, c2, c3⟩ := E.cell n c hc
    exact ⟨⟨o, (hs'.2 c c3).trans c1, c1'⟩, c2, c3⟩
  · rw [set_get hi] at h2
    split at h2
    · rename_i q; subst q
      rw [hx] at h1
      cases h1
      refine x1_2 (ho b (Option.some.inj h2)) fun v rv hv => ?_
      exact ⟨v, rv.keep K, .inl ⟨hk, hv⟩⟩
    · rename_i q
      refine x1_2 (E.var j y b h1 h2) fun u ru hu => ?_
      exact ⟨u, ru.keep K, hu.imp (fun z => ⟨z.1, (hm y fun z => q (E.inj i j x hx (z ▸ h1))).trans z.2⟩) id⟩
theorem store_ok {i : Nat} {x : Str} {v : Value} {a : AV} {P : Unit → Shared → Prop} {E : Value → Shared → Prop} (st : St C env ns ρ s M H) (hx : ns[i]? = some (some x)) (hk : env.kindOf x = some .local ∨ env.kindOf x = some .cell)
    (rv : VRel (C.wd s.heap M) v a) (h : ∀ s', Step C (OwnW env) s M s' M → St C env ns (ρ.set i (some a)) s' M H → P () s') : wpAny C.S.M C.A (storeName env x v) P E s := by
  refine x2_1 (st.env) fun m cm En => ?_
  rcases hk with hk | hk
  · refine wpAny_storeName_local hk En.loc (fun h' hn' hs' => ?_) (by rw [En.fn]; rfl)
    obtain ⟨x1, st1⟩ := local_turned (o := some a) (tk := s.toks + 1) st En hx hk hn' hs' (fun b e => ⟨v, Option.some.inj e ▸ rv, by simp⟩) fun y hy => by simp [hy]
    exact h _ (x1.wider fun _ q => .inl q) st1
  obtain ⟨c, hc⟩ := En.has x (.inl hk)
  refine x0_3 (En.cell x c hc) fun c1 c3 c4 => ?_
  refine wpAny_storeName_cell En.fn hk hc c1 fun h' hc' hs' => ?_
  have hi : i < ρ.length := by rw [En.len]; exact (List.getElem?_eq_some_iff.mp hx).1
  have hl : ∃ o, h'.get? c = some o := let ⟨o, ho, _⟩ := hc'; ⟨o, ho⟩
  have x1 : Step C (OwnW env) s M { s with heap := h' } M := step_store (W := OwnW env) (tk := s.toks) (.inr ⟨x, hc⟩) hs' hl
  refine x0_3 (own_turned En st.live st.rep (.inr ⟨x, hc⟩) hs' hl fun q => absurd q c3) fun K L' R' => ?_
  refine h _ x1 ⟨L', R', m, (fun y => if y = x then some v else cm y), En.fn, En.glob, En.bns, En.loc.sameBut hs' (Ne.symm c4), En.off, En.inj, by rw [List.length_set]; exact En.len, En.has, fun n b hb => ?_, En.apart, fun j y b h1 h2 => ?_⟩
  · obtain ⟨⟨o, e1, e1'⟩, e3, e4⟩ := En.cell n b hb
    by_cases q : n = x
    · subst q
      rw [hc] at hb; cases hb
      exact ⟨by simpa using hc', e3, e4⟩
    · have hne : b ≠ c := fun z => q (En.apart n x c (z ▸ hb) hc)
      exact ⟨⟨o, (hs'.2 b hne).trans e1, by simpa [q] using e1'⟩, e3, e4⟩
  · rw [set_get hi] at h2
    split at h2
    · rename_i q; subst q
      rw [hx] at h1
      cases h1
      cases h2
      exact ⟨v, rv.keep K, .inr ⟨.inl hk, ⟨c, hc⟩, by simp⟩⟩
    · rename_i q
      refine x1_2 (En.var j y b h1 h2) fun u ru hu => ?_
      refine ⟨u, ru.keep K, hu.imp id fun z => ⟨z.1, z.2.1, ?_⟩⟩
      have : y ≠ x := fun z => q (En.inj i j x hx (z ▸ h1))
      simp [this, z.2.2]
end
section
variable {S : Stat} {pv : List Addr × List Addr} {h : Heap} {M : Mp} {H : AH} {v : Value} {a : AV}
theorem no_some {α : Type} {x : α} {P : Prop} (h : (none : Option α) = some x) : P := nomatch h
theorem ls_shape {xs : List AV} (e : lsOf H a = some xs) : a = .lst xs ∨ ∃ n, a = .ref n ∧ H[n]? = some (.lst xs) := by
  cases a <;> first | exact no_some e | skip
  · cases e; exact .inl rfl
  · rename_i n
    cases q : H[n]? with
    | none => rw [lsOf_at q] at e; cases e
    | some ao =>
      rw [lsOf_at q] at e
      cases ao <;> cases e
      exact .inr ⟨n, rfl, q⟩
theorem dc_shape {n : Nat} {es : List (Key × AV)} (e : dcOf H a = some (n, es)) : a = .ref n ∧ (H[n]? = some (.dict es) ∨ H[n]? = some (.ldict es)) := by
  cases a <;> first | exact no_some e | skip
  rename_i n
  cases q : H[n]? with
  | none => rw [dcOf_at q] at e; cases e
  | some ao =>
    rw [dcOf_at q] at e
    cases ao <;> cases e
    · exact ⟨rfl, .inl q⟩
    · exact ⟨rfl, .inr q⟩
theorem ls_of {xs : List AV} (R : Rep S pv h M H) (r : VRel (wdOf S pv h M) v a) (e : lsOf H a = some xs) : ∃ l vs n, v = .ref l ∧ IsL h l vs n ∧ VRels (wdOf S pv h M) vs.toList xs := by
  rcases ls_shape e with rfl | ⟨n, rfl, q⟩
  · refine x3_4 (r.inv) fun l vs n hv ho _ rs => ?_
    exact ⟨l, vs, n, hv, ho, rs⟩
  · refine x1_2 (r.inv) fun p hv z => ?_
    obtain ⟨_, vs, n, ho, hr⟩ := R.obj _ _ _ z q
    exact ⟨p.1, vs, n, hv, ho, hr⟩
theorem dc_of {n : Nat} {es : List (Key × AV)} (R : Rep S pv h M H) (r : VRel (wdOf S pv h M) v a) (e : dcOf H a = some (n, es)) :
    ∃ (p : Addr × Addr) (kvs : List (Key × Value)), v = .ref p.1 ∧ M[n]? = some p ∧ p.2 = p.1 ∧ h.DictOf (kk S.prog S.w) p.1 kvs ∧ kvs.map (·.1) = es.map (·.1) ∧ VRels (wdOf S pv h M) (kvs.map (·.2)) (es.map (·.2)) ∧ ∀ e ∈ es, e.1.ok = true := by
  obtain ⟨rfl, q⟩ := dc_shape e
  refine x1_2 (r.inv) fun p hv z => ?_
  rcases q with q | q
  · obtain ⟨e2, kvs, hd⟩ := R.obj _ _ _ z q
    exact ⟨p, kvs, hv, z, e2, hd⟩
  · obtain ⟨e2, kvs, hd⟩ := R.obj _ _ _ z q
    exact ⟨p, kvs, hv, z, e2, hd⟩
end
section
variable {C : Cx} {s : Shared} {M : Mp} {H : AH} {v u : Value} {a b : AV}
theorem size_none (h : Heap) : h.get? h.objs.size = none := by
  cases e : h.get? h.objs.size with
  | none => rfl
  | some o => exact absurd (Heap.lt_size e) (Nat.lt_irrefl _)
theorem off_new (rp : Rep C.S C.pv s.heap M H) (L : Live C s.heap M) {r : Addr} (hr : s.heap.get? r = none) {h' : Heap} : ¬ (C.wd h' M).F r := fun q => q.elim (rp.off hr) (L.pv0 hr)
theorem new_list {mt : Bool} {h' : Heap} {r : Addr} {vs : Array Value} {n tk : Nat} {xs : List AV} {P : Value → Shared → Prop} (L : Live C s.heap M) (rp : Rep C.S C.pv s.heap M H) (k : ∀ b o, s.heap.get? b = some o → h'.get? b = some o) (hr : s.heap.get? r = none)
    (hl : IsL h' r vs n) (rl : VRels (C.wd s.heap M) vs.toList xs) {y : AV} {H' : AH} (e : newL mt xs H = .ok y H') : Post VRel C s M y H' (.ref r) { s with heap := h', toks := tk } := by
  cases mt with
  | false => cases e; have q := rl.keep (kp_ext k); exact post_grow rp k (.lst hl (off_new rp L hr) q.1 q.2) tk
  | true =>
    cases e
    have K := kp_new (S := C.S) (pv := C.pv) (M := M) (p := (r, r)) k hr hr
    refine ⟨M ++ [(r, r)], Step.new k hr hr, rp.newO (fun a q => L.priv a (.inr q)) (fun _ q => nomatch q) k hr hr ⟨rfl, vs, n, hl, rl.keep K⟩, ?_⟩
    refine .ref (p := (r, r)) (n := H.length) ?_
    show (M ++ [(r, r)])[H.length]? = _
    rw [← rp.len]; simp
theorem newL_exc {mt : Bool} {xs : List AV} : ∀ c H', newL mt xs H ≠ .exc c H' := fun c H' e => by cases mt <;> cases e
theorem ev_newL {mt : Bool} {xs : List AV} {t : Sem Value} (L : Live C s.heap M) (rp : Rep C.S C.pv s.heap M H) (h : ∀ {P : Value → Shared → Prop} {E : Value → Shared → Prop}, (∀ r vs n h' tk, (∀ b o, s.heap.get? b = some o → h'.get? b = some o) → s.heap.get? r = none → IsL h' r vs n → VRels (C.wd s.heap M) vs.toList xs → P (.ref r) { s with heap := h', toks := tk }) → wpAny C.S.M C.A t P E s) : Ev VRel C t s M (newL mt xs H) :=
  Ev.of (fun y H' e k => h fun r vs n h' tk k1 h0 hl rl => k _ _ (new_list (P := fun _ _ => True) L rp k1 h0 hl rl e)) newL_exc
theorem new_tup {o : Obj} {vs : Array Value} {n : Nat} {xs : List AV} (L : Live C s.heap M) (rp : Rep C.S C.pv s.heap M H) (r : VRels (C.wd s.heap M) vs.toList xs) (e : o = { cls := .type "tuple", data := .seq vs n }) : VRel (C.wd (s.heap.push o) M) (.ref s.heap.objs.size) (.tup xs) := by
  subst e
  have q := r.keep (kp_ext (h' := s.heap.push { cls := .type "tuple", data := .seq vs n }) fun b o e => Heap.get?_push_of_some _ e)
  exact .tup (Heap.get?_push_size _ rfl) (off_new rp L (size_none _)) q.1 q.2
theorem VRels.rep {w : Wd} {vs : List Value} {xs : List AV} (r : VRels w vs xs) : ∀ n : Nat, VRels w (List.replicate n vs).flatten (List.replicate n xs).flatten
  | 0 => .nil
  | n + 1 => by rw [List.replicate_succ, List.replicate_succ, List.flatten_cons, List.flatten_cons]; exact r.append (r.rep n)
theorem ev_mul_list {l : Addr} {vs : Array Value} {n : Nat} {xs : List AV} {j : Int} {t : Tok} (L : Live C s.heap M) (rp : Rep C.S C.pv s.heap M H) (hl : IsL s.heap l vs n) (rl : VRels (C.wd s.heap M) vs.toList xs) (hq : -1000 < j ∧ j < 1000 ∧ xs.length < 1000) : Ev VRel C (binaryOp .Mult (.ref l) (.int j t)) s M (.ok (.lst (List.replicate j.toNat xs).flatten) H) := by
  have hz : vs.size * j.toNat < 1000000 := by
    have h1 : vs.size ≤ 999 := by rw [rl.size]; lia
    have h2 : j.toNat ≤ 999 := by lia
    have := Nat.mul_le_mul h1 h2
    lia
  refine wpAny_binaryOp_repeat_ref (T := "list") (U := "int") (by decide) ⟨_, hl, rfl⟩ (fun s' => typeIs_int s' j t) noFill_list_mul F.fills_int_mul F.slot_int_rmul repeat_list F.slot_int_index.lookup
    (call_meets F.slot_int_rmul (typeIs_int s j t) F.entry_int_rmul (F.args_int_rmul_2 _ _) (int___rmul___int_list j t l vs n)
      ⟨hl, rfl, ⟨_, hl, rfl⟩, call_meets F.slot_list_mul ⟨_, hl, rfl⟩ F.entry_list_mul (F.args_list_mul_2 _ _)
        (AutoListH.list___mul___list_int_3 l vs n j t (by simp [Builtin.List.listFitsIndex]; lia) (by lia) (by simp [Builtin.List.listTooLong, sizeLine]; lia)) ⟨hl, ?_⟩⟩)
  refine new_list (mt := false) (P := fun _ _ => True) (n := 0) L rp (fun b o e => Heap.get?_push_of_some _ e) (size_none _) (Heap.get?_push_size _ rfl) ?_ rfl
  rw [listMul_foldl]
  simp only [List.nil_append]
  split
  · rename_i q
    have hv : vs = #[] := by simpa using q
    subst hv
    have : xs = [] := List.eq_nil_of_length_eq_zero (rl.1.symm.trans rfl)
    subst this
    simpa using VRels.nil
  · exact rl.rep _
theorem prim_add {mt : Bool} (L : Live C s.heap M) (rp : Rep C.S C.pv s.heap M H) (ra : VRel (C.wd s.heap M) v a) (rb : VRel (C.wd s.heap M) u b) : Ev VRel C (binaryOp .Add v u) s M (addA mt a b H) := by
  have lists : Ev VRel C (binaryOp .Add v u) s M (orBad (lsOf H a) fun xs => orBad (lsOf H b) fun ys => if xs.length + ys.length ≤ sizeLine then newL mt (xs ++ ys) H else .bad) := by
    refine Ev.orBad fun xs e1 => Ev.orBad fun ys e2 => Ev.ite fun hz => ?_
    refine x3_3 (ls_of rp ra e1) fun l vs n e3' hl rl => ?_; subst e3'
    refine x3_3 (ls_of rp rb e2) fun l' ws n' e3' hl' rl' => ?_; subst e3'
    refine ev_newL L rp fun k => P.add_list hl hl' (k _ (vs ++ ws) _ _ _ (fun b o e => Heap.get?_push_of_some _ e) (size_none _) (Heap.get?_push_size _ rfl) (by simpa using rl.append rl')) ?_
    rw [rl.size, rl'.size]; exact hz
  cases a with
  | int i =>
    refine Ev.asInt fun j e => ?_
    subst e
    obtain ⟨t, rfl⟩ := ra.inv
    obtain ⟨t', rfl⟩ := rb.inv
    exact add_int (post_tok rp (.int _ _) _)
  | str x =>
    refine Ev.asStr fun j e => Ev.ite fun hz => ?_
    subst e
    refine x1_2 (ra.inv) fun t e1' ok => ?_; subst e1'
    refine x1_2 (rb.inv) fun t' e1' ok' => ?_; subst e1'
    exact PyProof.Rows.add_str (fun t' tk => post_tok rp (.str _ _ (strOk_append ok ok')) _) hz
  | _ => exact lists
theorem prim_mul (L : Live C s.heap M) (rp : Rep C.S C.pv s.heap M H) (ra : VRel (C.wd s.heap M) v a) (rb : VRel (C.wd s.heap M) u b) : Ev VRel C (binaryOp .Mult v u) s M (mulA a b H) := by
  refine Ev.asInt fun j e => ?_
  subst e
  obtain ⟨t', rfl⟩ := rb.inv
  cases a with
  | int i => obtain ⟨t, rfl⟩ := ra.inv; exact Ev.ite fun hq => PyProof.Rows.mul_int (post_tok rp (.int _ _) _) (hq.elim (fun q => .of_left (intBits_le_64 q.1 q.2)) fun q => .of_right (intBits_le_64 q.1 q.2))
  | lst xs => refine x3_4 (ra.inv) fun l vs n e3' ho _ rs => ?_; subst e3'; exact Ev.ite fun hq => ev_mul_list L rp ho rs hq
  | _ => trivial
theorem prim_bin {mt : Bool} {op : Operator} (L : Live C s.heap M) (rp : Rep C.S C.pv s.heap M H) (ra : VRel (C.wd s.heap M) v a) (rb : VRel (C.wd s.heap M) u b) : Ev VRel C (binaryOp op v u) s M (binA mt op a b H) := by
  cases op with
  | Add => exact prim_add L rp ra rb
  | Mult => exact prim_mul L rp ra rb
  | Sub =>
    refine Ev.asInt fun i e1 => Ev.asInt fun j e2 => ?_
    subst e1 e2
    obtain ⟨t, rfl⟩ := ra.inv
    obtain ⟨t', rfl⟩ := rb.inv
    exact PyProof.Rows.sub_int (post_tok rp (.int _ _) _)
  | FloorDiv =>
    refine Ev.asInt fun i e1 => Ev.asInt fun j e2 => Ev.ite fun h => ?_
    subst e1 e2
    obtain ⟨t, rfl⟩ := ra.inv
    obtain ⟨t', rfl⟩ := rb.inv
    refine PyProof.Rows.floordiv_int (Int.ne_of_gt h.1) ?_ (.inl (PyProof.noPylong_small (by have := h.1; have := h.2; omega)))
    rw [Int.fdiv_eq_ediv_of_nonneg _ (Int.le_of_lt h.1)]
    exact post_tok rp (.int _ _) _
  | Mod =>
    refine Ev.asInt fun i e1 => Ev.asInt fun j e2 => Ev.ite fun h => ?_
    subst e1 e2
    obtain ⟨t, rfl⟩ := ra.inv
    obtain ⟨t', rfl⟩ := rb.inv
    refine PyProof.Rows.mod_int' (Int.ne_of_gt h.1) ?_
    rw [Int.fmod_eq_emod_of_nonneg _ (Int.le_of_lt h.1)]
    exact post_tok rp (.int _ _) _
  | _ => trivial
end
section
variable {S : Stat} {pv : List Addr × List Addr} {h : Heap} {M : Mp} {H : AH}
noncomputable def ReadsN (h : Heap) (n : Nat) (v : Value) (d : PyData) : Prop := ∃ as, Reads h v d as ∧ d.canLay0 = true ∧ d.depth ≤ n
theorem denL_reads {n : Nat} {f : AV → Option PyData} {w : Wd} : ∀ {xs : List AV} {vs : List Value} {ds : List PyData}, (∀ a d v, f a = some d → VRel w v a → ReadsN w.h n v d) → denL f xs = some ds → VRels w vs xs → ∃ bs, ReadsAll w.h vs ds bs ∧ PyData.canLayAll0 ds = true ∧ PyData.depthAll ds ≤ n
  | [], vs, ds, hf, e, r => by
    cases e
    obtain rfl := List.eq_nil_of_length_eq_zero r.1
    exact ⟨_, .nil, rfl, Nat.zero_le _⟩
  | a :: xs, vs, ds, hf, e, r => by
    refine x1_2 (Option.bind_eq_some_iff.mp e) fun d hd e => ?_
    refine x1_2 (Option.map_eq_some_iff.mp e) fun ds' hds e => ?_
    subst e
    cases vs with
    | nil => cases r.1
    | cons v vs =>
      obtain ⟨r1, r2⟩ := r.un
      refine x1_3 (hf a d v hd r1) fun as q1 q2 q3 => ?_
      refine x1_3 (denL_reads hf hds r2) fun bs p1 p2 p3 => ?_
      exact ⟨_, .cons q1 p1, by simp only [PyData.canLayAll0, q2, p2, Bool.and_self], by simp only [PyData.depthAll]; lia⟩
theorem den_reads (R : Rep S pv h M H) : ∀ (n : Nat) (a : AV) (d : PyData) (v : Value), den n H a = some d → VRel (wdOf S pv h M) v a → ReadsN h n v d
  | 0, _, _, _, e, _ => nomatch e
  | n + 1, a, d, v, e, r => by
    have ih : ∀ a d v, den n H a = some d → VRel (wdOf S pv h M) v a → ReadsN (wdOf S pv h M).h n v d := fun a d v => den_reads R n a d v
    have ls : ∀ {l : Addr} {vs : Array Value} {m : Nat} {xs : List AV}, IsL h l vs m → VRels (wdOf S pv h M) vs.toList xs → (denL (den n H) xs).map PyData.list = some d → ReadsN h (n + 1) (.ref l) d := fun ho rs e => by
      refine x1_2 (Option.map_eq_some_iff.mp e) fun ds hd e2' => ?_; subst e2'
      refine x1_3 (denL_reads ih hd rs) fun bs q1 q2 q3 => ?_
      exact ⟨_, .list ho rfl rfl q1, q2, by simp only [PyData.depth]; lia⟩
    cases a with
    | none => cases e; rw [show v = .none from r.inv]; exact ⟨_, .none, rfl, Nat.zero_le _⟩
    | bool b => cases e; rw [show v = .bool b from r.inv]; exact ⟨_, .bool b, rfl, Nat.zero_le _⟩
    | int i => cases e; obtain ⟨t, rfl⟩ := r.inv; exact ⟨_, .int i t, rfl, Nat.zero_le _⟩
    | str x => cases e; obtain ⟨t, rfl, ok⟩ := r.inv; exact ⟨_, .str x t, ok, Nat.zero_le _⟩
    | tup xs =>
      refine x3_4 (r.inv) fun l vs m e3' ho _ rs => ?_; subst e3'
      refine x1_2 (Option.map_eq_some_iff.mp e) fun ds hd e2' => ?_; subst e2'
      refine x1_3 (denL_reads ih hd rs) fun bs q1 q2 q3 => ?_
      exact ⟨_, .tuple ho rfl rfl q1, q2, by simp only [PyData.depth]; lia⟩
    | lst xs =>
      refine x3_4 (r.inv) fun l vs m e3' ho _ rs => ?_; subst e3'
      exact ls ho rs e
    | ref k =>
      refine x1_2 (r.inv) fun p e1' z => ?_; subst e1'
      cases q : H[k]? with
      | none => rw [den_at q] at e; cases e
      | some ao =>
        rw [den_at q] at e
        cases ao with
        | lst xs =>
          obtain ⟨_, vs, m, ho, rs⟩ := R.obj _ _ _ z q
          exact ls ho rs e
        | _ => cases e
    | rng a b => exact no_some e
    | exc c => exact no_some e
open Classical in
noncomputable def eqTo (h : Heap) (da : PyData) (y : Value) : Bool := if ∃ d as, Reads h y d as ∧ d.canLay0 = true ∧ PyData.eqv d da = true then true else false
theorem eqTo_is {h : Heap} {da d : PyData} {y : Value} {as : List Addr} (r : Reads h y d as) (l : d.canLay0 = true) : eqTo h da y = PyData.eqv d da := by
  unfold eqTo
  cases q : PyData.eqv d da with
  | true => rw [if_pos ⟨d, as, r, l, q⟩]
  | false =>
    rw [if_neg]
    rintro ⟨d', as', r', l', q'⟩
    rw [SeqAt.Reads.unique d' d y as' as l' r' r, q] at q'; cases q'
theorem any_eqTo {h : Heap} {da : PyData} : ∀ {vs : List Value} {ds : List PyData} {as : List Addr}, ReadsAll h vs ds as → PyData.canLayAll0 ds = true → vs.any (eqTo h da) = (ds.any fun d => PyData.eqv d da) ∧ ∀ y ∈ vs, ∃ d as, Reads h y d as ∧ d.canLay0 = true
  | _, _, _, .nil, _ => ⟨rfl, fun _ h => nomatch h⟩
  | _, _, _, .cons r rs, l => by
    simp only [PyData.canLayAll0, Bool.and_eq_true] at l
    obtain ⟨h1, h2⟩ := any_eqTo (da := da) rs l.2
    refine ⟨by simp only [List.any_cons, eqTo_is r l.1, h1], fun y hy => ?_⟩
    rcases List.mem_cons.mp hy with rfl | hy
    · exact ⟨_, _, r, l.1⟩
    · exact h2 y hy
end
theorem key_is {w : Wd} {v : Value} {a : AV} {k : Key} (r : VRel w v a) (e : keyOf a = some k) : k.is v = true ∧ k.ok = true := by
  cases a <;> first | exact no_some e | skip
  · cases e; obtain ⟨t, rfl⟩ := r.inv; exact ⟨by simp [Key.is, Value.isInt], rfl⟩
  · cases e; obtain ⟨t, rfl, ok⟩ := r.inv; exact ⟨by simp [Key.is, Value.isStrOf], ok⟩
theorem zip_valueAt {w : Wd} : ∀ {kvs : List (Key × Value)} {es : List (Key × AV)}, kvs.map (·.1) = es.map (·.1) → VRels w (kvs.map (·.2)) (es.map (·.2)) → ∀ k,
    (match es.lookup k with | some a => ∃ v, valueAt kvs k = some v ∧ VRel w v a | none => valueAt kvs k = none)
  | [], [], _, _, k => rfl
  | [], _ :: _, e, _, _ => by cases e
  | _ :: _, [], e, _, _ => by cases e
  | (k₁, v) :: kvs, (k₂, a) :: es, e, r, k => by
    obtain ⟨r, rs⟩ := r.un
    injection e with e1 e
    have e1 : k₁ = k₂ := e1
    subst e1
    have ih := zip_valueAt e rs k
    by_cases q : k = k₁
    · subst q; simp only [List.lookup_cons, beq_self_eq_true, valueAt, List.find?_cons, decide_true]; exact ⟨v, rfl, r⟩
    · have hb : (k == k₁) = false := by simpa using q
      have hb' : (decide (k₁ = k)) = false := by simpa using fun e => q e.symm
      simp only [List.lookup_cons, hb, valueAt, List.find?_cons, hb']
      exact ih
theorem lookup_any (es : List (Key × AV)) (k : Key) : (es.any fun e => decide (e.1 = k)) = (es.lookup k).isSome := by
  induction es with
  | nil => rfl
  | cons e r ih =>
    obtain ⟨k', a⟩ := e
    by_cases q : k = k'
    · subst q; simp
    · have hb : (k == k') = false := by simpa using q
      have hb' : (decide (k' = k)) = false := by simpa using fun e => q e.symm
      simp only [List.any_cons, hb', Bool.false_or, List.lookup_cons, hb, ih]
theorem valueAt_isSome {w : Wd} {kvs : List (Key × Value)} {es : List (Key × AV)} (e : kvs.map (·.1) = es.map (·.1)) (r : VRels w (kvs.map (·.2)) (es.map (·.2))) (k : Key) : (valueAt kvs k).isSome = es.any fun e => decide (e.1 = k) := by
  rw [lookup_any]
  have := zip_valueAt e r k
  split at this
  · rename_i a q; obtain ⟨w, hw, _⟩ := this; rw [hw, q]; rfl
  · rename_i q; rw [this, q]; rfl
theorem Live.notSys {C : Cx} {h : Heap} {M : Mp} (L : Live C h M) {r : Addr} (f : foot M r) : (r == sysModules) = false := by
  have h1 := L.new r f
  obtain ⟨mm, ⟨o, es, ep, ho, _⟩, _⟩ := C.S.seer.mods
  simp only [beq_eq_false_iff_ne]
  intro e
  subst e
  rw [h1] at ho; cases ho
section
variable {C : Cx} {s : Shared} {M : Mp} {H : AH} {v u : Value} {a b : AV}
theorem ltA_shape {a b : AV} {r : Bool} (e : ltA a b = some r) : (∃ i j, a = .int i ∧ b = .int j ∧ r = decide (i < j)) ∨ ∃ x y, a = .str x ∧ b = .str y ∧ r = decide (x.cps.toList < y.cps.toList) := by
  cases a <;> first | exact no_some e | skip
  · cases b <;> first | exact no_some e | skip
    exact .inl ⟨_, _, rfl, rfl, (Option.some.inj e).symm⟩
  · cases b <;> first | exact no_some e | skip
    exact .inr ⟨_, _, rfl, rfl, (Option.some.inj e).symm⟩
theorem leA_shape {a b : AV} {r : Bool} (e : leA a b = some r) : (∃ i j, a = .int i ∧ b = .int j ∧ r = decide (i ≤ j)) ∨ ∃ x y, a = .str x ∧ b = .str y ∧ r = !decide (y.cps.toList < x.cps.toList) := by
  cases a <;> first | exact no_some e | skip
  · cases b <;> first | exact no_some e | skip
    exact .inl ⟨_, _, rfl, rfl, (Option.some.inj e).symm⟩
  · cases b <;> first | exact no_some e | skip
    exact .inr ⟨_, _, rfl, rfl, (Option.some.inj e).symm⟩
theorem isA_plain {w : Wd} {r : Bool} (ra : VRel w v a) (rb : VRel w u b) (e : isA a b = some r) : plainIs v u = true ∧ r = (v == u) := by
  cases b <;> first | exact no_some e | skip
  · rw [show u = .none from rb.inv, ← Option.some.inj e]
    cases ra <;> exact ⟨rfl, rfl⟩
  · rename_i y
    rw [show u = .bool y from rb.inv, ← Option.some.inj e]
    cases ra <;> first | exact ⟨rfl, rfl⟩ | (rename_i x; cases x <;> cases y <;> exact ⟨rfl, rfl⟩)
theorem prim_lt {r : Bool} {P : Value → Shared → Prop} {E : Value → Shared → Prop} (ra : VRel (C.wd s.heap M) v a) (rb : VRel (C.wd s.heap M) u b) (e : ltA a b = some r) (h : P (.bool r) s) : wpAny C.S.M C.A (compareOp .Lt v u) P E s ∧ wpAny C.S.M C.A (compareOp .Gt u v) P E s := by
  rcases ltA_shape e with ⟨i, j, rfl, rfl, rfl⟩ | ⟨x, y, rfl, rfl, rfl⟩
  · obtain ⟨_, rfl⟩ := ra.inv; obtain ⟨_, rfl⟩ := rb.inv; exact ⟨PyProof.Rows.lt_int h, PyProof.Rows.gt_int h⟩
  · obtain ⟨_, rfl, _⟩ := ra.inv; obtain ⟨_, rfl, _⟩ := rb.inv; exact ⟨PyProof.Rows.lt_str h, PySem.P.gt_str h⟩
theorem prim_le {r : Bool} {P : Value → Shared → Prop} {E : Value → Shared → Prop} (ra : VRel (C.wd s.heap M) v a) (rb : VRel (C.wd s.heap M) u b) (e : leA a b = some r) (h : P (.bool r) s) : wpAny C.S.M C.A (compareOp .LtE v u) P E s ∧ wpAny C.S.M C.A (compareOp .GtE u v) P E s := by
  rcases leA_shape e with ⟨i, j, rfl, rfl, rfl⟩ | ⟨x, y, rfl, rfl, rfl⟩
  · obtain ⟨_, rfl⟩ := ra.inv; obtain ⟨_, rfl⟩ := rb.inv; exact ⟨PyProof.Rows.le_int h, PyProof.Rows.ge_int h⟩
  · obtain ⟨_, rfl, _⟩ := ra.inv; obtain ⟨_, rfl, _⟩ := rb.inv; exact ⟨PySem.P.le_str h, PySem.P.ge_str h⟩
theorem prim_eq {r : Bool} {P : Value → Shared → Prop} {E : Value → Shared → Prop} (L : Live C s.heap M) (rp : Rep C.S C.pv s.heap M H) (ra : VRel (C.wd s.heap M) v a) (rb : VRel (C.wd s.heap M) u b) (e : eqA H a b = some r) : (P (.bool r) s → wpAny C.S.M C.A (compareOp .Eq v u) P E s) ∧ (P (.bool (!r)) s → wpAny C.S.M C.A (compareOp .NotEq v u) P E s) := by
  refine x1_2 (Option.bind_eq_some_iff.mp e) fun da h1 e => ?_
  refine x1_2 (Option.map_eq_some_iff.mp e) fun db h2 e => ?_
  refine x1_3 (den_reads rp _ _ _ _ h1 ra) fun as r1 l1 d1 => ?_
  refine x1_3 (den_reads rp _ _ _ _ h2 rb) fun bs r2 l2 d2 => ?_
  have hu : C.A.units + min da.depth db.depth < cLine := by have := L.units; have : deep = 20 := rfl; lia
  subst e
  exact ⟨SeqAt.compareEq_reads r1 r2 l1 l2 hu, SeqAt.compareNe_reads r1 r2 l1 l2 hu⟩
theorem prim_in {r : Bool} {P : Value → Shared → Prop} {E : Value → Shared → Prop} (L : Live C s.heap M) (rp : Rep C.S C.pv s.heap M H) (ra : VRel (C.wd s.heap M) v a) (rb : VRel (C.wd s.heap M) u b) (e : inA H a b = some r) :
    ((∀ t, P (.bool r) { s with toks := t }) → wpAny C.S.M C.A (compareOp .In v u) P E s) ∧ ((∀ t, P (.bool (!r)) { s with toks := t }) → wpAny C.S.M C.A (compareOp .NotIn v u) P E s) := by
  unfold inA at e
  split at e
  · rename_i n es q
    refine x1_2 (Option.map_eq_some_iff.mp e) fun k hk e2' => ?_; subst e2'
    refine x2_7 (dc_of rp rb q) fun p kvs e2' z _ hm e1 e2 _ => ?_; subst e2'
    have hs := L.notSys (foot_at z).1
    rw [← valueAt_isSome e1 e2 k]
    exact ⟨fun h => wpAny_in_of (knd := kk C.S.prog C.S.w) (key_is ra hk).1 hs hm.mapOf (h _), fun h => wpAny_notIn_of (knd := kk C.S.prog C.S.w) (key_is ra hk).1 hs hm.mapOf (h _)⟩
  · split at e
    · rename_i xs q
      refine x1_2 (Option.bind_eq_some_iff.mp e) fun da h1 e => ?_
      refine x1_2 (Option.map_eq_some_iff.mp e) fun ds h2 e2' => ?_; subst e2'
      refine x3_3 (ls_of rp rb q) fun l vs n e3' hl rl => ?_; subst e3'
      refine x1_3 (den_reads rp _ _ _ _ h1 ra) fun as rd la d1 => ?_
      refine x1_3 (denL_reads (fun a d v => den_reads rp deep a d v) h2 rl) fun bs rds lds _ => ?_
      obtain ⟨ea, hmem⟩ := any_eqTo (da := da) rds lds
      have he : ∀ y, y ∈ vs → SeqAt.EqAt C.A.in1 s y v (eqTo s.heap da y) := fun y hy => by
        refine x2_2 (hmem y (by simpa using hy)) fun d' as' r' l' => ?_
        have e' : eqTo s.heap da y = PyData.eqv d' da := eqTo_is r' l'
        rw [e']
        refine SeqAt.eqAt_reads d' da C.A.in1 s y v as' as r' rd l' la ?_
        have := L.units
        show C.A.units + 1 + min d'.depth da.depth < cLine
        have := Nat.min_le_right d'.depth da.depth
        have : deep = 20 := rfl
        lia
      have ea : vs.any (eqTo s.heap da) = ds.any fun d => PyData.eqv d da := by rw [← Array.any_toList]; exact ea
      rw [← ea]
      exact ⟨fun h => SeqAt.in_listAt _ hl.isList he (h s.toks), fun h => SeqAt.notIn_listAt _ hl.isList he (h s.toks)⟩
    · cases e
theorem prim_cmp {op : CmpOp} {r : Bool} {P : Value → Shared → Prop} {E : Value → Shared → Prop} (L : Live C s.heap M) (rp : Rep C.S C.pv s.heap M H) (ra : VRel (C.wd s.heap M) v a) (rb : VRel (C.wd s.heap M) u b) (e : cmpA H op a b = some r) (h : ∀ t, P (.bool r) { s with toks := t }) :
    wpAny C.S.M C.A (compareOp op v u) P E s := by
  have h' : P (.bool r) s := h s.toks
  cases op with
  | Lt => exact (prim_lt ra rb e h').1
  | LtE => exact (prim_le ra rb e h').1
  | Gt => exact (prim_lt rb ra e h').2
  | GtE => exact (prim_le rb ra e h').2
  | Eq => exact (prim_eq L rp ra rb e).1 h'
  | NotEq => obtain ⟨r', e', rfl⟩ := Option.map_eq_some_iff.mp e; exact (prim_eq L rp ra rb e').2 h'
  | Is => exact wpAny_is_plain (isA_plain ra rb e).1 ((isA_plain ra rb e).2 ▸ h')
  | IsNot => obtain ⟨r', e', rfl⟩ := Option.map_eq_some_iff.mp e; exact wpAny_isNot_plain (isA_plain ra rb e').1 ((isA_plain ra rb e').2 ▸ h')
  | In => exact (prim_in L rp ra rb e).1 h
  | NotIn => obtain ⟨r', e', rfl⟩ := Option.map_eq_some_iff.mp e; exact (prim_in L rp ra rb e').2 h
end
theorem pick_range {α : Type} (xs : List α) (a : Nat) : ∀ c : Nat, a + c ≤ xs.length → ((List.range c).map fun k => a + k).filterMap (fun i => xs[i]?) = (xs.drop a).take c
  | 0, _ => by simp
  | c + 1, h => by
    rw [List.range_succ, List.map_append, List.filterMap_append, pick_range xs a c (by lia)]
    have h1 : xs[a + c]? = some xs[a + c] := List.getElem?_eq_getElem (by lia)
    have h2 : (xs.drop a)[c]? = some xs[a + c] := by rw [List.getElem?_drop]; exact h1
    rw [List.take_add_one, h2]
    simp [h1]
theorem sliceRange_one (a b : Nat) : sliceRange a b 1 = (List.range (b - a)).map fun k => a + k := by
  unfold sliceRange
  have : (if (1 : Int) > 0 then (if (a : Int) < b then ((b : Int) - a + 1 - 1) / 1 else 0) else (if (a : Int) > b then ((a : Int) - b - 1 - 1) / (-1) else 0)).toNat = b - a := by
    simp only [show (1 : Int) > 0 by decide, if_true]
    split <;> lia
  simp only [this]
  refine List.map_congr_left fun k _ => ?_
  lia
theorem clip_eq (k : Int) (n : Nat) : ((max 0 (min (if k < 0 then k + n else k) (n : Int)))) = ((clip (some k) n 0 : Nat) : Int) := by
  unfold clip
  simp only
  split <;> split <;> lia
theorem clip_le (k : Option Int) (n d : Nat) (h : d ≤ n) : clip k n d ≤ n := by
  unfold clip
  split
  · exact h
  · split
    · split <;> lia
    · split <;> lia
theorem slice_cut {α : Type} (xs : List α) (lo hi : Option Int) (a b : Int) (ha : a = (clip lo xs.length 0 : Nat)) (hb : b = (clip hi xs.length xs.length : Nat)) :
    (sliceRange a b 1).filterMap (fun i => xs[i]?) = cut xs lo hi := by
  subst ha hb
  rw [sliceRange_one]
  unfold cut
  have h1 := clip_le lo xs.length 0 (Nat.zero_le _)
  have h2 := clip_le hi xs.length xs.length (Nat.le_refl _)
  refine pick_range xs _ _ ?_
  omega
theorem bounds_cut (lo hi : Option Int) (n : Nat) : sliceBounds lo hi none n = (((clip lo n 0 : Nat) : Int), ((clip hi n n : Nat) : Int), 1) := by
  unfold sliceBounds
  cases lo <;> cases hi <;> simp only [Option.getD_none, show (1 : Int) > 0 by decide, if_true]
  · rfl
  · rename_i k; rw [clip_eq k n]; rfl
  · rename_i k; rw [clip_eq k n]; rfl
  · rename_i k k'; rw [clip_eq k n, clip_eq k' n]; rfl
theorem strSlice_cut (lo hi : Option Int) (n : Nat) : Builtin.Str.strSliceIndices lo hi 1 n = sliceRange ((clip lo n 0 : Nat) : Int) ((clip hi n n : Nat) : Int) 1 := by
  unfold Builtin.Str.strSliceIndices
  cases lo <;> cases hi <;> simp only [show (1 : Int) > 0 by decide, if_true]
  · rfl
  · rename_i k; rw [clip_eq k n]; rfl
  · rename_i k; rw [clip_eq k n]; rfl
  · rename_i k k'; rw [clip_eq k n, clip_eq k' n]; rfl
theorem idx_seq {k : Int} {n m : Nat} (h : idxA k n = some m) : seqIndex? k n = some m := by
  unfold idxA at h
  simp only [seqIndex?]
  split at h
  · split at h
    · cases h
      have e : (if k < 0 then k + (n : Int) else k) = k := if_neg (by lia)
      rw [e, if_pos (by simp; lia)]
    · cases h
  · split at h
    · cases h
      have e : (if k < 0 then k + (n : Int) else k) = k + n := if_pos (by lia)
      rw [e, if_pos (by simp; lia)]
    · cases h
theorem small_lt {k : Int} (h : small k = true) : -(2 ^ 62 : Int) < k ∧ k < 2 ^ 62 := by
  unfold small at h
  rw [Bool.and_eq_true, decide_eq_true_eq, decide_eq_true_eq] at h
  exact h
theorem at_shape {k : Int} {xs : List AV} {v : AV} (h : atA k xs = some v) : (-(2 ^ 62 : Int) < k ∧ k < 2 ^ 62) ∧ ∃ n, idxA k xs.length = some n ∧ xs[n]? = some v := by
  unfold atA at h
  split at h
  · rename_i q
    refine x1_2 (Option.bind_eq_some_iff.mp h) fun n h1 h2 => ?_
    exact ⟨small_lt q, n, h1, h2⟩
  · cases h
section
variable {C : Cx} {s : Shared} {M : Mp} {H : AH} {v u : Value} {a b : AV}
theorem prim_sub (L : Live C s.heap M) (rp : Rep C.S C.pv s.heap M H) (ra : VRel (C.wd s.heap M) v a) (rb : VRel (C.wd s.heap M) u b) : Ev VRel C (getItem v u) s M (subA a b H) := by
  unfold subA
  split
  · rename_i n es q
    refine Ev.orBad fun k hk => Ev.orBad fun x hx => ?_
    refine x2_7 (dc_of rp ra q) fun p kvs e2' z _ hm e1 e2 _ => ?_; subst e2'
    have := zip_valueAt e1 e2 k
    rw [hx] at this
    refine x1_2 (this) fun w hw rw' => ?_; try clear this
    exact wpAny_getItem_of (knd := kk C.S.prog C.S.w) (key_is rb hk).1 hm.mapOf hw (post_tok rp rw' _)
  · refine Ev.asInt fun k e => ?_
    subst e
    obtain ⟨t, rfl⟩ := rb.inv
    have lists : Ev VRel C (getItem v (.int k t)) s M (orBad (lsOf H a) fun xs => orBad (atA k xs) fun v => .ok v H) := by
      refine Ev.orBad fun xs e => Ev.orBad fun y hy => ?_
      obtain ⟨⟨lo, hi⟩, n, hn, hx⟩ := at_shape hy
      refine x3_3 (ls_of rp ra e) fun l vs m e3' hl rl => ?_; subst e3'
      refine x1_2 (rl.get n hx) fun y hy ry => ?_
      by_cases hk : 0 ≤ k
      · have : n = k.toNat := by unfold idxA at hn; rw [if_pos hk] at hn; split at hn <;> simp at hn; exact hn.symm
        subst this
        exact wpAny_getItem_list hl.isList hk (by lia) (by simpa using hy) (post_here rp ry)
      · have h1 : 0 ≤ k + xs.length ∧ n = (k + xs.length).toNat := by
          unfold idxA at hn; rw [if_neg hk] at hn; split at hn <;> simp at hn; exact ⟨by assumption, hn.symm⟩
        have hs := rl.size
        refine wpAny_getItem_list_neg hl.isList (by lia) (by rw [hs]; lia) (by lia) ?_ (post_here rp ry)
        rw [hs, ← h1.2]; simpa using hy
    cases a with
    | tup xs =>
      refine Ev.orBad fun y hy => ?_
      obtain ⟨⟨lo, hi⟩, n, hn, hx⟩ := at_shape hy
      refine x3_4 (ra.inv) fun l vs m e3' ho _ rl => ?_; subst e3'
      refine x1_2 (rl.get n hx) fun y hy ry => ?_
      exact P.getItem_tuple ho (by lia) (by lia) (by rw [rl.size]; exact idx_seq hn) (by simpa using hy) (post_here rp ry)
    | str x =>
      refine Ev.ite fun q => Ev.orBad fun c hc => ?_
      obtain ⟨lo, hi⟩ := small_lt q
      refine x1_2 (Option.bind_eq_some_iff.mp hc) fun n hn hx => ?_
      refine x1_2 (ra.inv) fun t' e1' ok => ?_; subst e1'
      refine PyProof.Rows.getItem_str (c := c) (by simp; lia) (by rw [idx_seq hn]; exact hx) (post_tok rp (.str _ _ (strOk_sub ok ?_)) _)
      intro d hd
      simp only [List.mem_singleton] at hd
      subst hd
      exact List.mem_of_getElem? (i := n) (by rw [Array.getElem?_toList]; exact hx)
    | _ => exact lists
theorem optI_part {w : Wd} {o : Option Int} (r : VRel w v a) (e : optI a = some o) : ∃ p : Option (Int × Tok), v = partValue p ∧ p.map (·.1) = o ∧ IsPart v o := by
  cases a <;> first | exact no_some e | skip
  · cases e; rw [show v = .none from r.inv]; exact ⟨none, rfl, rfl, .none⟩
  · rename_i k
    obtain ⟨t, rfl⟩ := r.inv
    replace e : (if small k = true then some (some k) else none) = some o := e
    split at e <;> cases e
    exact ⟨some (_, t), rfl, rfl, .int _ _⟩
theorem pick_toList (vs : Array Value) (is : List Nat) : (is.filterMap (vs[·]?)).toArray.toList = is.filterMap fun i => vs.toList[i]? := by simp
theorem prim_slc {mt : Bool} {w₁ w₂ w₃ : Value} {lo hi st : AV} (L : Live C s.heap M) (rp : Rep C.S C.pv s.heap M H) (ra : VRel (C.wd s.heap M) v a) (r1 : VRel (C.wd s.heap M) w₁ lo) (r2 : VRel (C.wd s.heap M) w₂ hi) (r3 : VRel (C.wd s.heap M) w₃ st)
    {g : Addr} (hg : s.heap.IsSliceOf g w₁ w₂ w₃) : Ev VRel C (getItem v (.ref g)) s M (slcA mt a lo hi st H) := by
  refine Ev.orBad fun l h1 => Ev.orBad fun u h2 => Ev.orBad fun t h3 => ?_
  refine x1_3 (optI_part r1 h1) fun p1 e1' e1 i1 => ?_; subst e1'
  refine x1_3 (optI_part r2 h2) fun p2 e1' e2 i2 => ?_; subst e1'
  refine x1_3 (optI_part r3 h3) fun p3 e1' e3 i3 => ?_; subst e1'
  have lists : Ev VRel C (getItem v (.ref g)) s M (orBad (lsOf H a) fun xs => if xs.length ≤ sizeLine ∧ t ≠ some 0 then newL mt (cutL l u t xs) H else .bad) := by
    refine Ev.orBad fun xs e => Ev.ite fun hz => ?_
    refine x3_3 (ls_of rp ra e) fun k vs m e3' hl rl => ?_; subst e3'
    refine ev_newL L rp fun k => wpAny_getItem_list_slice hl.isList hg i1 i2 i3 hz.2 (k _ _ 0 _ _ (fun b o e => Heap.get?_push_of_some _ e) (size_none _) (Heap.get?_push_size _ rfl) ?_) (by rw [rl.size]; exact hz.1)
    have key : VRels (C.wd s.heap M) (slicePick vs l u t).toList (pickL xs l u t) := by
      unfold slicePick pickL
      rw [pick_toList, ← rl.size]
      exact rl.pick _
    cases t with
    | some t => exact key
    | none =>
      have : pickL xs l u none = cut xs l u := by
        unfold pickL
        rw [bounds_cut]
        exact slice_cut xs l u _ _ rfl rfl
      show VRels _ _ (cut xs l u)
      rw [← this]; exact key
  cases a with
  | str x =>
    cases t with
    | some _ => trivial
    | none =>
    refine Ev.ite fun hz => ?_
    refine x1_2 (ra.inv) fun t' e1' ok => ?_; subst e1'
    refine x1_3 (hg) fun o ho hc hd => ?_; try clear hg
    have hsub : ∀ c ∈ cut x.cps.toList l u, c ∈ x.cps.toList := fun c hc => List.mem_of_mem_drop (List.mem_of_mem_take hc)
    have hok : PyData.strOk (⟨(cut x.cps.toList l u).toArray⟩ : Str) = true := strOk_sub ok (by simpa using hsub)
    have e3 : p3 = none := by cases p3 <;> first | rfl | cases e3
    subst e3
    have hp : slicePicked x p1 p2 none = sliceRange ((clip l x.length 0 : Nat) : Int) ((clip u x.length x.length : Nat) : Int) 1 := by
      unfold slicePicked
      rw [e1, e2]
      exact strSlice_cut l u x.length
    have hlen : x.cps.toList.length = x.length := by simp [Str.length]
    have hc2 : (slicePicked x p1 p2 none).filterMap (x.cps[·]?) = cut x.cps.toList l u := by
      rw [hp, ← slice_cut x.cps.toList l u _ _ (by rw [hlen]) (by rw [hlen])]
      simp
    refine wpAny_getItem_str_slice (l := p1) (u := p2) (st := none) ⟨o, ho, hc, hd⟩ rfl ?_
    unfold sliceMade
    split
    · rename_i hh
      have hfull : cut x.cps.toList l u = x.cps.toList := by
        simp only [Option.map_none, Option.getD_none, Bool.and_eq_true, beq_iff_eq] at hh
        have h3 := hh.2
        rw [hp, sliceRange_one] at h3
        simp only [List.length_map, List.length_range] at h3
        have b1 := clip_le l x.length 0 (Nat.zero_le _)
        have b2 := clip_le u x.length x.length (Nat.le_refl _)
        unfold cut
        rw [hlen]
        have z1 : clip l x.length 0 = 0 ∨ x.length = 0 := by omega
        rcases z1 with z | z
        · rw [z] at h3 ⊢
          simp only [List.drop_zero]
          exact List.take_of_length_le (by omega)
        · have : x.cps.toList = [] := List.eq_nil_of_length_eq_zero (by omega)
          rw [this]; simp
      rw [hfull]
      exact post_here rp (.str _ _ ok)
    · rw [hc2]
      refine ⟨?_, post_tok rp (.str _ _ hok) _⟩
      show (cut x.cps.toList l u).toArray.size ≤ sizeLine
      rw [List.size_toArray]
      unfold cut
      rw [List.length_take, List.length_drop]
      omega
  | _ => exact lists
end
theorem intsAre_of {w : Wd} : ∀ {xs : List AV} {vs : List Value} {is : List Int}, VRels w vs xs → intsOf xs = some is → IntsAre vs is
  | [], vs, is, r, e => by cases e; obtain rfl := List.eq_nil_of_length_eq_zero r.1; exact .nil
  | x :: xs, vs, is, r, e => by
    cases vs with
    | nil => cases r.1
    | cons v vs =>
      obtain ⟨r1, r2⟩ := r.un
      cases x <;> first | exact no_some e | skip
      obtain ⟨t, rfl⟩ := r1.inv
      refine x1_2 (Option.map_eq_some_iff.mp e) fun is' h1 e2' => ?_; subst e2'
      exact .cons _ _ (intsAre_of r2 h1)
theorem ints_rel {w : Wd} : ∀ {vs : List Value} {is : List Int}, IntsAre vs is → VRels w vs (is.map .int)
  | _, _, .nil => .nil
  | _, _, .cons i t r => .cons (.int i t) (ints_rel r)
theorem items_keys {w : Wd} {kvs : List (Key × Value)} {es : List (Key × AV)} {acc : List Value} (e : kvs.map (·.1) = es.map (·.1)) (ok : ∀ e ∈ es, e.1.ok = true) (hlen : acc.length = kvs.length)
    (hP : ∀ (j : Nat) (v : Value), acc[j]? = some v → ∃ k x, kvs[j]? = some (k, x) ∧ k.is v = true) : VRels w acc (es.map (·.1.av)) := by
  refine ⟨by rw [hlen, List.length_map]; simpa using congrArg List.length e, fun i v x h1 h2 => ?_⟩
  refine x2_2 (hP i v h1) fun k y h3 h4 => ?_
  have h5 : (es.map (·.1))[i]? = some k := by rw [← e, List.getElem?_map, h3]; rfl
  rw [List.getElem?_map] at h2 h5
  refine x1_2 (Option.map_eq_some_iff.mp h2) fun en h6 e2' => ?_; subst e2'
  rw [h6] at h5
  cases h5
  have hk := ok en (List.mem_of_getElem? h6)
  have h4 : en.1.is v = true := h4
  generalize en.1 = k at h4 hk
  rcases Key.is_shape h4 with ⟨x, t, rfl, rfl⟩ | ⟨i, t, rfl, rfl⟩
  · exact .str x t hk
  · exact .int i t
theorem insI_perm (i : Int) : ∀ l : List Int, (insI i l).Perm (i :: l)
  | [] => .refl _
  | j :: r => by
    unfold insI
    split
    · exact .refl _
    · exact ((insI_perm i r).cons j).trans (.swap i j r)
theorem sortI_perm : ∀ l : List Int, (sortI l).Perm l
  | [] => .refl _
  | i :: r => (insI_perm i (sortI r)).trans ((sortI_perm r).cons i)
theorem insI_sorted (i : Int) : ∀ l : List Int, l.Pairwise (· ≤ ·) → (insI i l).Pairwise (· ≤ ·)
  | [], _ => by simp [insI]
  | j :: r, h => by
    obtain ⟨h1, h2⟩ := List.pairwise_cons.mp h
    unfold insI
    split
    · rename_i q
      refine List.pairwise_cons.mpr ⟨fun x hx => ?_, h⟩
      rcases List.mem_cons.mp hx with rfl | hx
      · exact q
      · exact Int.le_trans q (h1 x hx)
    · rename_i q
      refine List.pairwise_cons.mpr ⟨fun x hx => ?_, insI_sorted i r h2⟩
      rcases List.mem_cons.mp ((insI_perm i r).mem_iff.mp hx) with rfl | hx
      · lia
      · exact h1 x hx
theorem sortI_sorted : ∀ l : List Int, (sortI l).Pairwise (· ≤ ·)
  | [] => .nil
  | i :: r => insI_sorted i _ (sortI_sorted r)
theorem sorted_uniq {l : List Int} {m : List Int} (h : m.Perm l) (hs : m.Pairwise (· ≤ ·)) : m = sortI l :=
  List.Perm.eq_of_pairwise (fun a b _ _ h1 h2 => Int.le_antisymm h1 h2) hs (sortI_sorted l) (h.trans (sortI_perm l).symm)
section
variable {C : Cx} {s : Shared} {M : Mp} {H : AH} {v : Value} {a : AV}
theorem vrels1 {w : Wd} {vs : List Value} (r : VRels w vs [a]) : ∃ v, vs = [v] ∧ VRel w v a := by
  rcases vs with _ | ⟨v, _ | ⟨_, _⟩⟩
  · cases r.1
  · exact ⟨v, rfl, r.un.1⟩
  · cases r.1
theorem vrels2 {w : Wd} {vs : List Value} {b : AV} (r : VRels w vs [a, b]) : ∃ v u, vs = [v, u] ∧ VRel w v a ∧ VRel w u b := by
  cases vs with
  | nil => cases r.1
  | cons v vs => obtain ⟨u, rfl, r'⟩ := vrels1 r.un.2; exact ⟨v, u, rfl, r.un.1, r'⟩
theorem list_dict {mt : Bool} {n : Nat} {es : List (Key × AV)} (hh : C.A.handled = none) (L : Live C s.heap M) (rp : Rep C.S C.pv s.heap M H) (ra : VRel (C.wd s.heap M) v a) (e : dcOf H a = some (n, es)) (hz : es.length ≤ 1000000) : Ev VRel C (call (.type "list") [v]) s M (newL mt (es.map (·.1.av)) H) := by
  refine x2_7 (dc_of rp ra e) fun p kvs e2' z _ hm e1 e2 ok => ?_; subst e2'
  have hs := L.notSys (foot_at z).1
  obtain ⟨ep, hd⟩ := hm.dictAt
  have hlen : kvs.length = es.length := by simpa using congrArg List.length e1
  refine ev_newL L rp fun k => kdl_call (kdl_dict (knd := kk C.S.prog C.S.w) (kvs := kvs) (ep := ep) hs) hh hd (by rw [hlen, sizeLine_eq]; lia) fun h' tk acc c hk hl hacc => ?_
  refine k _ _ _ _ _ hk (size_none _) hl ?_
  exact items_keys e1 ok (by rw [Array.length_toList]; exact hacc.1) fun j v hv => hacc.2 j v (by rw [← Array.getElem?_toList]; exact hv)
theorem ints_len : ∀ (xs : List AV) (js : List Int), intsOf xs = some js → js.length = xs.length
  | [], js, h => by cases h; rfl
  | x :: xs, js, h => by
    cases x <;> first | exact no_some h | skip
    refine x1_2 (Option.map_eq_some_iff.mp h) fun js' h1 e2' => ?_; subst e2'
    exact congrArg (· + 1) (ints_len xs js' h1)
theorem sorted_dict {n : Nat} {es : List (Key × AV)} {is : List Int} (hh : C.A.handled = none) (L : Live C s.heap M) (rp : Rep C.S C.pv s.heap M H) (ra : VRel (C.wd s.heap M) v a) (e : dcOf H a = some (n, es)) (ei : intsOf (es.map (·.1.av)) = some is) (h64 : is.length < 64) :
    Ev VRel C (call (.builtin "sorted") [v]) s M (.ok (.lst ((sortI is).map .int)) H) := by
  refine x2_7 (dc_of rp ra e) fun p kvs e2' z _ hm e1 e2 ok => ?_; subst e2'
  have hs := L.notSys (foot_at z).1
  obtain ⟨ep, hd⟩ := hm.dictAt
  have hlen : kvs.length = es.length := by simpa using congrArg List.length e1
  have hl2 : is.length = es.length := by simpa using ints_len _ _ ei
  refine Calls.call_function_entry kind_sorted plain_sorted entry_sorted (args_sorted1 _) ?_
  unfold Builtin.«sorted»
  refine wpAny_bind (m := checkCount "sorted" 1 1 _) (wpAny_pure ?_)
  refine wpAny_bind (kdu_collect (A := C.A.in1) (kdl_dict (knd := kk C.S.prog C.S.w) (kvs := kvs) (ep := ep) hs) hh hd (by rw [hlen, ← hl2, sizeLine_eq]; lia) fun h' tk acc hk hacc => ?_)
  have hal : acc.toList.length = kvs.length := by rw [Array.length_toList]; exact hacc.1
  have hv : VRels (C.wd s.heap M) acc.toList (es.map (·.1.av)) := items_keys e1 ok hal fun j v hv => hacc.2 j v (by rw [← Array.getElem?_toList]; exact hv)
  have hI := intsAre_of hv ei
  refine wpAny_bind (wpAny_newList ?_ (by rw [hal, hlen, ← hl2, sizeLine_eq]; lia))
  have hoL : (h'.push (seqObj "list" acc.toList.toArray 0)).get? h'.objs.size = some (seqObj "list" acc.toList.toArray 0) := Heap.get?_push_size _ rfl
  refine wpAny_bind (wpAny_holding (wpAny_call_entry slot_list_sort ⟨_, hoL, rfl⟩ entry_list_sort (list_sort_tree hoL hI (by rw [hal, hlen, ← hl2]; exact h64) fun out ns' a1 a2 a3 => ⟨_, rfl, ?_⟩) (args_list_sort _)))
  refine wpAny_pure ⟨_, rfl, ?_⟩
  obtain ⟨ee, he⟩ := sortedHeap_at (out := out) hoL
  have hr0 : s.heap.get? h'.objs.size = none := by
    cases z : s.heap.get? h'.objs.size with
    | none => rfl
    | some o => exact absurd (Heap.lt_size (hk _ _ z)) (Nat.lt_irrefl _)
  have K : ∀ b o, s.heap.get? b = some o → (sortedHeap (h'.push (seqObj "list" acc.toList.toArray 0)) h'.objs.size acc.toList out).get? b = some o := fun b o z => by
    have z' := hk b o z
    have hlt := Heap.lt_size z'
    rw [sortedHeap_old (Nat.ne_of_lt hlt) (by rw [Heap.size_push]; exact Nat.lt_succ_of_lt hlt)]
    exact Heap.get?_push_of_some _ z'
  rw [← sorted_uniq a2 a3]
  exact new_list (mt := false) (P := fun _ _ => True) L rp K hr0 he (ints_rel a1) rfl
noncomputable def biV : Bi → Value
  | .len => .builtin "len"
  | .range => .type "range"
  | .list _ => .type "list"
  | .min => .builtin "min"
  | .max => .builtin "max"
  | .sorted => .builtin "sorted"
theorem len_ev {n : Nat} (L : Live C s.heap M) (rp : Rep C.S C.pv s.heap M H) (r : VRel (C.wd s.heap M) v a) (e : lenA H a = some n) (hn : n < 2 ^ 62) : Ev VRel C (call (.builtin "len") [v]) s M (.ok (.int n) H) := by
  have hn' : (n : Int) < 2 ^ 63 := by omega
  have ls : ∀ xs : List AV, n = xs.length → lsOf H a = some xs → Ev VRel C (call (.builtin "len") [v]) s M (.ok (.int n) H) := fun xs en el => by
    subst en
    refine x3_3 (ls_of rp r el) fun l vs m e3' ho rl => ?_; subst e3'
    exact PyProof.Rows.len_list ho.isList (by rw [rl.size]; omega) (by rw [rl.size]; exact post_tok rp (.int _ _) _)
  have dc : ∀ {n' : Nat} (es : List (Key × AV)), n = es.length → dcOf H a = some (n', es) → Ev VRel C (call (.builtin "len") [v]) s M (.ok (.int n) H) := fun {n'} es en el => by
    subst en
    refine x2_7 (dc_of rp r el) fun p kvs e2' z _ hm e1 e2 ok => ?_; subst e2'
    have hs := L.notSys (foot_at z).1
    have hlen : kvs.length = es.length := by simpa using congrArg List.length e1
    exact call_len_dict (knd := kk C.S.prog C.S.w) hs hm (by rw [hlen]; omega) (by rw [hlen]; exact post_tok rp (.int _ _) _)
  cases a <;> first | exact no_some e | skip
  · cases e; obtain ⟨t, rfl, ok⟩ := r.inv; exact PyProof.Rows.len_str (by omega) (post_tok rp (.int _ _) _)
  · cases e; obtain ⟨l, vs, m, rfl, ho, _, rl⟩ := r.inv; exact P.len_tuple ho (by rw [rl.size]; omega) (by rw [rl.size]; exact post_tok rp (.int _ _) _)
  · cases e; exact ls _ rfl rfl
  · rename_i k
    cases q : H[k]? with
    | none => rw [lenA_at q] at e; cases e
    | some ao =>
      rw [lenA_at q] at e
      cases ao with
      | lst xs => cases e; exact ls xs rfl (lsOf_at q)
      | dict es => cases e; exact dc es rfl (n' := k) (dcOf_at q)
      | ldict es => cases e; exact dc es rfl (n' := k) (dcOf_at q)
      | inst c fs => cases e
theorem Ev.hot {α β : Type} {R : RelT α β} {t : Sem α} {o : Out β} (L : Live C s.heap M) (h : C.A.handled = none → Ev R C t s M o) : Ev R C t s M (if C.hot = true then .bad else o) := by
  split
  · trivial
  · rename_i q; exact h (L.handled (by simpa using q))
theorem prim_bi {f : Bi} {as : List AV} {vals : List Value} (L : Live C s.heap M) (rp : Rep C.S C.pv s.heap M H) (ra : VRels (C.wd s.heap M) vals as) : Ev VRel C (call (biV f) vals) s M (biA C.hot f as H) := by
  rcases as with _ | ⟨a, _ | ⟨b, _ | ⟨_, _⟩⟩⟩
  · trivial
  · refine x1_2 (vrels1 ra) fun v e1' r => ?_; subst e1'
    cases f with
    | len => exact Ev.orBad fun n e => Ev.ite fun hn => len_ev L rp r e hn
    | range =>
      refine Ev.asInt fun n e => ?_
      subst e
      obtain ⟨t, rfl⟩ := r.inv
      exact call_range_1 (post_push rp (.rng (Heap.get?_push_size _ rfl) (off_new rp L (size_none _))) _)
    | list mt =>
      show Ev VRel C _ s M (match dcOf H a with | some (_, es) => if (!C.hot && decide (es.length ≤ 1000000)) = true then newL mt (es.map (·.1.av)) H else .bad | none => orBad (lsOf H a) fun xs => if xs.length ≤ sizeLine then newL mt xs H else .bad)
      split
      · rename_i e
        refine Ev.ite fun q => ?_
        rw [Bool.and_eq_true, Bool.not_eq_true', decide_eq_true_eq] at q
        exact list_dict (L.handled q.1) L rp r e q.2
      · refine Ev.orBad fun xs e => Ev.ite fun hz => ?_
        refine x3_3 (ls_of rp r e) fun l vs n e3' hl rl => ?_; subst e3'
        exact ev_newL L rp fun k => call_list_seq l (T := "list") (.inl rfl) hl rfl rfl (fun h' c hk hD => k _ _ _ _ _ hk (size_none _) hD rl) (by rw [rl.size]; exact hz)
    | sorted =>
      show Ev VRel C _ s M (match dcOf H a with | some (_, es) => orBad (intsOf (es.map (·.1.av))) fun is => if (!C.hot && decide (is.length < 64)) = true then .ok (.lst ((sortI is).map .int)) H else .bad | none => .bad)
      split
      · rename_i e
        refine Ev.orBad fun is ei => Ev.ite fun q => ?_
        rw [Bool.and_eq_true, Bool.not_eq_true', decide_eq_true_eq] at q
        exact sorted_dict (L.handled q.1) L rp r e ei q.2
      · trivial
    | _ => trivial
  · refine x2_3 (vrels2 ra) fun v u e2' r1 r2 => ?_; subst e2'
    refine Ev.asInt fun i e1 => Ev.asInt fun j e2 => ?_
    subst e1 e2
    obtain ⟨t, rfl⟩ := r1.inv
    obtain ⟨t', rfl⟩ := r2.inv
    cases f with
    | min =>
      refine Ev.hot L fun hh => min_two_ints hh fun h' tk hk => ?_
      split <;> exact post_grow rp hk (.int _ _) _
    | max =>
      refine Ev.hot L fun hh => max_two_ints hh fun h' tk hk => ?_
      split <;> exact post_grow rp hk (.int _ _) _
    | range => exact call_range_2 (post_push rp (.rng (Heap.get?_push_size _ rfl) (off_new rp L (size_none _))) _)
    | _ => trivial
  · trivial
end
theorem join_mem (sep : Str) : ∀ (ys : List Str), ∀ c ∈ (Str.join sep ys).cps.toList, c ∈ sep.cps.toList ∨ ∃ y ∈ ys, c ∈ y.cps.toList
  | [], c, hc => by simp [Str.join, Str.empty] at hc
  | [x], c, hc => .inr ⟨x, .head _, hc⟩
  | x :: y :: r, c, hc => by
    have e : Str.join sep (x :: y :: r) = x ++ sep ++ Str.join sep (y :: r) := rfl
    rw [e, Str.cps_append, Str.cps_append] at hc
    simp only [Array.toList_append, List.mem_append] at hc
    rcases hc with (hc | hc) | hc
    · exact .inr ⟨x, .head _, hc⟩
    · exact .inl hc
    · rcases join_mem sep (y :: r) c hc with h | ⟨z, hz, h⟩
      · exact .inl h
      · exact .inr ⟨z, .tail _ hz, h⟩
theorem join_ok {sep : Str} {ys : List Str} (hs : PyData.strOk sep = true) (hy : ∀ y ∈ ys, PyData.strOk y = true) : PyData.strOk (Txt.join sep ys) = true := by
  show PyData.strOk (Builtin.Str.glued sep ys) = true
  rw [StrLaws.glued_eq_join, strOk_iff]
  intro c hc
  rcases join_mem sep ys c hc with h | ⟨z, hz, h⟩
  · exact (strOk_iff.mp hs) c h
  · exact (strOk_iff.mp (hy z hz)) c h
theorem strs_vals {w : Wd} : ∀ {xs : List AV} {vs : List Value} {ys : List Str}, VRels w vs xs → strsOf xs = some ys → ∃ l : List (Str × Tok), vs = strValues l ∧ l.map (·.1) = ys ∧ ∀ y ∈ ys, PyData.strOk y = true
  | [], vs, ys, r, e => by cases e; obtain rfl := List.eq_nil_of_length_eq_zero r.1; exact ⟨[], rfl, rfl, fun _ h => nomatch h⟩
  | x :: xs, vs, ys, r, e => by
    cases vs with
    | nil => cases r.1
    | cons v vs =>
      obtain ⟨r1, r2⟩ := r.un
      cases x <;> first | exact no_some e | skip
      refine x1_2 (r1.inv) fun t e1' ok => ?_; subst e1'
      refine x1_2 (Option.map_eq_some_iff.mp e) fun ys' h1 e2' => ?_; subst e2'
      refine x1_3 (strs_vals r2 h1) fun l e1' h2 h3 => ?_; subst e1'
      exact ⟨(_, t) :: l, rfl, congrArg (_ :: ·) h2, fun y hy => by rcases List.mem_cons.mp hy with rfl | hy; exact ok; exact h3 y hy⟩
theorem zip_without {w : Wd} (k : Key) : ∀ {kvs : List (Key × Value)} {es : List (Key × AV)}, kvs.map (·.1) = es.map (·.1) → VRels w (kvs.map (·.2)) (es.map (·.2)) →
    (without kvs k).map (·.1) = (es.filter fun e => decide (e.1 ≠ k)).map (·.1) ∧ VRels w ((without kvs k).map (·.2)) ((es.filter fun e => decide (e.1 ≠ k)).map (·.2))
  | [], [], _, _ => ⟨rfl, .nil⟩
  | [], _ :: _, e, _ => by cases e
  | _ :: _, [], e, _ => by cases e
  | (k₁, v) :: kvs, (k₂, a) :: es, e, r => by
    obtain ⟨r, rs⟩ := r.un
    injection e with e1 e
    have e1 : k₁ = k₂ := e1
    subst e1
    have ih := zip_without k e rs
    unfold without at ih ⊢
    by_cases q : k₁ = k
    · simp only [List.filter_cons, q, ne_eq, not_true_eq_false, decide_false, Bool.false_eq_true, if_false]; exact ih
    · simp only [List.filter_cons, q, ne_eq, not_false_eq_true, decide_true, if_true, List.map_cons, ih.1, true_and]
      exact .cons r ih.2
theorem zip_stored {w : Wd} {k : Key} {v : Value} {a : AV} (rv : VRel w v a) {kvs : List (Key × Value)} {es : List (Key × AV)} (e : kvs.map (·.1) = es.map (·.1)) (r : VRels w (kvs.map (·.2)) (es.map (·.2))) :
    (stored kvs k v).map (·.1) = (setD es k a).map (·.1) ∧ VRels w ((stored kvs k v).map (·.2)) ((setD es k a).map (·.2)) := by
  have hany : (kvs.any fun kv => decide (kv.1 = k)) = es.any fun e => decide (e.1 = k) := by
    have h1 : (kvs.any fun kv => decide (kv.1 = k)) = (kvs.map (·.1)).any fun x => decide (x = k) := by rw [List.any_map]; rfl
    have h2 : (es.any fun kv => decide (kv.1 = k)) = (es.map (·.1)).any fun x => decide (x = k) := by rw [List.any_map]; rfl
    rw [h1, h2, e]
  unfold stored setD
  rw [hany]
  split
  · clear hany
    have : ∀ {kvs : List (Key × Value)} {es : List (Key × AV)}, kvs.map (·.1) = es.map (·.1) → VRels w (kvs.map (·.2)) (es.map (·.2)) →
        (kvs.map fun kv => if kv.1 = k then (kv.1, v) else kv).map (·.1) = (es.map fun e => if e.1 = k then (e.1, a) else e).map (·.1) ∧
        VRels w ((kvs.map fun kv => if kv.1 = k then (kv.1, v) else kv).map (·.2)) ((es.map fun e => if e.1 = k then (e.1, a) else e).map (·.2)) := by
      intro kvs
      induction kvs with
      | nil => intro es e r; cases es with
        | nil => exact ⟨rfl, .nil⟩
        | cons _ _ => simp at e
      | cons kv kvs ih =>
        intro es e r
        cases es with
        | nil => simp at e
        | cons en es =>
          obtain ⟨r, rs⟩ := r.un
          simp only [List.map_cons, List.cons.injEq] at e
          have := ih e.2 rs
          simp only [List.map_cons, e.1]
          by_cases q : en.1 = k
          · simp only [q, if_true, List.cons.injEq, true_and]; exact ⟨this.1, .cons rv this.2⟩
          · simp only [q, if_false, List.cons.injEq]; exact ⟨⟨e.1, this.1⟩, .cons r this.2⟩
    exact this e r
  · simp only [List.map_append, e, List.map_cons, List.map_nil, true_and]
    exact r.append (.cons rv .nil)
theorem setD_ok {es : List (Key × AV)} {k : Key} {a : AV} (h : ∀ e ∈ es, e.1.ok = true) (hk : k.ok = true) : ∀ e ∈ setD es k a, e.1.ok = true := by
  intro e he
  unfold setD at he
  split at he
  · refine x1_2 (List.mem_map.mp he) fun e' he' e2' => ?_; subst e2'
    split
    · exact h e' he'
    · exact h e' he'
  · rcases List.mem_append.mp he with he | he
    · exact h e he
    · simp only [List.mem_singleton] at he; subst he; exact hk
theorem kind_shape {H : AH} {o : AV} : ∀ {k : Nat}, kindM o H = k → (k = 0 ∨ (k = 1 ∧ ∃ x, o = .str x) ∨ (k = 2 ∧ ∃ n xs, o = .ref n ∧ H[n]? = some (.lst xs)) ∨ k = 3 ∧ ∃ n es, o = .ref n ∧ dcOf H o = some (n, es)) := by
  rintro k rfl
  cases o with
  | str x => exact .inr (.inl ⟨rfl, x, rfl⟩)
  | ref n =>
    simp only [kindM]
    cases q : H[n]? with
    | none => exact .inl rfl
    | some ao =>
      cases ao with
      | lst xs => exact .inr (.inr (.inl ⟨rfl, n, xs, rfl, q⟩))
      | dict es => exact .inr (.inr (.inr ⟨rfl, n, es, rfl, dcOf_at q⟩))
      | ldict es => exact .inr (.inr (.inr ⟨rfl, n, es, rfl, dcOf_at q⟩))
      | inst c fs => exact .inl rfl
  | _ => exact .inl rfl
section
variable {C : Cx} {s : Shared} {M : Mp} {H : AH} {v : Value} {o : AV}
theorem meth_at {f : Bm} {id : String} (rp : Rep C.S C.pv s.heap M H) (r : VRel (C.wd s.heap M) v o) (h : bmId (kindM o H) f = some id) :
    ∃ T, PlainAttrs T ∧ Slot T f.name id ∧ typeOf (.builtin id) = pure (.type "method_descriptor") ∧ s.TypeIs v T ∧ ∀ a, v = .ref a → ∃ ob, s.heap.get? a = some ob ∧ ob.dict = none := by
  rcases kind_shape (rfl : kindM o H = _) with e | ⟨e, x, rfl⟩ | ⟨e, n, xs, rfl, q⟩ | ⟨e, n, es, rfl, q⟩ <;> rw [e] at h
  · cases f <;> cases h
  · refine x1_2 (r.inv) fun t e1' ok => ?_; subst e1'
    have e : ∀ a, Value.str x t = .ref a → ∃ ob, s.heap.get? a = some ob ∧ ob.dict = none := fun _ q => nomatch q
    cases f <;> cases h
    · exact ⟨"str", F.plainAttrs_str, F.slot_str_join, F.type_str_join, typeIs_str _ _ _, e⟩
  · refine x1_2 (r.inv) fun p e1' z => ?_; subst e1'
    obtain ⟨_, vs, m, hl, rl⟩ := rp.obj _ _ _ z q
    have e : ∀ a, Value.ref p.1 = .ref a → ∃ ob, s.heap.get? a = some ob ∧ ob.dict = none := fun _ q => by cases q; exact ⟨_, hl, rfl⟩
    have hT : s.TypeIs (.ref p.1) "list" := ⟨_, hl, rfl⟩
    cases f <;> cases h
    · exact ⟨"list", F.plainAttrs_list, F.slot_list_append, F.type_list_append, hT, e⟩
  · refine x2_5 (dc_of rp r q) fun p kvs e2' z _ hd _ => ?_; subst e2'
    cases f <;> cases h
    · exact ⟨"dict", F.plainAttrs_dict, F.slot_dict_get, F.type_dict_get, hd.typeIs, hd.mapOf.noDict⟩
    · exact ⟨"dict", F.plainAttrs_dict, F.slot_dict_pop, F.type_dict_pop, hd.typeIs, hd.mapOf.noDict⟩
theorem post_setL {h' : Heap} {n : Nat} {p : Addr × Addr} {xs ys : List AV} {vs : Array Value} {m tk : Nat} (L : Live C s.heap M) (rp : Rep C.S C.pv s.heap M H) (z : M[n]? = some p) (hq : H[n]? = some (.lst xs)) (ep : p.2 = p.1) (k : Heap.SameBut p.1 s.heap h') (hl : IsL h' p.1 vs m) (rl : VRels (C.wd s.heap M) vs.toList ys) :
    Post VRel C s M .none (setL H n ys) .none { s with heap := h', toks := tk } :=
  post_setO L rp z (fun es e => by rw [hq] at e; cases e) (fun _ q => nomatch q) (fun b o hb _ z => (k.2 b hb).trans z) (fun K => ⟨ep, vs, m, hl, rl.keep K⟩) (fun _ => .none)
theorem prim_ml {f : Bm} {id : String} {n : Nat} {xs as : List AV} {vals : List Value} (L : Live C s.heap M) (rp : Rep C.S C.pv s.heap M H) (ro : VRel (C.wd s.heap M) v (.ref n)) (ra : VRels (C.wd s.heap M) vals as) (q : H[n]? = some (.lst xs)) (hid : bmId 2 f = some id) (hz : xs.length ≤ 1000000) : Ev VRel C (call (.builtin id) (v :: vals)) s M (mlA f n xs as H) := by
  refine x1_2 (ro.inv) fun p e1' z => ?_; subst e1'
  obtain ⟨ep, vs, m, hl, rl⟩ := rp.obj _ _ _ z q
  have hs1 := rl.size
  cases f with
  | append =>
    cases hid
    rcases as with _ | ⟨a, _ | ⟨_, _⟩⟩
    · trivial
    · refine x1_2 (vrels1 ra) fun u e1' ru => ?_; subst e1'
      refine call_meets F.slot_list_append ⟨_, hl, rfl⟩ F.entry_list_append (F.args_list_append_2 _ _) (list_append p.1 vs m u (by rw [hs1, sizeLine_eq]; lia)) ⟨hl, ?_⟩
      exact post_setL L rp z q ep (Heap.SameBut.update ..) (IsL.update hl _) (by simpa using rl.snoc ru)
    · trivial
  | _ => cases hid
theorem prim_md {f : Bm} {id : String} {n : Nat} {es : List (Key × AV)} {as : List AV} {vals : List Value} (L : Live C s.heap M) (rp : Rep C.S C.pv s.heap M H) (ro : VRel (C.wd s.heap M) v (.ref n)) (ra : VRels (C.wd s.heap M) vals as) (q : H[n]? = some (.dict es)) (hid : bmId 3 f = some id) (hz : es.length ≤ 1000000) : Ev VRel C (call (.builtin id) (v :: vals)) s M (mdA f n es as H) := by
  refine x2_7 (dc_of (n := n) (es := es) rp ro (dcOf_at q)) fun p kvs e2' z ep hm e1 e2 ok => ?_; subst e2'
  have hs := L.notSys (foot_at z).1
  have hlen : kvs.length = es.length := by simpa using congrArg List.length e1
  rcases as with _ | ⟨a, _ | ⟨_, _⟩⟩
  · trivial
  · refine Ev.orBad fun k hk => ?_
    refine x1_2 (vrels1 ra) fun u e1' ru => ?_; subst e1'
    have hv := zip_valueAt e1 e2 k
    cases f with
    | get =>
      cases hid
      refine call_meetsIn F.slot_dict_get hm.typeIs F.entry_dict_get (F.args_dict_get_2 _ _) (meets_dict_get (kk C.S.prog C.S.w) p.1 (key_is ru hk).1 hs) ⟨_, hm.mapOf, ?_⟩
      cases hx : es.lookup k with
      | none => rw [hx] at hv; rw [hv]; exact post_tok rp .none _
      | some c => rw [hx] at hv; obtain ⟨w, hw, rw'⟩ := hv; rw [hw]; exact post_tok rp rw' _
    | pop =>
      cases hid
      refine Ev.orBad fun c hl => ?_
      rw [hl] at hv
      obtain ⟨w, hw, rw'⟩ := hv
      refine call_meetsIn F.slot_dict_pop hm.typeIs F.entry_dict_pop (F.args_dict_pop_2 _ _) (meets_dict_pop_there (kk C.S.prog C.S.w) p.1 (key_is ru hk).1 [] (.inl rfl) (by
        rcases Key.is_shape (key_is ru hk).1 with ⟨x, t, rfl, rfl⟩ | ⟨i, t, rfl, rfl⟩ <;> rfl)) ⟨kvs, w, hm, by rw [hlen, sizeLine_eq]; lia, hw, fun h' hm' hsb => ?_⟩
      refine post_setO L rp z (fun es e => by rw [q] at e; cases e) (fun _ q => nomatch q) (fun b o hb _ z => (hsb.2 b hb).trans z) (fun K => ?_) (fun K => rw'.keep K)
      have hz := zip_without k e1 (e2.keep K)
      exact ⟨ep, _, hm', hz.1, hz.2, fun e he => ok e (List.mem_filter.mp he).1⟩
    | _ => cases hid
  · trivial
theorem prim_mb {f : Bm} {id : String} {as : List AV} {vals : List Value} (L : Live C s.heap M) (rp : Rep C.S C.pv s.heap M H) (ro : VRel (C.wd s.heap M) v o) (ra : VRels (C.wd s.heap M) vals as) (hid : bmId (kindM o H) f = some id) : Ev VRel C (call (.builtin id) (v :: vals)) s M (mbA f o as H) := by
  rcases kind_shape (rfl : kindM o H = _) with e | ⟨e, x, rfl⟩ | ⟨e, n, xs, rfl, q⟩ | ⟨e, n, es, rfl, q⟩ <;> rw [e] at hid
  · cases f <;> cases hid
  · show Ev VRel C _ s M (msA f x as H)
    refine x1_2 (ro.inv) fun t e1' ok => ?_; subst e1'
    rcases as with _ | ⟨a, _ | ⟨_, _⟩⟩
    · trivial
    · refine x1_2 (vrels1 ra) fun u e1' ru => ?_; subst e1'
      cases f with
      | join =>
        cases hid
        refine Ev.orBad fun ys e => Ev.ite fun hj => ?_
        refine x1_2 (Option.bind_eq_some_iff.mp e) fun xs e hs => ?_
        refine x3_3 (ls_of rp ru e) fun l vs n e3' hl rl => ?_; subst e3'
        refine x1_3 (strs_vals rl hs) fun ll h1 h2 h3 => ?_
        exact SC.join (l := ll) (by rw [← h1]; simpa using hl.isList) h2 hj fun t' k => post_tok rp (.str _ _ (join_ok ok h3)) _
      | _ => cases hid
    · trivial
  · rw [mb_lst q]
    exact Ev.ite fun hz => prim_ml L rp ro ra q hid hz
  · cases h : H[n]? with
    | none => rw [mb_at h]; trivial
    | some ao =>
      cases ao with
      | dict es => rw [mb_at h]; exact Ev.ite fun hz => prim_md L rp ro ra h hid hz
      | lst xs => rw [dcOf_at h] at q; cases q
      | _ => rw [mb_at h]; trivial
end
structure ClsF (K : Frag) (C : Addr) : Prop where
  ga : findIn K (.ref C) "__getattribute__" = some (some (.builtin "object.__getattribute__"))
  gt : findIn K (.ref C) "__getattr__" = some none
  sa : findIn K (.ref C) "__setattr__" = some (some (.builtin "object.__setattr__"))
  pl : plainOver K C = true
  hd : hasDictIn K C = true
  mks : makesIn K C = true
theorem clsOK_parts {K : Frag} {C : Addr} (h : clsOK K C = true) : ClsF K C := by
  unfold clsOK at h
  simp only [Bool.and_eq_true, beq_iff_eq] at h
  refine w6 h fun a b c d e f => ?_
  exact ⟨a, b, c, d, e, f⟩
noncomputable def tyN (T : Tb) : Ty → Option Str
  | .int => some "int"
  | .bool => some "bool"
  | .str => some "str"
  | .tup => some "tuple"
  | .lst => some "list"
noncomputable def Stat.tyV (S : Stat) : Ty → Option Value
  | .int => some (.type "int")
  | .bool => some (.type "bool")
  | .str => some (.type "str")
  | .tup => some (.type "tuple")
  | .lst => some (.type "list")
structure Fit (S : Stat) (G : Gm) : Prop where
  cls : ∀ c D, S.cl c = some D → ClsF S.K D
  attr : ∀ c D x, S.cl c = some D → x ∈ S.an → findIn S.K (.ref D) x = some none
  inj : ∀ (i j : Nat) x, S.an[i]? = some x → S.an[j]? = some x → i = j
  na : G.na = S.an.length
  few : S.an.length ≤ 1000
  mth : ∀ c D m f, S.cl c = some D → G.fn c m = some f → ∃ x fa, S.T.mn[m]? = some x ∧ x ∉ S.an ∧ S.fa f = some fa ∧ findIn S.K (.ref D) x = some (some (.ref fa)) ∧ isFn S.K (.ref fa) = true ∧ fnIn S.K fa = true
  ini : S.T.mn[0]? = some ("__init__" : Str)
  exc : ∀ c D, S.X c = some D → excIn S.K D veMro "ValueError.__new__" = true ∧ seesIn S.K D = true
  up : ∀ c d D E l, S.X c = some D → S.X d = some E → G.up[c]? = some l → subIn S.K (.ref D) (.ref E) = some (l.any fun x => decide (x = d))
  fn : ∀ (f : Nat) x, S.T.fns[f]? = some (some x) → ∃ fa, S.fa f = some fa ∧ nsIn S.K mainGlobals x = some (some (.ref fa)) ∧ fnIn S.K fa = true
  cn : ∀ (c : Nat) x, S.T.cls[c]? = some x → ∃ D, S.cl c = some D ∧ nsIn S.K mainGlobals x = some (some (.ref D)) ∧ keepIn S.K (.ref D) = true
  xn : ∀ (c : Nat) x, S.T.exs[c]? = some x → ∃ D, S.X c = some D ∧ nsIn S.K mainGlobals x = some (some (.ref D))
  gi : ∀ x i, (x, i) ∈ S.T.gi → ∃ t, nsIn S.K mainGlobals x = some (some (.int i t))
  bi : ∀ x ∈ biNames, nsIn S.K mainGlobals x = some none
  kb : ∀ (k : Kd) (t : Ty) v, S.tyV t = some v → kitOne S.K (.type k.type) v = some (isK k t)
theorem getL_any {name : Str} {es : List DictEntry} {r : Option Value} (h : getL name es = some r) : r.isSome = es.any (·.key.isStr name) := by
  unfold getL at h
  split at h
  · rename_i e he
    cases h
    rw [List.any_eq_true.mpr ⟨e, List.mem_of_find?_eq_some he, List.find?_some he⟩]; rfl
  · rename_i he
    split at h
    · cases h
    · cases h
      have : es.any (·.key.isStr name) = false := by
        rw [List.any_eq_false]
        exact fun e hm => List.find?_eq_none.mp he e hm
      rw [this]; rfl
theorem isStr_key {name name' : Str} {v : Value} (h : v.isStr name = true) : v.isStr name' = decide (name = name') := by
  cases v <;> simp only [Value.isStr, Bool.false_eq_true] at h ⊢
  rw [beq_iff_eq] at h
  subst h
  rw [Bool.eq_iff_iff]; simp
theorem find_putL (name name' : Str) (hsh : Int) (t : Tok) (v : Value) : ∀ es : List DictEntry,
    ((putL name hsh (.str name t) v es).find? (·.key.isStr name')).map (·.val) = if name = name' then some v else (es.find? (·.key.isStr name')).map (·.val)
  | [] => by
    simp only [putL, List.find?_cons, List.find?_nil, Value.isStr]
    by_cases q : name = name'
    · subst q; simp
    · have : (name == name') = false := by simpa using q
      simp [this, q]
  | e :: r => by
    have ih := find_putL name name' hsh t v r
    simp only [putL]
    cases h : e.key.isStr name with
    | true =>
      have h' := isStr_key (name' := name') h
      simp only [if_true, List.find?_cons, h']
      by_cases q : name = name'
      · simp [q]
      · simp [q]
    | false =>
      simp only [Bool.false_eq_true, if_false, List.find?_cons]
      cases h2 : e.key.isStr name' with
      | true =>
        have : name ≠ name' := fun q => by rw [q, h2] at h; cases h
        simp [this]
      | false => exact ih
theorem refKey_putL (name : Str) (hsh : Int) (t : Tok) (v : Value) : ∀ es : List DictEntry, (putL name hsh (.str name t) v es).any (·.refKey) = es.any (·.refKey)
  | [] => rfl
  | e :: r => by
    simp only [putL]
    split
    · rfl
    · simp only [List.any_cons, refKey_putL name hsh t v r]
theorem getL_eq (name : Str) (es : List DictEntry) : getL name es = match (es.find? (·.key.isStr name)).map (·.val) with | some v => some (some v) | none => if es.any (·.refKey) then none else some none := by
  unfold getL
  cases es.find? (·.key.isStr name) <;> rfl
theorem putL_length (name : Str) (hsh : Int) (k v : Value) : ∀ es : List DictEntry, (putL name hsh k v es).length = if es.any (·.key.isStr name) then es.length else es.length + 1
  | [] => rfl
  | e :: r => by
    simp only [putL, List.any_cons]
    by_cases h : e.key.isStr name = true
    · simp [h]
    · have ih := putL_length name hsh k v r
      rw [Bool.not_eq_true] at h
      simp only [h, Bool.false_eq_true, if_false, List.length_cons, ih, Bool.false_or]
      split <;> rfl
theorem FRel.put {w : Wd} {an : List Str} {es : List DictEntry} {fs : List (Option AV)} {k : Nat} {x : Str} {hsh : Int} {t : Tok} {v : Value} {a : AV} (inj : ∀ (i j : Nat) x, an[i]? = some x → an[j]? = some x → i = j) (r : FRel w an es fs) (hx : an[k]? = some x) (hk : k < fs.length) (rv : VRel w v a) : FRel w an (putL x hsh (.str x t) v es) (fs.set k (some a)) := by
  have e1 : ∀ name, getL name (putL x hsh (.str x t) v es) = if x = name then some (some v) else getL name es := fun name => by
    rw [getL_eq, getL_eq, find_putL, refKey_putL]
    by_cases q : x = name <;> simp [q]
  refine ⟨?_, by rw [List.length_set]; exact r.2.1, fun y hy => ?_, fun j y hy => ?_⟩
  · rw [putL_length, r.1]
    unfold cnt
    rw [List.countP_set hk]
    have hz := r.2.2.2 k x hx
    rw [List.getElem?_eq_getElem hk] at hz
    cases q : fs[k] with
    | none =>
      rw [q] at hz
      rw [← getL_any hz]
      simp
    | some b =>
      rw [q] at hz
      refine x1_2 (hz) fun u hu _ => ?_; try clear hz
      rw [← getL_any hu]
      have hpos : 0 < List.countP (·.isSome) fs := List.countP_pos_iff.mpr ⟨fs[k], List.getElem_mem hk, by rw [q]; rfl⟩
      simp
      lia
  · rw [e1, if_neg (fun z : x = y => hy (z ▸ List.mem_of_getElem? hx))]
    exact r.2.2.1 y hy
  · have hn := r.2.2.2 j y hy
    rw [List.getElem?_set]
    by_cases q : k = j
    · subst q
      rw [hx] at hy
      cases hy
      rw [if_pos rfl, if_pos hk]
      exact ⟨v, by rw [e1, if_pos rfl], rv⟩
    · rw [if_neg q, e1, if_neg (fun z : x = y => q (inj k j x hx (z ▸ hy)))]
      exact hn
section
variable {S : Stat} {pv : List Addr × List Addr} {h : Heap} {M : Mp} {H : AH} {v : Value} {a : AV}
theorem in_shape {n c : Nat} {fs : List (Option AV)} (e : inOf H a = some (n, c, fs)) : a = .ref n ∧ H[n]? = some (.inst c fs) := by
  cases a <;> first | exact no_some e | skip
  rename_i n
  cases q : H[n]? with
  | none => rw [inOf_at q] at e; cases e
  | some ao =>
    rw [inOf_at q] at e
    cases ao <;> cases e
    exact ⟨rfl, q⟩
theorem in_of {n c : Nat} {fs : List (Option AV)} (R : Rep S pv h M H) (r : VRel (wdOf S pv h M) v a) (e : inOf H a = some (n, c, fs)) :
    ∃ (p : Addr × Addr) (D : Addr) (es : List DictEntry) (m : Nat), v = .ref p.1 ∧ M[n]? = some p ∧ S.cl c = some D ∧ InstAt h p.1 (instObj D p.2) D (some (dictOf es m)) ∧ h.get? p.2 = some (dictOf es m) ∧ FRel (wdOf S pv h M) S.an es fs ∧ p.2 ≠ p.1 := by
  obtain ⟨rfl, q⟩ := in_shape e
  refine x1_2 (r.inv) fun p hv z => ?_
  obtain ⟨ne, D, es, m, hc, h1, h2, f⟩ := R.obj _ _ _ z q
  exact ⟨p, D, es, m, hv, z, hc, ⟨h1, rfl, rfl, h2⟩, h2, f, ne⟩
end
theorem VRel.handed {w : Wd} {v : Value} {a : AV} (r : VRel w v a) : handedIn v = true := by cases r <;> rfl
section
variable {C : Cx} {G : Gm} {s : Shared} {M : Mp} {H : AH} {v u w₀ : Value} {a o i : AV}
theorem prim_attr {n c k : Nat} {fs : List (Option AV)} {x : Str} {b : AV} {expr : Bool} (Y : Fit C.S G) (L : Live C s.heap M) (rp : Rep C.S C.pv s.heap M H) (ro : VRel (C.wd s.heap M) v o) (e : inOf H o = some (n, c, fs)) (hx : C.S.an[k]? = some x) (hk : fs[k]? = some (some b)) : Ev VRel C (getAttr v x expr) s M (.ok b H) := by
  refine x4_7 (in_of rp ro e) fun p D es m e4' z hc I hd f _ => ?_; subst e4'
  have K := Y.cls c D hc
  have := f.2.2.2 k x hx
  rw [hk] at this
  refine x1_2 (this) fun v hv rv => ?_; try clear this
  exact get_value L.K I K.ga (findObj_own K.hd (Y.attr c D x hc (List.mem_of_getElem? hx)) rfl (by rw [lookIn_dict]; exact hv)) rv.handed (post_tok rp rv _)
theorem prim_setAttr {n c k : Nat} {fs : List (Option AV)} {x : Str} (Y : Fit C.S G) (L : Live C s.heap M) (rp : Rep C.S C.pv s.heap M H) (ro : VRel (C.wd s.heap M) u o) (rv : VRel (C.wd s.heap M) v a) (e : inOf H o = some (n, c, fs)) (hx : C.S.an[k]? = some x) (hk : k < fs.length) :
    Ev EqR C (setAttr u x v) s M (.ok () (H.set n (.inst c (fs.set k (some a))))) := by
  refine x4_7 (in_of rp ro e) fun p D es m e4' z hc I hd f ne => ?_; subst e4'
  have KK := Y.cls c D hc
  have k2 := Y.attr c D x hc (List.mem_of_getElem? hx)
  refine set_plain L.K I KK.sa ?_
  have ht : takerIn C.S.K D x = some none := by unfold takerIn; rw [k2]; rfl
  refine osa_open (s := { s with toks := s.toks + 1 }) L.K I KK.pl ht fun b => ?_
  refine x1_2 (any_some KK.hd) fun cd hcd hd' => ?_
  have hx' := I.at_
  refine wpAny_bind (wpAny_pure (wpAny_bind (wpAny_bind (wpAny_loadPart hx' (wpAny_bind (Looks.here (s := { s with toks := s.toks + 1 }) (looks_clsIn L.K hcd) ?_))))))
  rw [hd']
  refine wpAny_pure (a := some p.2) (wpAny_bind (wpAny_pure (wpAny_bind ?_)))
  unfold nsSet
  refine wpAny_bind (wpAny_bind (wpAny_askSetting (wpAny_pure (wpAny_bind (wpAny_mkText (wpAny_bind (wpAny_loadPart hd ?_)))))))
  dsimp only
  have hg : ∃ r, getL x es = some r := by
    have := f.2.2.2 k x hx
    split at this
    · obtain ⟨w, hw, _⟩ := this; exact ⟨_, hw⟩
    · exact ⟨_, this⟩
  obtain ⟨gr, hg⟩ := hg
  have c1 : (!es.toArray.any (·.key.isStr x) && es.toArray.any (·.refKey)) = false := by
    rw [← Array.any_toList, ← Array.any_toList]
    show (!es.any (·.key.isStr x) && es.any (·.refKey)) = false
    rw [← getL_any hg]
    rw [getL_eq] at hg
    split at hg
    · cases hg; rfl
    · split at hg
      · cases hg
      · rename_i z; rw [Bool.not_eq_true] at z; rw [z, Bool.and_false]
  rw [aRefKeyMayBeTheName_at, c1]
  refine wpAny_updatePart hd ?_
  have hp := putName_dict x (PyData.keyHash C.S.w.params x) (.str x (s.toks + 1)) v es m
  have hu := Heap.get?_update_self (h := s.heap) (Obj.putName x (PyData.keyHash C.S.w.params x) (.str x (s.toks + 1)) v) hd (by rw [hp]; rfl)
  rw [hp] at hu
  refine wpAny_bind (wpAny_lookBehind hu (pastItsLine_dict (by
    rw [List.size_toArray, putL_length]
    have h1 := f.1
    have h2 : cnt fs ≤ fs.length := List.countP_le_length
    have h3 := f.2.1
    have h4 := Y.few
    rw [sizeLine_eq]
    split <;> lia)) ?_)
  refine wpAny_pure ?_
  have k' : ∀ b o, b ≠ p.1 → b ≠ p.2 → s.heap.get? b = some o → (s.heap.update p.2 (Obj.putName x (PyData.keyHash C.S.w.params x) (.str x (s.toks + 1)) v)).get? b = some o := fun b o _ hb z => (Heap.get?_update_other _ _ (Ne.symm hb)).trans z
  exact post_setO L rp z (fun es e' => by rw [(in_shape e).2] at e'; cases e') (fun _ q => nomatch q) k' (fun K => ⟨ne, D, _, _, hc, (Heap.get?_update_other _ _ ne).trans I.at_, hu, (f.keep K).put Y.inj hx hk (rv.keep K)⟩) (fun _ => rfl)
theorem prim_setItem {H' : AH} (L : Live C s.heap M) (rp : Rep C.S C.pv s.heap M H) (ro : VRel (C.wd s.heap M) u o) (ri : VRel (C.wd s.heap M) w₀ i) (rv : VRel (C.wd s.heap M) v a) (e : setItemA o i a H = some H') : Ev EqR C (setItem u w₀ v) s M (.ok () H') := by
  cases o <;> first | exact no_some e | skip
  rename_i n
  cases q : H[n]? with
  | none => rw [setItemA_at q] at e; cases e
  | some ao =>
    rw [setItemA_at q] at e
    cases ao with
    | inst c fs => cases e
    | ldict es => cases e
    | lst xs =>
      cases i <;> first | exact no_some e | skip
      rename_i k
      simp only at e
      split at e <;> first | exact no_some e | skip
      rename_i hs
      obtain ⟨lo, hi⟩ := small_lt hs
      refine x1_2 (Option.map_eq_some_iff.mp e) fun j hn e2' => ?_; subst e2'
      obtain ⟨t, rfl⟩ := ri.inv
      refine x1_2 (ro.inv) fun p e1' z => ?_; subst e1'
      obtain ⟨ep, vs, m, hl, rl⟩ := rp.obj _ _ _ z q
      have hs := rl.size
      have fin : ∀ j', j' = j → Post EqR C s M () (setL H n (xs.set j a)) () { s with heap := s.heap.update p.1 (Obj.mapSeq (·.setIfInBounds j' v)) } := by
        rintro j' rfl
        refine post_setO (tk := s.toks) L rp z (fun es e => by rw [q] at e; cases e) (fun _ q => nomatch q) (fun b o hb _ z => (Heap.get?_update_other _ _ (Ne.symm hb)).trans z) (fun K => ⟨ep, _, _, IsL.update hl _, ?_⟩) (fun _ => rfl)
        simpa using VRels.set (rv.keep K) (rl.keep K) j'
      by_cases h0 : 0 ≤ k
      · have : k.toNat = j ∧ k < xs.length := by unfold idxA at hn; rw [if_pos h0] at hn; split at hn <;> simp at hn; exact ⟨hn, by assumption⟩
        exact ki_setAt hl h0 (by lia) (by rw [hs]; exact this.2) (fin _ this.1)
      · have : 0 ≤ k + xs.length ∧ (k + xs.length).toNat = j := by unfold idxA at hn; rw [if_neg h0] at hn; split at hn <;> simp at hn; exact ⟨by assumption, hn⟩
        refine ki_setBack hl (by lia) (by rw [hs]; lia) (by lia) (fin _ ?_)
        rw [hs]; exact this.2
    | dict es =>
      simp only at e
      split at e <;> first | exact no_some e | skip
      rename_i hz
      refine x1_2 (Option.map_eq_some_iff.mp e) fun k hk e2' => ?_; subst e2'
      refine x2_7 (dc_of (n := n) (es := es) rp ro (dcOf_at q)) fun p kvs e2' z ep hm e1 e2 ok => ?_; subst e2'
      have hlen : kvs.length = es.length := by simpa using congrArg List.length e1
      refine wpAny_setItem_pairs (hsz := by rw [hlen, sizeLine_eq]; lia) (key_is ri hk).1 hm fun h' hm' hsb => ?_
      refine post_setO L rp z (fun es e => by rw [q] at e; cases e) (fun _ q => nomatch q) (fun b o hb _ z => (hsb.2 b hb).trans z) (fun K => ?_) (fun K => rfl)
      have hz := zip_stored (k := k) (rv.keep K) e1 (e2.keep K)
      exact ⟨ep, _, hm', hz.1, hz.2, setD_ok ok (key_is ri hk).2⟩
end
set_option linter.unusedSimpArgs false
noncomputable def plainBase : Expr → Bool
  | .Call (.Name _ _) [] [] _ => false
  | _ => true
noncomputable def notSlice : Expr → Bool
  | .Slice .. => false
  | _ => true
noncomputable def notSet : Expr → Bool
  | .Set .. => false
  | _ => true
noncomputable def notStar : Expr → Bool
  | .Starred .. => false
  | _ => true
noncomputable def constA : Const → Option AV
  | .none => some .none
  | .bool b => some (.bool b)
  | .int i => some (.int i)
  | .str x => if PyData.strOk x then some (.str x) else none
  | _ => none
noncomputable def Snd (C : Cx) (env : Env) (ns : List (Option Str)) (f : DE) (e : Expr) : Prop :=
  ∀ {ρ : RE} {s : Shared} {M : Mp} {H : AH}, St C env ns ρ s M H → Ev VRel C (eval e env) s M (f ρ H)
noncomputable def tst (f : DE) (ρ : RE) (H : AH) : Out Bool := (f ρ H).bind fun a H₁ => asBool a fun b => .ok b H₁
noncomputable def SndT (C : Cx) (env : Env) (ns : List (Option Str)) (f : DE) (e : Expr) : Prop :=
  ∀ {ρ : RE} {s : Shared} {M : Mp} {H : AH}, St C env ns ρ s M H → Ev EqR C (isTrue e env (eval e env)) s M (tst f ρ H)
noncomputable abbrev Snd2 (C : Cx) (env : Env) (ns : List (Option Str)) (f : DE) (e : Expr) : Prop := Snd C env ns f e ∧ SndT C env ns f e
theorem bind_bind {α β γ : Type} (o : Out α) (f : α → AH → Out β) (g : β → AH → Out γ) : (o.bind f).bind g = o.bind fun a H => (f a H).bind g := by cases o <;> rfl
theorem asBool_bind {α β : Type} (a : AV) (f : Bool → Out α) (g : α → AH → Out β) : (asBool a f).bind g = asBool a fun i => (f i).bind g := by cases a <;> rfl
theorem orBad_bind {α β γ : Type} (o : Option γ) (f : γ → Out α) (g : α → AH → Out β) : (orBad o f).bind g = orBad o fun i => (f i).bind g := by cases o <;> rfl
section
variable {C : Cx} {G : Gm} {env : Env} {ns : List (Option Str)}
theorem snd_bad {e : Expr} : Snd C env ns badE e := fun _ => trivial
theorem bad_ok {e : Expr} : Snd2 C env ns badE e := ⟨fun _ => trivial, fun _ => trivial⟩
theorem snd_cst {k : Const} {kd : Nat} {p : Pos} {a : AV} (h : constA k = some a) : Snd C env ns (cstE a) (.Constant k kd p) := fun {ρ s M H} st => by
  show Ev VRel C (constValue env k) s M (.ok a H)
  cases k <;> first | exact no_some h | skip
  · cases h; exact Ev.pure st.rep .none
  · cases h; exact Ev.pure st.rep (.bool _)
  · cases h; exact wpAny_mkInt (post_tok st.rep (.int _ _) _)
  · rename_i x
    replace h : (if PyData.strOk x = true then some (AV.str x) else none) = some a := h
    split at h <;> cases h
    rename_i ok; exact wpAny_mkText (post_tok st.rep (.str _ _ ok) _)
theorem snd_var {i : Nat} {x : Str} {p : Pos} (hx : ns[i]? = some (some x)) (hd : (x == ("__debug__" : Str)) = false) (hcd : (x == ("__classdict__" : Str)) = false) : Snd C env ns (varE i) (.Name x p) := fun {ρ s M H} st => by
  show Ev VRel C _ s M (match ρ[i]? with | some (some a) => .ok a H | _ => .bad)
  split
  · rename_i a ha
    refine x2_1 (st.env) fun m cm E => ?_
    refine x1_2 (E.var i x a hx ha) fun v rv hv => ?_
    refine wpAny_Name ?_ hd
    rcases hv with ⟨hk, hm⟩ | ⟨hk, ⟨c, hc⟩, hcm⟩
    · exact wpAny_loadName_local E.fn hk E.loc hm (post_here st.rep rv)
    · have hcell := (E.cell x c hc).1
      rw [hcm] at hcell
      rcases hk with hk | hk
      · exact wpAny_loadName_cell E.fn hk hc hcell (post_here st.rep rv)
      · exact wpAny_loadName_free E.fn hk hc hcell (post_here st.rep rv) hcd
  · trivial
theorem name_glob {ρ : RE} {s : Shared} {M : Mp} {H : AH} {x : Str} {p : Pos} {v : Value} {P : Value → Shared → Prop} {E : Value → Shared → Prop} (st : St C env ns ρ s M H) (hk : env.kindOf x = some .globalImplicit) (hd : (x == ("__debug__" : Str)) = false)
    (e : nsIn C.S.K mainGlobals x = some (some v)) (h : P v s) : wpAny C.S.M C.A (eval (.Name x p) env) P E s := by
  refine x2_1 (st.env) fun m cm Ev => ?_
  have hg : s.heap.Ns env.globals C.S.mg := Ev.glob ▸ C.S.hT.g.keeps st.live.stays
  exact Calls.Name_function_global Ev.fn hk (Calls.loadGlobal_global hg (mg_of C.S.hK C.S.hT.g e) h) hd
theorem name_boot {ρ : RE} {s : Shared} {M : Mp} {H : AH} {x : Str} {p : Pos} {v : Value} {P : Value → Shared → Prop} {E : Value → Shared → Prop} (st : St C env ns ρ s M H) (hk : env.kindOf x = some .globalImplicit) (hd : (x == ("__debug__" : Str)) = false)
    (e : nsIn C.S.K mainGlobals x = some none) (hb : bootBuiltins x = some v) (hn : x ≠ "__name__") (h : P v s) : wpAny C.S.M C.A (eval (.Name x p) env) P E s := by
  refine x2_1 (st.env) fun m cm Ev => ?_
  have hg : s.heap.Ns env.globals C.S.mg := Ev.glob ▸ C.S.hT.g.keeps st.live.stays
  have hbn : s.heap.Ns env.builtins C.S.mb := Ev.bns ▸ C.S.hT.b.keeps st.live.stays
  exact Calls.Name_function_global Ev.fn hk (Calls.loadGlobal_builtin hg (mg_none_of C.S.hK C.S.hT.g e) hbn ((C.S.hT.builtins x hn).trans hb) h) hd
theorem snd_gv {x : Str} {i : Int} {t : Tok} {p : Pos} (hk : env.kindOf x = some .globalImplicit) (hd : (x == ("__debug__" : Str)) = false) (e : nsIn C.S.K mainGlobals x = some (some (.int i t))) : Snd C env ns (cstE (.int i)) (.Name x p) :=
  fun st => name_glob st hk hd e (post_here st.rep (.int _ _))
theorem snd_bin {mt : Bool} {op : Operator} {l r : DE} {l' r' : Expr} {p : Pos} (h1 : Snd C env ns l l') (h2 : Snd C env ns r r') : Snd C env ns (binE mt op l r) (.BinOp l' op r' p) := fun {ρ s M H} st => by
  show Ev VRel C (eval l' env >>= fun a => holding [a] (eval r' env) >>= fun b => standAt p >>= fun _ => operate [a, b] (binaryOp op a b)) s M _
  refine (h1 st).then fun a H₁ v s₁ M₁ x1 rp1 ra => ?_
  have st1 := st.step x1 rp1
  refine Ev.then (Ev.holding (h2 st1)) fun b H₂ u s₂ M₂ x2 rp2 rb => ?_
  exact Ev.stand (Ev.operate (prim_bin (st1.live.step x2) rp2 (ra.keep (x2.kp st1.live noW_seq)) rb))
theorem snd_neg {f : DE} {e' : Expr} {p : Pos} (h1 : Snd C env ns f e') : Snd C env ns (negE f) (.UnaryOp .USub e' p) := fun {ρ s M H} st => by
  show Ev VRel C (eval e' env >>= fun v => standAt p >>= fun _ => holding [v] (unaryOp .USub v)) s M _
  refine (h1 st).then fun a H₁ v s₁ M₁ x1 rp1 ra => Ev.asInt fun i e => ?_
  subst e
  obtain ⟨t, rfl⟩ := ra.inv
  exact Ev.stand (Ev.holding (P.neg_int (post_tok rp1 (.int _ _) _)))
theorem truthy_bool {b : Bool} {s : Shared} {M : Mp} {H : AH} (rp : Rep C.S C.pv s.heap M H) : Ev EqR C (truthy (.bool b)) s M (.ok b H) := wpAny_truthy_bool (post_here rp rfl)
theorem snd_nt {f : DE} {e' : Expr} {p : Pos} (h1 : Snd C env ns f e') : Snd C env ns (ntE f) (.UnaryOp .Not e' p) := fun {ρ s M H} st => by
  show Ev VRel C (eval e' env >>= fun v => standAt p >>= fun _ => holding [v] (unaryOp .Not v)) s M _
  refine (h1 st).then fun a H₁ v s₁ M₁ x1 rp1 ra => Ev.asBool fun b e => ?_
  subst e
  rw [show v = .bool b from ra.inv]
  exact Ev.stand (Ev.holding (not_of (wpAny_truthy_bool (post_here rp1 (.bool _)))))
theorem sndT_value {f : DE} {e : Expr} (h : Snd C env ns f e) (he : ∀ w, isTrue e env w = (w >>= fun v => standAt e.pos >>= fun _ => holding [v] (truthy v))) : SndT C env ns f e := fun {ρ s M H} st => by
  rw [he]
  refine (h st).then fun a H₁ v s₁ M₁ x1 rp1 ra => Ev.asBool fun b e => ?_
  subst e
  rw [show v = .bool b from ra.inv]
  exact Ev.stand (Ev.holding (truthy_bool rp1))
theorem isTrue_value {e : Expr} {env : Env} (h1 : ∀ x p, e ≠ .UnaryOp .Not x p) (h2 : ∀ o vs p, e ≠ .BoolOp o vs p) (h3 : ∀ t b o p, e ≠ .IfExp t b o p) (h4 : ∀ l ops rs p, e ≠ .Compare l ops rs p) (w : Sem Value) :
    isTrue e env w = (w >>= fun v => standAt e.pos >>= fun _ => holding [v] (truthy v)) := by
  cases e <;> first | rfl | skip
  · exact absurd rfl (h2 _ _ _)
  · rename_i op x p
    cases op <;> first | rfl | exact absurd rfl (h1 _ _)
  · exact absurd rfl (h3 _ _ _ _)
  · exact absurd rfl (h4 _ _ _ _)
theorem sndT_nt {f : DE} {e' : Expr} {p : Pos} (h1 : SndT C env ns f e') : SndT C env ns (ntE f) (.UnaryOp .Not e' p) := fun {ρ s M H} st => by
  show Ev EqR C (isTrue e' env (eval e' env) >>= fun b => pure (!b)) s M _
  have : tst (ntE f) ρ H = (tst f ρ H).bind fun b H₁ => .ok (!b) H₁ := by
    simp only [tst, ntE, bind_bind, asBool_bind]; rfl
  rw [this]
  refine (h1 st).then fun c H₁ v s₁ M₁ x1 rp1 ra => ?_
  cases ra
  exact Ev.pure rp1 rfl
noncomputable def opOf (k : Bool) : BoolOp := if k then .And else .Or
theorem bop_value {f : Expr → DE} (h : ∀ e, Snd2 C env ns (f e) e) (k : Bool) {p : Pos} : ∀ (es : List Expr) {ρ : RE} {s : Shared} {M : Mp} {H : AH}, St C env ns ρ s M H → Ev VRel C (boolOp p (opOf k) (evalEach es env)) s M (bopE k (es.map f) ρ H)
  | [], _, _, _, _, st => trivial
  | [x], _, _, _, _, st => (h x).1 st
  | x :: y :: r', ρ, s, M, H, st => by
    show Ev VRel C (eval x env >>= fun v => standAt p >>= fun _ => holding [v] (truthy v) >>= fun t => match opOf k, t with
      | .And, false | .Or, true => pure v
      | _, _ => boolOp p (opOf k) (evalEach (y :: r') env)) s M ((f x ρ H).bind fun a H₁ => asBool a fun b => if b = k then bopE k ((y :: r').map f) ρ H₁ else .ok (.bool b) H₁)
    refine ((h x).1 st).then fun a H₁ v s₁ M₁ x1 rp1 ra => Ev.asBool fun b e => ?_
    subst e
    rw [show v = .bool b from ra.inv]
    refine Ev.stand (Ev.look (v := b) (fun z => wpAny_holding (wpAny_truthy_bool z)) ?_)
    have ih := bop_value h k (p := p) (y :: r') (st.step x1 rp1)
    cases k <;> cases b
    · exact ih
    · exact Ev.pure rp1 (.bool _)
    · exact Ev.pure rp1 (.bool _)
    · exact ih
theorem bop_test {f : Expr → DE} (h : ∀ e, Snd2 C env ns (f e) e) (k : Bool) : ∀ (es : List Expr) {ρ : RE} {s : Shared} {M : Mp} {H : AH}, St C env ns ρ s M H → Ev EqR C (allTrue (opOf k) es env) s M (tst (bopE k (es.map f)) ρ H)
  | [], _, _, _, _, st => trivial
  | [x], ρ, s, M, H, st => by
    show Ev EqR C (isTrue x env (eval x env) >>= fun t => match opOf k, t with
      | .And, false => pure false
      | .Or, true => pure true
      | _, _ => pure (opOf k == .And)) s M (tst (f x) ρ H)
    have : tst (f x) ρ H = (tst (f x) ρ H).bind fun b H₁ => .ok b H₁ := by cases tst (f x) ρ H <;> rfl
    rw [this]
    refine ((h x).2 st).then fun b H₁ v s₁ M₁ x1 rp1 ra => ?_
    cases ra
    cases k <;> cases b <;> exact Ev.pure rp1 rfl
  | x :: y :: r', ρ, s, M, H, st => by
    show Ev EqR C (isTrue x env (eval x env) >>= fun t => match opOf k, t with
      | .And, false => pure false
      | .Or, true => pure true
      | _, _ => allTrue (opOf k) (y :: r') env) s M (((f x ρ H).bind fun a H₁ => asBool a fun b => if b = k then bopE k ((y :: r').map f) ρ H₁ else .ok (.bool b) H₁).bind fun a H₁ => asBool a fun b => .ok b H₁)
    have : (((f x ρ H).bind fun a H₁ => asBool a fun b => if b = k then bopE k ((y :: r').map f) ρ H₁ else .ok (.bool b) H₁).bind fun a H₁ => asBool a fun b => .ok b H₁) = (tst (f x) ρ H).bind fun b H₁ => if b = k then tst (bopE k ((y :: r').map f)) ρ H₁ else .ok b H₁ := by
      simp only [tst, bind_bind, asBool_bind]
      congr 1
      funext a H₁
      congr 1
      funext b
      show _ = if b = k then _ else _
      split <;> rfl
    rw [this]
    refine ((h x).2 st).then fun b H₁ v s₁ M₁ x1 rp1 ra => ?_
    cases ra
    have ih := bop_test h k (y :: r') (st.step x1 rp1)
    cases k <;> cases b
    · exact ih
    · exact Ev.pure rp1 rfl
    · exact Ev.pure rp1 rfl
    · exact ih
theorem no_tf0 {P : Prop} (h : false = true) : P := nomatch h
theorem marks_false : ∀ (ops : List CmpOp) (es : List Expr), es.all notSet = true → lastMarks ops es = false
  | [], _, _ => by simp [lastMarks]
  | _ :: _, [], _ => by simp [lastMarks]
  | [op], [e], h => by
    simp only [List.all_cons, Bool.and_eq_true] at h
    simp only [lastMarks]
    cases e <;> first | rfl | exact no_tf0 h.1
  | op :: op' :: ops, e :: r, h => by
    simp only [List.all_cons, Bool.and_eq_true] at h
    simp only [lastMarks]
    exact marks_false _ _ h.2
  | [op], e :: e' :: r, h => by
    simp only [List.all_cons, Bool.and_eq_true] at h
    simp only [lastMarks]
theorem marked_same (ops : List CmpOp) (es : List Expr) (ts : List (Sem Value)) (h : es.all notSet = true) : markedEach ops es ts = ts :=
  markedEach_of_false ops es ts (marks_false ops es h)
theorem cmp_ev {op : CmpOp} {s : Shared} {M : Mp} {H : AH} {v u : Value} {a b : AV} {c : Bool} (L : Live C s.heap M) (rp : Rep C.S C.pv s.heap M H) (ra : VRel (C.wd s.heap M) v a) (rb : VRel (C.wd s.heap M) u b) (e : cmpA H op a b = some c) : Ev VRel C (compareOp op v u) s M (.ok (.bool c) H) :=
  prim_cmp L rp ra rb e fun t => post_tok rp (.bool _) t
theorem chain_value {f : Expr → DE} (h : ∀ e, Snd2 C env ns (f e) e) {p : Pos} : ∀ (es : List Expr) (ops : List CmpOp), ops.length = es.length → ∀ {ρ : RE} {s : Shared} {M : Mp} {H : AH} {a : AV} {v : Value}, St C env ns ρ s M H → VRel (C.wd s.heap M) v a → Ev VRel C (compareChain p v ops (evalEach es env)) s M (chainE a ops (es.map f) ρ H)
  | [], [], _, _, _, _, _, _, _, st, ra => trivial
  | [], _ :: _, hl, _, _, _, _, _, _, st, ra => by cases hl
  | [x], [], hl, _, _, _, _, _, _, st, ra => by cases hl
  | [x], [op], hl, ρ, s, M, H, a, v, st, ra => by
    show Ev VRel C (holding [v] (eval x env) >>= fun rv => standAt p >>= fun _ => operate [v, rv] (compareOp op v rv)) s M ((f x ρ H).bind fun b H₁ => orBad (cmpA H₁ op a b) fun c => .ok (.bool c) H₁)
    refine Ev.then (Ev.holding ((h x).1 st)) fun b H₁ u s₁ M₁ x1 rp1 rb => Ev.orBad fun c e => Ev.stand (Ev.operate ?_)
    exact cmp_ev (st.live.step x1) rp1 (ra.keep (x1.kp st.live noW_seq)) rb e
  | [x], op :: op' :: ops, hl, _, _, _, _, _, _, st, ra => by cases hl
  | x :: y :: r', [], hl, _, _, _, _, _, _, st, ra => by cases hl
  | x :: y :: r', [op], hl, _, _, _, _, _, _, st, ra => by cases hl
  | x :: y :: r', op :: op' :: ops, hl, ρ, s, M, H, a, v, st, ra => by
    show Ev VRel C (holding [v] (eval x env) >>= fun rv => standAt p >>= fun _ => holding [v, rv] (compareOp op v rv) >>= fun c => release [v, rv] [c] >>= fun _ => holding [c, rv] (truthy c) >>= fun t =>
        if t = true then compareChain p rv (op' :: ops) (evalEach (y :: r') env) else pure c) s M ((f x ρ H).bind fun b H₁ => orBad (cmpA H₁ op a b) fun c => if c then chainE b (op' :: ops) ((y :: r').map f) ρ H₁ else .ok (.bool false) H₁)
    refine Ev.then (Ev.holding ((h x).1 st)) fun b H₁ u s₁ M₁ x1 rp1 rb => Ev.orBad fun c e => Ev.stand ?_
    have st1 := st.step x1 rp1
    have : (if c = true then chainE b (op' :: ops) ((y :: r').map f) ρ H₁ else .ok (.bool false) H₁) = (Out.ok (.bool c) H₁).bind fun d H₂ => asBool d fun c => if c = true then chainE b (op' :: ops) ((y :: r').map f) ρ H₂ else .ok (.bool false) H₂ := rfl
    rw [this]
    refine Ev.then (Ev.holding (cmp_ev (st.live.step x1) rp1 (ra.keep (x1.kp st.live noW_seq)) rb e)) fun d H₂ cv s₂ M₂ x2 rp2 rc => Ev.asBool fun c e => ?_
    subst e
    rw [show cv = .bool c from rc.inv]
    refine Ev.look (v := ()) (fun z => wpAny_release z) (Ev.look (v := c) (fun z => wpAny_holding (wpAny_truthy_bool z)) ?_)
    cases c
    · exact Ev.pure rp2 (.bool _)
    · exact chain_value h (y :: r') (op' :: ops) (Nat.succ.inj hl) (st1.step x2 rp2) (rb.keep (x2.kp st1.live noW_seq))
theorem chain_test {f : Expr → DE} (h : ∀ e, Snd2 C env ns (f e) e) {p : Pos} : ∀ (es : List Expr) (ops : List CmpOp), ops.length = es.length → ∀ {ρ : RE} {s : Shared} {M : Mp} {H : AH} {a : AV} {v : Value}, St C env ns ρ s M H → VRel (C.wd s.heap M) v a → Ev EqR C (testChain p v ops (evalEach es env)) s M (tst (chainE a ops (es.map f)) ρ H)
  | [], [], _, _, _, _, _, _, _, st, ra => trivial
  | [], _ :: _, hl, _, _, _, _, _, _, st, ra => by cases hl
  | [x], [], hl, _, _, _, _, _, _, st, ra => by cases hl
  | [x], [op], hl, ρ, s, M, H, a, v, st, ra => by
    show Ev EqR C (holding [v] (eval x env) >>= fun rv => standAt p >>= fun _ => operate [v, rv] (compareOp op v rv) >>= fun c => holding [c] (truthy c)) s M (((f x ρ H).bind fun b H₁ => orBad (cmpA H₁ op a b) fun c => .ok (.bool c) H₁).bind fun a H₁ => asBool a fun b => .ok b H₁)
    simp only [bind_bind, orBad_bind]
    refine Ev.then (Ev.holding ((h x).1 st)) fun b H₁ u s₁ M₁ x1 rp1 rb => Ev.orBad fun c e => Ev.stand ?_
    refine Ev.then (Ev.operate (cmp_ev (st.live.step x1) rp1 (ra.keep (x1.kp st.live noW_seq)) rb e)) fun d H₂ cv s₂ M₂ x2 rp2 rc => Ev.asBool fun c e => ?_
    subst e
    rw [show cv = .bool c from rc.inv]
    exact Ev.holding (truthy_bool rp2)
  | [x], op :: op' :: ops, hl, _, _, _, _, _, _, st, ra => by cases hl
  | x :: y :: r', [], hl, _, _, _, _, _, _, st, ra => by cases hl
  | x :: y :: r', [op], hl, _, _, _, _, _, _, st, ra => by cases hl
  | x :: y :: r', op :: op' :: ops, hl, ρ, s, M, H, a, v, st, ra => by
    show Ev EqR C (holding [v] (eval x env) >>= fun rv => standAt p >>= fun _ => holding [v, rv] (compareOp op v rv) >>= fun c => release [v, rv] [c] >>= fun _ => holding [c, rv] (truthy c) >>= fun t =>
        if t = true then testChain p rv (op' :: ops) (evalEach (y :: r') env) else pure false) s M (((f x ρ H).bind fun b H₁ => orBad (cmpA H₁ op a b) fun c => if c then chainE b (op' :: ops) ((y :: r').map f) ρ H₁ else .ok (.bool false) H₁).bind fun a H₁ => asBool a fun b => .ok b H₁)
    simp only [bind_bind, orBad_bind]
    refine Ev.then (Ev.holding ((h x).1 st)) fun b H₁ u s₁ M₁ x1 rp1 rb => Ev.orBad fun c e => Ev.stand ?_
    have st1 := st.step x1 rp1
    have : ((if c = true then chainE b (op' :: ops) ((y :: r').map f) ρ H₁ else .ok (.bool false) H₁).bind fun a H₁ => asBool a fun b => .ok b H₁) = (Out.ok (.bool c) H₁).bind fun d H₂ => asBool d fun c => if c = true then tst (chainE b (op' :: ops) ((y :: r').map f)) ρ H₂ else .ok false H₂ := by
      cases c <;> rfl
    rw [this]
    refine Ev.then (Ev.holding (cmp_ev (st.live.step x1) rp1 (ra.keep (x1.kp st.live noW_seq)) rb e)) fun d H₂ cv s₂ M₂ x2 rp2 rc => Ev.asBool fun c e => ?_
    subst e
    rw [show cv = .bool c from rc.inv]
    refine Ev.look (v := ()) (fun z => wpAny_release z) (Ev.look (v := c) (fun z => wpAny_holding (wpAny_truthy_bool z)) ?_)
    cases c
    · exact Ev.pure rp2 rfl
    · exact chain_test h (y :: r') (op' :: ops) (Nat.succ.inj hl) (st1.step x2 rp2) (rb.keep (x2.kp st1.live noW_seq))
theorem snd_cmp {f : Expr → DE} (h : ∀ e, Snd2 C env ns (f e) e) {l : Expr} {ops : List CmpOp} {es : List Expr} {p : Pos} (hs : es.all notSet = true) (hl : ops.length = es.length) : Snd2 C env ns (cmpE (f l) ops (es.map f)) (.Compare l ops es p) := by
  refine ⟨fun {ρ s M H} st => ?_, fun {ρ s M H} st => ?_⟩
  · show Ev VRel C (eval l env >>= fun v => compareChain p v ops (markedEach ops es (evalEach es env))) s M _
    rw [marked_same ops es _ hs]
    exact ((h l).1 st).then fun a H₁ v s₁ M₁ x1 rp1 ra => chain_value h es ops hl (st.step x1 rp1) ra
  · show Ev EqR C (eval l env >>= fun v => testChain p v ops (markedEach ops es (evalEach es env))) s M (((f l ρ H).bind fun a H₁ => chainE a ops (es.map f) ρ H₁).bind fun a H₁ => asBool a fun b => .ok b H₁)
    rw [marked_same ops es _ hs, bind_bind]
    exact ((h l).1 st).then fun a H₁ v s₁ M₁ x1 rp1 ra => chain_test h es ops hl (st.step x1 rp1) ra
theorem snd_bop {f : Expr → DE} (h : ∀ e, Snd2 C env ns (f e) e) {k : Bool} {es : List Expr} {p : Pos} : Snd2 C env ns (bopE k (es.map f)) (.BoolOp (opOf k) es p) := ⟨fun st => bop_value h k es st, fun st => bop_test h k es st⟩
end
noncomputable def EvC (C : Cx) (c : Code) (s : Shared) (M : Mp) : Out AV → Prop
  | .ok y H' => codeAny C.S.M C.A c (fun r s' => ∃ v, r = .ok (.ret v) ∧ Post VRel C s M y H' v s') s
  | .exc x H' => codeAny C.S.M C.A c (fun r s' => ∃ e, r = .error e ∧ PostX C s M x H' e s') s
  | .bad => True
noncomputable def CallOK (S : Stat) (hot : Bool) (d : Nat) (f : Addr) (args : List AV) (H : AH) (o : Out AV) : Prop :=
  ∀ (C : Cx) (s : Shared) (M : Mp) (vals : List Value), C.S = S → C.hot = hot → d ≤ C.d → Live C s.heap M → Rep S C.pv s.heap M H → VRels (C.wd s.heap M) vals args → EvC C (.call (.ref f) ⟨vals, []⟩) s M o
noncomputable def FOK (S : Stat) (hot : Bool) (d : Nat) (Φ : FT) : Prop := ∀ f fa args H, S.fa f = some fa → CallOK S hot d fa args H (Φ f args H)
theorem Ev.ofCode {C : Cx} {f : Value} {vals : List Value} {s : Shared} {M : Mp} {o : Out AV} (h : EvC C (.call f ⟨vals, []⟩) s M o) : Ev VRel C (call f vals) s M o := by
  cases o with
  | bad => trivial
  | ok y H' => exact wpAny_call (codeAny_mono h fun r s' z_1 => x1_2 z_1 fun v e p => by subst e; exact p)
  | exc c H' => exact wpAny_call (codeAny_mono h fun r s' z_2 => x1_2 z_2 fun v e p => by subst e; exact p)
section
variable {C : Cx} {G : Gm} {Φ : FT} {d : Nat} {env : Env} {ns : List (Option Str)}
theorem star_cons {e : Expr} {r : List Expr} (h : notStar e = true) : starEach (e :: r) env = (false, eval e env) :: starEach r env := by
  cases e <;> first | rfl | cases h
theorem back_cons {e : Expr} {r : List Expr} {pos : Pos} (h : notStar e = true) : backTo pos (starEach (e :: r) env) = (false, eval e env) :: backTo pos (starEach r env) := by
  rw [star_cons h]; rfl
theorem back_plain {pos : Pos} : ∀ (es : List Expr), es.all notStar = true → (backTo pos (starEach es env)).any (·.1) = false
  | [], _ => rfl
  | e :: r, h => by
    simp only [List.all_cons, Bool.and_eq_true] at h
    rw [back_cons h.1]
    simpa using back_plain r h.2
theorem snd_list {f : Expr → DE} (h : ∀ e, Snd2 C env ns (f e) e) {pos : Pos} : ∀ (es : List Expr), es.all notStar = true → ∀ {ρ : RE} {s : Shared} {M : Mp} {H : AH}, St C env ns ρ s M H → Ev VRels C (spliced (backTo pos (starEach es env))) s M (evL (es.map f) ρ H)
  | [], _, ρ, s, M, H, st => Ev.pure st.rep .nil
  | e :: r, hs, ρ, s, M, H, st => by
    simp only [List.all_cons, Bool.and_eq_true] at hs
    rw [back_cons hs.1]
    show Ev VRels C (eval e env >>= fun v => pure [v] >>= fun here => holding here (spliced (backTo pos (starEach r env))) >>= fun vs => pure (here ++ vs)) s M ((f e ρ H).bind fun a H₁ => (evL (r.map f) ρ H₁).bind fun as H₂ => .ok (a :: as) H₂)
    refine ((h e).1 st).then fun a H₁ v s₁ M₁ x1 rp1 ra => Ev.look (fun z => wpAny_pure z) ?_
    have st1 := st.step x1 rp1
    refine Ev.then (Ev.holding (snd_list h r hs.2 st1)) fun as H₂ vs s₂ M₂ x2 rp2 rs => ?_
    exact Ev.pure rp2 (.cons (ra.keep (x2.kp st1.live noW_seq)) rs)
theorem snd_tup {f : Expr → DE} (h : ∀ e, Snd2 C env ns (f e) e) {es : List Expr} {k : Nat} {p : Pos} (hs : es.all notStar = true) : Snd C env ns (tupE (es.map f)) (.Tuple es k p) := fun {ρ s M H} st => by
  show Ev VRel C (standAt p >>= fun _ => spliced (backTo p (starEach es env)) >>= fun vs => newTuple vs) s M _
  refine Ev.stand ((snd_list h es hs st).then fun as H₁ vs s₁ M₁ x1 rp1 ra => Ev.ite fun hz => ?_)
  exact wpAny_newTuple (post_push rp1 (new_tup (vs := vs.toArray) (n := 0) (st.live.step x1) rp1 (by simpa using ra) rfl) _) (by rw [ra.1]; exact hz)
theorem snd_lst {mt : Bool} {f : Expr → DE} (h : ∀ e, Snd2 C env ns (f e) e) {es : List Expr} {p : Pos} (hs : es.all notStar = true) : Snd C env ns (lstE mt (es.map f)) (.List es p) := fun {ρ s M H} st => by
  show Ev VRel C (standAt p >>= fun _ => spliced (backTo p (starEach es env)) >>= fun vs => newList vs) s M _
  refine Ev.stand ((snd_list h es hs st).then fun as H₁ vs s₁ M₁ x1 rp1 ra => Ev.ite fun hz => ?_)
  exact ev_newL (st.live.step x1) rp1 fun k => wpAny_newList (k _ vs.toArray 0 _ _ (fun b o e => Heap.get?_push_of_some _ e) (size_none _) (Heap.get?_push_size _ rfl) (by simpa using ra)) (by rw [ra.1]; exact hz)
noncomputable def ArgsR : RelT Args (List AV) := fun w a xs => a.kw = [] ∧ VRels w a.pos xs
theorem args_ev {f : Expr → DE} (h : ∀ e, Snd2 C env ns (f e) e) {es : List Expr} {pos : Pos} {fv : Value} {ρ : RE} {s : Shared} {M : Mp} {H : AH} (hs : es.all notStar = true) (st : St C env ns ρ s M H) : Ev ArgsR C (evalArgs fv true (backTo pos (starEach es env)) []) s M (evL (es.map f) ρ H) := by
  have := snd_list h (pos := pos) es hs st
  cases es with
  | nil => exact PyProof.Rows.evalArgs_none (post_here st.rep ⟨rfl, .nil⟩)
  | cons e r =>
    simp only [List.all_cons, Bool.and_eq_true] at hs
    rw [back_cons hs.1] at this ⊢
    generalize evL ((e :: r).map f) ρ H = o at this
    cases o with
    | bad => trivial
    | exc c H' => exact Calls.evalArgs_plain (wpAny_mono this (fun _ _ q => q.elim) fun _ _ q => q)
    | ok y H' => exact Calls.evalArgs_plain (wpAny_mono this (fun _ _ z_3 => x1_3 z_3 fun M' a b c => ⟨M', a, b, rfl, c⟩) fun _ _ q => q)
theorem call_ev {f : Expr → DE} (h : ∀ e, Snd2 C env ns (f e) e) {es : List Expr} {pos : Pos} {fv : Value} {first : List Value} {ρ : RE} {s : Shared} {M : Mp} {H : AH} {t : Sem Value} {g : List AV → AH → Out AV} (hs : es.all notStar = true) (st : St C env ns ρ s M H)
    (cw : ∀ {P : Value → Shared → Prop} {E : Value → Shared → Prop}, wpAny C.S.M C.A (evalArgs fv true (backTo pos (starEach es env)) []) (fun a s₁ => C.S.K.In s₁.heap ∧ wpAny C.S.M C.A (call fv (first ++ a.pos) a.kw) P E s₁) E s → wpAny C.S.M C.A t P E s)
    (hk : ∀ as H₁ vals s₁ M₁, Step C noW s M s₁ M₁ → St C env ns ρ s₁ M₁ H₁ → VRels (C.wd s₁.heap M₁) vals as → Ev VRel C (call fv (first ++ vals)) s₁ M₁ (g as H₁)) : Ev VRel C t s M ((evL (es.map f) ρ H).bind g) := by
  have A := args_ev (fv := fv) (pos := pos) h hs st
  generalize evL (es.map f) ρ H = o at A
  cases o with
  | bad => trivial
  | exc c H' => exact cw (wpAny_mono A (fun _ _ q => q.elim) fun _ _ q => q)
  | ok as H₁ =>
    show Ev VRel C t s M (g as H₁)
    have B := fun vals s₁ M₁ x1 rp1 r => hk as H₁ vals s₁ M₁ x1 (st.step x1 rp1) r
    generalize g as H₁ = o' at B
    cases o' with
    | bad => trivial
    | exc c H' =>
      refine cw (wpAny_mono A (fun a s₁ z_4 => x1_4 z_4 fun M₁ x1 rp1 hkw r => ⟨(st.live.step x1).K, ?_⟩) fun _ _ q => q.elim)
      rw [hkw]
      exact wpAny_mono (B a.pos s₁ M₁ x1 rp1 r) (fun _ _ q => q) fun _ _ z_5 => x3_2 z_5 fun e M₂ B he z => ⟨e, M₂, B, he, z.after x1 fun _ q => q⟩
    | ok y H' =>
      refine cw (wpAny_mono A (fun a s₁ z_6 => x1_4 z_6 fun M₁ x1 rp1 hkw r => ⟨(st.live.step x1).K, ?_⟩) fun _ _ q => q.elim)
      rw [hkw]
      exact wpAny_mono (B a.pos s₁ M₁ x1 rp1 r) (fun _ _ z_7 => x1_2 z_7 fun M₂ x2 z => ⟨M₂, x1.trans x2, z⟩) fun _ _ q => q
theorem fnIn_keep {K : Frag} {f : Addr} (h : fnIn K f = true) : keepIn K (.ref f) = true := by
  unfold fnIn at h
  unfold keepIn
  split at h
  · rename_i e; simp only [e]
  · cases h
theorem snd_call {f : Expr → DE} (Y : Fit C.S G) (F : FOK C.S C.hot d Φ) (hd : d ≤ C.d) (h : ∀ e, Snd2 C env ns (f e) e) {x : Str} {i : Nat} {es : List Expr} {p p' : Pos} (hk : env.kindOf x = some .globalImplicit) (hdb : (x == ("__debug__" : Str)) = false) (hi : C.S.T.fns[i]? = some (some x)) (hs : es.all notStar = true) :
    Snd C env ns (callE Φ i (es.map f)) (.Call (.Name x p') es [] p) := fun {ρ s M H} st => by
  refine x1_3 (Y.fn i x hi) fun fa h1 h2 h3 => ?_
  show Ev VRel C (eval (.Name x p') env >>= fun fv => callWith p fv [] (backTo p (starEach es env)) []) s M _
  refine Ev.look (fun z => name_glob st hk hdb h2 z) ?_
  refine call_ev (first := []) h hs st (fun z => callWith_of (P := C.S.K.In) (by rw [back_plain es hs]; rfl) (keeps_K (fnIn_keep h3)) z) fun as H₁ vals s₁ M₁ x1 st1 r => ?_
  exact Ev.ofCode (F i fa as H₁ h1 C s₁ M₁ vals rfl rfl hd st1.live st1.rep r)
theorem biV_shape (b : Bi) : (∃ i, biV b = .builtin i) ∨ ∃ T, biV b = .type T := by cases b <;> first | exact .inl ⟨_, rfl⟩ | exact .inr ⟨_, rfl⟩
theorem snd_bi {f : Expr → DE} (Y : Fit C.S G) (h : ∀ e, Snd2 C env ns (f e) e) {x : Str} {b : Bi} {es : List Expr} {p p' : Pos} (hk : env.kindOf x = some .globalImplicit) (hdb : (x == ("__debug__" : Str)) = false) (hn : x ≠ "__name__") (hx : x ∈ biNames) (hb : bootBuiltins x = some (biV b)) (hs : es.all notStar = true) :
    Snd C env ns (biE C.hot b (es.map f)) (.Call (.Name x p') es [] p) := fun {ρ s M H} st => by
  show Ev VRel C (eval (.Name x p') env >>= fun fv => callWith p fv [] (backTo p (starEach es env)) []) s M _
  refine Ev.look (fun z => name_boot st hk hdb (Y.bi x hx) hb hn z) ?_
  refine call_ev (first := []) (pos := p) h hs st (fun {P E} z => ?_) fun as H₁ vals s₁ M₁ x1 st1 r => prim_bi st1.live st1.rep r
  have z' := wpAny_mono z (fun a s₁ q => q.2) fun _ _ q => q
  rcases biV_shape b with ⟨i, e⟩ | ⟨T, e⟩ <;> rw [e] at z' ⊢
  · exact Calls.callWith_builtin (back_plain es hs) z'
  · exact PyProof.Rows.callWith_type (back_plain es hs) z'
theorem base_plain {o : Expr} {m : Str} {w : Sem Value} (h : plainBase o = true) : attributeBase o m env w = w := by
  cases o <;> first | rfl | skip
  rename_i f as ks p
  cases f <;> first | rfl | skip
  cases as <;> first | rfl | skip
  cases ks <;> first | rfl | cases h
theorem form_ok {pos : Pos} {es : List Expr} (hs : es.all notStar = true) (hl : es.length < 20) : methodCallForm (es.length + ([] : List Keyword).length) (backTo pos (starEach es env)) (backToKw pos (keywordEach [] env)) = true := by
  unfold methodCallForm
  have h1 : (backTo pos (starEach es env)).all (fun x => !x.1) = true := by
    have := back_plain (env := env) (pos := pos) es hs
    rw [List.all_eq_true]
    rw [List.any_eq_false] at this
    intro x hx
    simpa using this x hx
  rw [h1]
  simp only [Bool.true_and]
  have h2 : (backToKw pos (keywordEach [] env)).all (fun x => x.1.isSome) = true := rfl
  have h3 : (backToKw pos (keywordEach [] env)).isEmpty = true := rfl
  rw [h2, h3]
  simp
  lia
theorem snd_mb {f : Expr → DE} (h : ∀ e, Snd2 C env ns (f e) e) {b : Bm} {o' : Expr} {es : List Expr} {apos p : Pos} (hb : plainBase o' = true) (hs : es.all notStar = true) (hl : es.length < 20) (hline : (apos.endLine == p.line) = true) :
    Snd C env ns (mbE b (f o') (es.map f)) (.Call (.Attribute o' b.name apos) es [] p) := fun {ρ s M H} st => by
  show Ev VRel C (eval (.Call (.Attribute o' b.name apos) es [] p) env) s M _
  rw [arm_eval_Call, base_plain hb]
  refine ((h o').1 st).then fun a H₁ v s₁ M₁ x1 rp1 ra => Ev.orBad fun id hid => Ev.stand ?_
  unfold methodCall
  rw [form_ok hs hl]
  have hpos : methodCallPos true o' env apos p = pure p := by unfold methodCallPos; simp [hline]
  have st1 := st.step x1 rp1
  refine x1_5 (meth_at rp1 ra hid) fun T pa slot hty hT hdd => ?_
  refine Ev.look (fun z => wpAny_holding (getMethod_builtin hT pa slot hty hdd z)) (Ev.look (fun z => wpAny_of_eq hpos z) ?_)
  refine call_ev (first := [v]) h hs st1 (fun z => Calls.callWith_builtin (back_plain es hs) (wpAny_mono z (fun a s₁ q => q.2) fun _ _ q => q)) fun as H₂ vals s₂ M₂ x2 st2 r => Ev.ite fun hkd => ?_
  rw [hkd] at hid
  exact prim_mb st2.live st2.rep (ra.keep (x2.kp st1.live noW_seq)) r hid
theorem snd_mo {f : Expr → DE} (Y : Fit C.S G) (F : FOK C.S C.hot d Φ) (hd : d ≤ C.d) (h : ∀ e, Snd2 C env ns (f e) e) {m : Nat} {x : Str} {o' : Expr} {es : List Expr} {apos p : Pos} (hx : C.S.T.mn[m]? = some x) (hb : plainBase o' = true) (hs : es.all notStar = true) (hl : es.length < 20) (hline : (apos.endLine == p.line) = true) :
    Snd C env ns (moE G Φ m (f o') (es.map f)) (.Call (.Attribute o' x apos) es [] p) := fun {ρ s M H} st => by
  show Ev VRel C (eval (.Call (.Attribute o' x apos) es [] p) env) s M _
  rw [arm_eval_Call, base_plain hb]
  refine ((h o').1 st).then fun a H₁ v s₁ M₁ x1 rp1 ra => Ev.orBad fun i hi => Ev.orBad fun fi hf => Ev.stand ?_
  obtain ⟨n, c, fs⟩ := i
  unfold methodCall
  rw [form_ok hs hl]
  have hpos : methodCallPos true o' env apos p = pure p := by unfold methodCallPos; simp [hline]
  have st1 := st.step x1 rp1
  refine x4_7 (in_of rp1 ra hi) fun q D ds k e4' z hc I hde fr ne => ?_; subst e4'
  refine x2_6 (Y.mth c D m fi hc hf) fun x' fa e1 e2 e3 e4 e5 e6 => ?_
  rw [hx] at e1
  cases e1
  have K := Y.cls c D hc
  refine Ev.look (fun z => wpAny_holding (method_fn st1.live.K I K.ga K.gt e4 (beq_iff_eq.mp e5) ?_ z)) (Ev.look (fun z => wpAny_of_eq hpos z) ?_)
  · have := fr.2.2.1 x e2
    show (lookIn x (dictOf ds k)).map _ = _
    rw [lookIn_dict, this]; rfl
  refine call_ev (first := [.ref q.1]) h hs st1 (fun z => callWith_of (P := C.S.K.In) (by rw [back_plain es hs]; rfl) (keeps_K (fnIn_keep e6)) z) fun as H₂ vals s₂ M₂ x2 st2 r => ?_
  exact Ev.ofCode (F fi fa (a :: as) H₂ e3 C s₂ M₂ (.ref q.1 :: vals) rfl rfl hd st2.live st2.rep (.cons (ra.keep (x2.kp st1.live noW_seq)) r))
theorem snd_attr (Y : Fit C.S G) {f : DE} {k : Nat} {e' : Expr} {x : Str} {p : Pos} (h0 : Snd C env ns f e') (hx : C.S.an[k]? = some x) (hb : plainBase e' = true) : Snd C env ns (attrE k f) (.Attribute e' x p) := fun {ρ s M H} st => by
  show Ev VRel C (attributeBase e' x env (eval e' env) >>= fun o => standAt p.atName >>= fun _ => holding [o] (getAttr o x true) >>= fun r => letTemporaryGo e' o r >>= fun _ => pure r) s M _
  rw [base_plain hb]
  refine (h0 st).then fun a H₁ v s₁ M₁ x1 rp1 ra => Ev.orBad fun i hi => Ev.stand ?_
  obtain ⟨n, c, fs⟩ := i
  show Ev VRel C _ s₁ M₁ (match fs[k]? with | some (some v) => .ok v H₁ | _ => .bad)
  split
  · rename_i b hb
    rw [show Out.ok b H₁ = (Out.ok b H₁).bind fun y H => .ok y H from rfl]
    refine Ev.then (Ev.holding (prim_attr Y (st.live.step x1) rp1 ra hi hx hb)) fun y H₂ u s₂ M₂ x2 rp2 ry => ?_
    exact Ev.look (v := ()) (fun z => wpAny_letTemporaryGo z) (Ev.pure rp2 ry)
  · trivial
end
section
variable {C : Cx} {G : Gm} {Φ : FT} {d : Nat} {env : Env} {ns : List (Option Str)}
theorem getitem_at {s : Shared} {M : Mp} {H : AH} {v : Value} {a : AV} (rp : Rep C.S C.pv s.heap M H) (r : VRel (C.wd s.heap M) v a) (h : (∃ xs, lsOf H a = some xs) ∨ (∃ xs, a = .tup xs) ∨ (∃ x, a = .str x) ∨ ∃ p, dcOf H a = some p) :
    ∃ T id, s.TypeIs v T ∧ typeLookup (.type T) "__getitem__" = pure (some (.builtin id)) := by
  rcases h with ⟨xs, e⟩ | ⟨xs, rfl⟩ | ⟨x, rfl⟩ | ⟨⟨n, es⟩, e⟩
  · refine x3_3 (ls_of rp r e) fun l vs n e3' hl rl => ?_; subst e3'
    exact ⟨"list", _, ⟨_, hl, rfl⟩, list_getitem_lookup⟩
  · refine x3_3 (r.inv) fun l vs n e3' ho _ => ?_; subst e3'
    exact ⟨"tuple", _, ⟨_, ho, rfl⟩, F.slot_tuple_getitem.lookup⟩
  · refine x1_2 (r.inv) fun t e1' _ => ?_; subst e1'
    exact ⟨"str", _, typeIs_str _ _ _, F.slot_str_getitem.lookup⟩
  · refine x2_5 (dc_of rp r e) fun p kvs e2' z _ hd _ => ?_; subst e2'
    exact ⟨"dict", _, hd.typeIs, F.slot_dict_getitem.lookup⟩
noncomputable def itemy (H : AH) (a : AV) : Bool := (lsOf H a).isSome || (dcOf H a).isSome || (match a with | .tup _ => true | .str _ => true | _ => false)
theorem itemy_shape {H : AH} {a : AV} (h : itemy H a = true) : (∃ xs, lsOf H a = some xs) ∨ (∃ xs, a = .tup xs) ∨ (∃ x, a = .str x) ∨ ∃ p, dcOf H a = some p := by
  unfold itemy at h
  rw [Bool.or_eq_true, Bool.or_eq_true] at h
  rcases h with (h | h) | h
  · exact .inl (Option.isSome_iff_exists.mp h)
  · exact .inr (.inr (.inr (Option.isSome_iff_exists.mp h)))
  · cases a with
    | tup xs => exact .inr (.inl ⟨xs, rfl⟩)
    | str x => exact .inr (.inr (.inl ⟨x, rfl⟩))
    | _ => cases h
theorem tf_no {P : Prop} (h : true = false) : P := nomatch h
theorem sub_itemy {a i : AV} {H : AH} (h : itemy H a = false) : subA a i H = .bad := by
  unfold itemy at h
  rw [Bool.or_eq_false_iff, Bool.or_eq_false_iff] at h
  obtain ⟨⟨h1, h2⟩, h3⟩ := h
  have e1 : lsOf H a = none := by simpa using h1
  have e2 : dcOf H a = none := by simpa using h2
  unfold subA
  rw [e2]
  cases i <;> first | rfl | skip
  cases a <;> first | exact tf_no h3 | (simp only [asInt, e1]; rfl)
theorem slc_itemy {mt : Bool} {a l u t : AV} {H : AH} (h : itemy H a = false) : slcA mt a l u t H = .bad := by
  unfold itemy at h
  rw [Bool.or_eq_false_iff, Bool.or_eq_false_iff] at h
  obtain ⟨⟨h1, h2⟩, h3⟩ := h
  have e1 : lsOf H a = none := by simpa using h1
  unfold slcA
  cases optI l <;> first | rfl | skip
  cases optI u <;> first | rfl | skip
  cases optI t <;> first | rfl | skip
  cases a <;> first | exact tf_no h3 | (simp only [orBad, e1])
theorem tail_ev {value slice : Expr} {o i : Value} {s : Shared} {M : Mp} {H : AH} {a : AV} {r : Out AV} {ops : List Value} (rp : Rep C.S C.pv s.heap M H) (ra : VRel (C.wd s.heap M) o a) (hb : itemy H a = false → r = .bad)
    (hs : subscripted slice false o i = operate ops (getItem o i)) (hg : Ev VRel C (getItem o i) s M r) : Ev VRel C (getitemInPython o >>= fun b => subscripted slice b o i >>= fun r => letTemporaryGo value o r >>= fun _ => pure r) s M r := by
  cases h : itemy H a with
  | false => rw [hb h]; trivial
  | true =>
    refine x2_2 (getitem_at rp ra (itemy_shape h)) fun T id hT hl => ?_
    exact hg.map fun z => tail_any (value := value) hT hl z hs
theorem snd_sub {f g : DE} {e' i' : Expr} {p : Pos} (h0 : Snd C env ns f e') (h1 : Snd C env ns g i') (hn : notSlice i' = true) : Snd C env ns (subE f g) (.Subscript e' i' p) := fun {ρ s M H} st => by
  show Ev VRel C (eval e' env >>= fun o => holding [o] (eval i' env) >>= fun i => standAt p >>= fun _ => getitemInPython o >>= fun b => subscripted i' b o i >>= fun r => letTemporaryGo e' o r >>= fun _ => pure r) s M _
  refine (h0 st).then fun a H₁ v s₁ M₁ x1 rp1 ra => ?_
  have st1 := st.step x1 rp1
  refine Ev.then (Ev.holding (h1 st1)) fun b H₂ u s₂ M₂ x2 rp2 rb => Ev.stand ?_
  have ra2 := ra.keep (x2.kp st1.live noW_seq)
  exact tail_ev (ops := [v, u]) rp2 ra2 sub_itemy (by cases i' <;> first | rfl | cases hn) (prim_sub (st1.live.step x2) rp2 ra2 rb)
noncomputable def SndO (C : Cx) (env : Env) (ns : List (Option Str)) (f : DE) (e : Option Expr) : Prop :=
  ∀ {ρ : RE} {s : Shared} {M : Mp} {H : AH}, St C env ns ρ s M H → Ev VRel C (valueOrNone (evalOpt e env)) s M (f ρ H)
theorem snd_opt {f : Expr → DE} (h : ∀ e, Snd2 C env ns (f e) e) : ∀ o : Option Expr, SndO C env ns ((o.map f).getD (cstE .none)) o
  | none => fun st => Ev.pure st.rep .none
  | some e => fun st => (h e).1 st
noncomputable def SliceR : RelT Value (AV × AV × AV) := fun w v a => ∃ g w₁ w₂ w₃, v = .ref g ∧ w.h.IsSliceOf g w₁ w₂ w₃ ∧ VRel w w₁ a.1 ∧ VRel w w₂ a.2.1 ∧ VRel w w₃ a.2.2
theorem snd_slc {mt : Bool} {f lo hi t : DE} {e' : Expr} {lo' hi' t' : Option Expr} {p p' : Pos} (h0 : Snd C env ns f e') (h1 : SndO C env ns lo lo') (h2 : SndO C env ns hi hi') (h3 : SndO C env ns t t') : Snd C env ns (slcE mt f lo hi t) (.Subscript e' (.Slice lo' hi' t' p') p) := fun {ρ s M H} st => by
  show Ev VRel C (eval e' env >>= fun o => holding [o] (eval (.Slice lo' hi' t' p') env) >>= fun i => standAt p >>= fun _ => getitemInPython o >>= fun b => subscripted (.Slice lo' hi' t' p') b o i >>= fun r => letTemporaryGo e' o r >>= fun _ => pure r) s M _
  refine (h0 st).then fun a H₁ v s₁ M₁ x1 rp1 ra => ?_
  have st1 := st.step x1 rp1
  have sl : Ev SliceR C (eval (.Slice lo' hi' t' p') env) s₁ M₁ ((lo ρ H₁).bind fun l H₂ => (hi ρ H₂).bind fun u H₃ => (t ρ H₃).bind fun k H₄ => .ok (l, u, k) H₄) := by
    show Ev SliceR C (valueOrNone (evalOpt lo' env) >>= fun l => holding [l] (valueOrNone (evalOpt hi' env)) >>= fun u => holding [l, u] (valueOrNone (evalOpt t' env)) >>= fun k => newFields "slice" [l, u, k]) s₁ M₁ _
    refine (h1 st1).then fun a H₁ v s₁ M₁ x1 rp1 ra => ?_
    have st1 := st1.step x1 rp1
    refine Ev.then (Ev.holding (h2 st1)) fun b H₂ u s₂ M₂ x2 rp2 rb => ?_
    have st2 := st1.step x2 rp2
    refine Ev.then (Ev.holding (h3 st2)) fun c H₃ k s₃ M₃ x3 rp3 rc => ?_
    have ex : ∀ {o : Obj}, Kp (C.wd s₃.heap M₃) (C.wd (s₃.heap.push o) M₃) := fun {o} => kp_ext fun b o e => Heap.get?_push_of_some _ e
    exact wpAny_newObj_type (post_push rp3 ⟨_, v, u, k, rfl, Heap.IsSliceOf.new _ _ _ _, ((ra.keep (x2.kp st1.live noW_seq)).keep (x3.kp st2.live noW_seq)).keep ex, (rb.keep (x3.kp st2.live noW_seq)).keep ex, rc.keep ex⟩ _)
  have : ((lo ρ H₁).bind fun l H₂ => (hi ρ H₂).bind fun u H₃ => (t ρ H₃).bind fun k H₄ => slcA mt a l u k H₄) = ((lo ρ H₁).bind fun l H₂ => (hi ρ H₂).bind fun u H₃ => (t ρ H₃).bind fun k H₄ => .ok (l, u, k) H₄).bind fun y H₄ => slcA mt a y.1 y.2.1 y.2.2 H₄ := by
    simp only [bind_bind]; rfl
  show Ev VRel C _ s₁ M₁ ((lo ρ H₁).bind fun l H₂ => (hi ρ H₂).bind fun u H₃ => (t ρ H₃).bind fun k H₄ => slcA mt a l u k H₄)
  rw [this]
  refine Ev.then (Ev.holding sl) fun y H₂ i s₂ M₂ x2 rp2 ri => Ev.stand ?_
  refine x4_5 (ri) fun g w₁ w₂ w₃ e4' hg r1 r2 r3 => ?_; try clear ri; subst e4'
  have ra2 := ra.keep (x2.kp st1.live noW_seq)
  have hsub : ∃ ops, subscripted (.Slice lo' hi' t' p') false v (.ref g) = operate ops (getItem v (.ref g)) := by
    cases t'
    · exact ⟨[.ref g, v], rfl⟩
    · exact ⟨[v, .ref g], rfl⟩
  obtain ⟨ops, hsub⟩ := hsub
  exact tail_ev (ops := ops) rp2 ra2 slc_itemy hsub (prim_slc (st1.live.step x2) rp2 ra2 r1 r2 r3 hg)
theorem snd_dct0 {p : Pos} : Snd C env ns dct0E (.Dict [] [] p) := fun {ρ s M H} st => by
  show Ev VRel C (standAt p >>= fun _ => dictDisplay []) s M (.ok (.ref H.length) (H ++ [.dict []]))
  refine Ev.stand ?_
  show wpAny C.S.M C.A newDict _ _ s
  have hr := size_none s.heap
  have k : ∀ (ob : Obj) b o, s.heap.get? b = some o → (s.heap.push ob).get? b = some o := fun ob b o e => Heap.get?_push_of_some _ e
  refine wpAny_bind (wpAny_alloc (wpAny_pure ⟨M ++ [(s.heap.objs.size, s.heap.objs.size)], Step.new (t := s.toks) (k _) hr hr, st.rep.newO (fun a q => st.live.priv a (.inr q)) (fun _ q => nomatch q) (k _) hr hr ⟨rfl, [], Heap.DictOf.new _, rfl, .nil, fun _ h => nomatch h⟩, .ref (p := (s.heap.objs.size, s.heap.objs.size)) ?_⟩))
  show (M ++ [_])[H.length]? = _
  rw [← st.rep.len]; simp
theorem disp_one {k v : Sem Value} {S : Model} {A : Around} {P : Value → Shared → Prop} {E : Value → Shared → Prop} {s : Shared} {p : Pos} (h : wpAny S A (alloc { cls := .type "dict", data := .dict #[] } >>= fun d => k >>= fun a => v >>= fun b => standAt p >>= fun _ => dictSet d a b >>= fun _ => pure (.ref d)) P E s) : wpAny S A (dictDisplay [(some k, v >>= fun x => standAt p >>= fun _ => pure x)]) P E s := by
  rw [show dictDisplay [(some k, v >>= fun x => standAt p >>= fun _ => pure x)] = _ from dictDisplay_pairs [(k, v >>= fun x => standAt p >>= fun _ => pure x)] (by simp) (by simp)]
  intro Γ q hΓ
  have := h Γ q hΓ
  unfold subDict
  simp only [List.length_cons, List.length_nil, if_pos (show 0 + 1 ≤ 15 by decide), evalPairs, Sem.wp_bind', Sem.wp_holding, Sem.wp_pure', List.forIn_cons, List.forIn_nil] at this ⊢
  exact this
theorem prim_dset {s : Shared} {M : Mp} {H H' : AH} {v : Value} {w₀ : Value} {d : Addr} {o i a : AV} (L : Live C s.heap M) (rp : Rep C.S C.pv s.heap M H) (ro : VRel (C.wd s.heap M) (.ref d) o) (ri : VRel (C.wd s.heap M) w₀ i) (rv : VRel (C.wd s.heap M) v a) {n : Nat} {es : List (Key × AV)} (ho : o = .ref n) (q : H[n]? = some (.dict es)) (e : setItemA o i a H = some H') : Ev EqR C (dictSet d w₀ v) s M (.ok () H') := by
  subst ho
  rw [setItemA_at q] at e
  simp only at e
  split at e <;> first | exact no_some e | skip
  rename_i hz
  refine x1_2 (Option.map_eq_some_iff.mp e) fun k hk e2' => ?_; subst e2'
  refine x2_7 (dc_of (n := n) (es := es) rp ro (dcOf_at q)) fun p kvs e2' z ep hm e1 e2 ok => ?_; cases e2'
  have hlen : kvs.length = es.length := by simpa using congrArg List.length e1
  refine wpAny_dictSet_pairs (hsz := by rw [hlen, sizeLine_eq]; lia) (key_is ri hk).1 hm fun h' hm' hsb => ?_
  refine post_setO L rp z (fun es e => by rw [q] at e; cases e) (fun _ q => nomatch q) (fun b o hb _ z => (hsb.2 b hb).trans z) (fun K => ?_) (fun K => rfl)
  have hz := zip_stored (k := k) (rv.keep K) e1 (e2.keep K)
  exact ⟨ep, _, hm', hz.1, hz.2, setD_ok ok (key_is ri hk).2⟩
theorem snd_dct1 {f g : DE} {e' i' : Expr} {p : Pos} (h0 : Snd C env ns f e') (h1 : Snd C env ns g i') : Snd C env ns (dct1E f g) (.Dict [some e'] [i'] p) := fun {ρ s M H} st => by
  show Ev VRel C (standAt p >>= fun _ => dictDisplay [(some (eval e' env), eval i' env >>= fun x => standAt p >>= fun _ => pure x)]) s M (dctF f g ρ (.ref H.length) (H ++ [.dict []]))
  refine Ev.stand (Ev.map disp_one ?_)
  have hr := size_none s.heap
  have k : ∀ (ob : Obj) b o, s.heap.get? b = some o → (s.heap.push ob).get? b = some o := fun ob b o e => Heap.get?_push_of_some _ e
  have a0 : Ev (fun w d a => VRel w (.ref d) a) C (alloc { cls := .type "dict", data := .dict #[] }) s M (.ok (.ref H.length) (H ++ [.dict []])) := wpAny_alloc ⟨M ++ [(s.heap.objs.size, s.heap.objs.size)], Step.new (t := s.toks) (k _) hr hr, st.rep.newO (fun a q => st.live.priv a (.inr q)) (fun _ q => nomatch q) (k _) hr hr ⟨rfl, [], Heap.DictOf.new _, rfl, .nil, fun _ h => nomatch h⟩, .ref (p := (s.heap.objs.size, s.heap.objs.size)) (by
    show (M ++ [_])[H.length]? = _
    rw [← st.rep.len]; simp)⟩
  refine Ev.then (f := fun d H => dctF f g ρ d H) a0 fun a H₁ dd s₁ M₁ x1 rp1 ra => ?_
  have st1 := st.step x1 rp1
  refine (h0 st1).then fun b H₂ u s₂ M₂ x2 rp2 rb => ?_
  have st2 := st1.step x2 rp2
  refine (h1 st2).then fun c H₃ w s₃ M₃ x3 rp3 rc => ?_
  refine Ev.stand (Ev.ite fun hd => Ev.orBad fun H₄ e => ?_)
  have kp2 := x2.kp st1.live noW_seq
  have kp3 := x3.kp st2.live noW_seq
  have ra1 : VRel (C.wd s₁.heap M₁) (.ref dd) a := ra
  have ra3 : VRel (C.wd s₃.heap M₃) (.ref dd) a := (ra1.keep kp2).keep kp3
  have L3 := st2.live.step x3
  obtain ⟨⟨n, es⟩, hq⟩ := Option.isSome_iff_exists.mp hd
  have ho : a = .ref n ∧ H₃[n]? = some (.dict es) := by
    cases a <;> first | exact no_some hq | skip
    rename_i m
    cases h : H₃[m]? with
    | none => rw [dcOf_at h] at hq; cases hq
    | some ao =>
      rw [dcOf_at h] at hq
      cases ao with
      | dict es' => cases hq; exact ⟨rfl, h⟩
      | ldict es' => rw [setItemA_at h] at e; cases e
      | _ => cases hq
  refine Ev.then (o := .ok () H₄) (f := fun _ H => .ok a H) (prim_dset L3 rp3 ra3 (rb.keep kp3) rc ho.1 ho.2 e) fun _ H₅ _ s₅ M₅ x5 rp5 _ => Ev.pure rp5 (ra3.keep (x5.kp L3 noW_seq))
theorem create_units (C : Addr) (rest : List Value) : (Code.builtin "type.__call__" ⟨.ref C :: rest, []⟩).weight = 1 ∧ (Code.builtin "type.__call__" ⟨.ref C :: rest, []⟩).cUnits ≤ 20 ∧ (Code.builtin "type.__call__" ⟨.ref C :: rest, []⟩).envs = [] := by
  refine ⟨rfl, ?_, rfl⟩
  have : ∃ n, n ≤ 20 ∧ (Code.builtin "type.__call__" ⟨.ref C :: rest, []⟩).cUnits = n := ⟨1, by decide, by with_unfolding_all rfl⟩
  refine x1_2 (this) fun n h1 h2 => ?_; try clear this
  lia
theorem new_ev {c f : Nat} {s : Shared} {M : Mp} {H : AH} {as : List AV} {vals : List Value} {D : Addr} (Y : Fit C.S G) (F : FOK C.S C.hot d Φ) (hd : d + 1 ≤ C.d) (hc : C.S.cl c = some D) (hf : G.fn c 0 = some f) (L : Live C s.heap M) (rp : Rep C.S C.pv s.heap M H) (ra : VRels (C.wd s.heap M) vals as) :
    Ev VRel C (call (.ref D) vals) s M ((Φ f (.ref H.length :: as) (H ++ [.inst c (List.replicate G.na none)])).bind fun r H₂ => match r with | .none => .ok (.ref H.length) H₂ | _ => .bad) := by
  refine x2_6 (Y.mth c D 0 f hc hf) fun x fa e1 e2 e3 e4 e5 e6 => ?_
  rw [Y.ini] at e1
  cases e1
  have K := Y.cls c D hc
  refine Ev.ofCode ?_
  obtain ⟨hp, g, dr, t, os⟩ := s
  have XK : C.S.K.In hp := L.K
  have mk : ∀ {R : Result → Shared → Prop}, codeAny C.S.M (C.A.under (.builtin "type.__call__" ⟨.ref D :: vals, []⟩)) (.call (.ref fa) ⟨.ref (hp.objs.size + 1) :: vals, []⟩) (InitBack (hp.objs.size + 1) R) ⟨(hp.push emptyDict).push (instObj D hp.objs.size), g, dr, t, os⟩ → codeAny C.S.M C.A (.call (.ref D) ⟨vals, []⟩) R ⟨hp, g, dr, t, os⟩ := fun z =>
    make_core (makes_of XK K.mks) (looks_findIn XK e4) (fun self => bind_fn XK self (beq_iff_eq.mp e5)) (.inl rfl) z
  refine x0_3 (create_units D vals) fun u1 u2 u3 => ?_
  let C' : Cx := { C with A := C.A.under (.builtin "type.__call__" ⟨.ref D :: vals, []⟩), d := C.d - 1 }
  have kp : ∀ b o, hp.get? b = some o → ((hp.push emptyDict).push (instObj D hp.objs.size)).get? b = some o := fun b o e => Heap.get?_push_of_some _ (Heap.get?_push_of_some _ e)
  have hdx : hp.get? hp.objs.size = none := size_none _
  have hx : hp.get? (hp.objs.size + 1) = none := by
    cases q : hp.get? (hp.objs.size + 1) with
    | none => rfl
    | some o => exact absurd (Heap.lt_size q) (Nat.not_lt.mpr (Nat.le_succ _))
  have hx1 : ((hp.push emptyDict).push (instObj D hp.objs.size)).get? (hp.objs.size + 1) = some (instObj D hp.objs.size) := by
    have := Heap.get?_push_size (hp.push emptyDict) (o := instObj D hp.objs.size) rfl
    rw [Heap.size_push] at this
    exact this
  have rp' : Rep C.S C.pv ((hp.push emptyDict).push (instObj D hp.objs.size)) (M ++ [(hp.objs.size + 1, hp.objs.size)]) (H ++ [.inst c (List.replicate G.na none)]) := by
    refine rp.newO (p := (hp.objs.size + 1, hp.objs.size)) (fun a q => L.priv a (.inr q)) (fun _ q => nomatch q) kp hx hdx ⟨Ne.symm (Nat.succ_ne_self _), D, [], 0, hc, hx1, Heap.get?_push_of_some _ (Heap.get?_push_size _ rfl), ?_, ?_, fun _ _ => rfl, fun k x hk => ?_⟩
    · unfold cnt; rw [List.countP_replicate]; rfl
    · rw [List.length_replicate]; exact Y.na
    · rw [List.getElem?_replicate]
      by_cases q : k < G.na
      · rw [if_pos q]; rfl
      · rw [if_neg q]; rfl
  have x1 : Step C noW ⟨hp, g, dr, t, os⟩ M ⟨(hp.push emptyDict).push (instObj D hp.objs.size), g, dr, t, os⟩ (M ++ [(hp.objs.size + 1, hp.objs.size)]) := Step.new (s := ⟨hp, g, dr, t, os⟩) (t := t) kp hx hdx
  have L1 := L.step x1
  have L' : Live C' ((hp.push emptyDict).push (instObj D hp.objs.size)) (M ++ [(hp.objs.size + 1, hp.objs.size)]) := by
    refine ⟨?_, L1.funs, L1.stays, L1.off, L1.new, fun h => L1.handled h, L1.dicts, ?_, ?_, L1.priv, L1.poff⟩
    · show pushEnvs (Code.builtin "type.__call__" ⟨.ref D :: vals, []⟩).envs C.A.frames = some C.fe
      rw [u3]; exact L1.frames
    · show C.A.depth + _ + (C.d - 1) < recursionLimit
      rw [u1]; have : C.A.depth + C.d < recursionLimit := L1.depth; lia
    · show C.A.units + _ + 20 * (C.d - 1) + 100 < cLine
      have : C.A.units + 20 * C.d + 100 < cLine := L1.units; lia
  have Ks : Kp (C.wd hp M) (C.wd ((hp.push emptyDict).push (instObj D hp.objs.size)) (M ++ [(hp.objs.size + 1, hp.objs.size)])) := kp_new kp hx hdx
  have self : VRel (C.wd ((hp.push emptyDict).push (instObj D hp.objs.size)) (M ++ [(hp.objs.size + 1, hp.objs.size)])) (.ref (hp.objs.size + 1)) (.ref H.length) := by
    refine .ref (p := (hp.objs.size + 1, hp.objs.size)) ?_
    show (M ++ [_])[H.length]? = _
    rw [← rp.len]; simp
  have back : ∀ {W : Addr → Prop} {s s' : Shared} {M M' : Mp}, Step C' W s M s' M' → Step C W s M s' M' := fun x => ⟨x.keep, x.slots, x.alive, x.pre, x.grow, x.gens, x.os⟩
  have B := F f fa (.ref H.length :: as) (H ++ [.inst c (List.replicate G.na none)]) e3 C' ⟨(hp.push emptyDict).push (instObj D hp.objs.size), g, dr, t, os⟩ _ (.ref (hp.objs.size + 1) :: vals) rfl rfl (by show d ≤ C.d - 1; lia) L' rp' (.cons self (ra.keep Ks))
  generalize Φ f (.ref H.length :: as) (H ++ [.inst c (List.replicate G.na none)]) = o at B
  cases o with
  | bad => trivial
  | exc c' H' =>
    refine mk (codeAny_mono B fun r s' ⟨e, he, e', M', B', ev, ex⟩ => ?_)
    subst he
    have ex' : Exn C noW _ (M ++ [(hp.objs.size + 1, hp.objs.size)]) e' c' s' M' H' B' := ⟨ex.keepB, ex.base, ex.rep, ex.flt, ex.slots, ex.alive, ex.pre, ex.grow, ex.gens, ex.os, ex.fresh⟩
    exact ⟨_, rfl, e', M', B', ev, ex'.after x1 fun _ q => q⟩
  | ok y H' =>
    cases y <;> first | trivial | skip
    refine mk (codeAny_mono B fun r s' ⟨v, he, M', st, rp2, rv⟩ => ?_)
    subst he
    rw [show v = .none from rv.inv]
    exact ⟨rfl, _, rfl, M', x1.trans (back st), rp2, self.keep ((back st).kp L1 noW_seq)⟩
theorem snd_new {f : Expr → DE} (Y : Fit C.S G) (F : FOK C.S C.hot d Φ) (hd : d + 1 ≤ C.d) (h : ∀ e, Snd2 C env ns (f e) e) {x : Str} {c : Nat} {es : List Expr} {p p' : Pos} (hk : env.kindOf x = some .globalImplicit) (hdb : (x == ("__debug__" : Str)) = false) (hi : C.S.T.cls[c]? = some x) (hs : es.all notStar = true) :
    Snd C env ns (newE G Φ c (es.map f)) (.Call (.Name x p') es [] p) := fun {ρ s M H} st => by
  refine x1_3 (Y.cn c x hi) fun D h1 h2 h3 => ?_
  show Ev VRel C (eval (.Name x p') env >>= fun fv => callWith p fv [] (backTo p (starEach es env)) []) s M _
  refine Ev.look (fun z => name_glob st hk hdb h2 z) ?_
  refine call_ev (first := []) h hs st (fun z => callWith_of (P := C.S.K.In) (by rw [back_plain es hs]; rfl) (keeps_K h3) z) fun as H₁ vals s₁ M₁ x1 st1 r => Ev.orBad fun fi hf => ?_
  exact new_ev Y F hd h1 hf st1.live st1.rep r
noncomputable def Stat.clsV (H : AH) (a : AV) : Option Value := (kdOf H a).map fun k => .type k.type
theorem kitx_rel {s : Shared} {M : Mp} {H : AH} {v t : Value} {a : AV} (Y : Fit C.S G) (rp : Rep C.S C.pv s.heap M H) (r : VRel (C.wd s.heap M) v a) (hc : Stat.clsV H a = some t) :
    ∃ P : Heap → Prop, KitX C.S.K v t P ∧ (∀ o, P (s.heap.push o)) ∧ P s.heap ∧ v ≠ .builtin "__main__.__loader__#opaque" := by
  have at_ : ∀ {a : Addr} {o : Obj} {T : String}, s.heap.get? a = some o → o.cls = .type T → (∀ o', KitAt a T (s.heap.push o')) ∧ KitAt a T s.heap := fun e c =>
    ⟨fun o' => ⟨_, Heap.get?_push_of_some _ e, c⟩, ⟨_, e, c⟩⟩
  cases a with
  | none => cases hc; rw [show v = .none from r.inv]; exact ⟨_, kitx_none, fun _ => trivial, trivial, fun q => nomatch q⟩
  | bool b => cases hc; rw [show v = .bool b from r.inv]; exact ⟨_, kitx_bool, fun _ => trivial, trivial, fun q => nomatch q⟩
  | int i => cases hc; obtain ⟨t, rfl⟩ := r.inv; exact ⟨_, kitx_int, fun _ => trivial, trivial, fun q => nomatch q⟩
  | str x => cases hc; obtain ⟨t, rfl, _⟩ := r.inv; exact ⟨_, kitx_str, fun _ => trivial, trivial, fun q => nomatch q⟩
  | tup xs => cases hc; obtain ⟨l, vs, n, rfl, ho, _⟩ := r.inv; exact ⟨_, kitx_tuple, (at_ ho rfl).1, (at_ ho rfl).2, fun q => nomatch q⟩
  | lst xs => cases hc; obtain ⟨l, vs, n, rfl, ho, _⟩ := r.inv; exact ⟨_, kitx_list, (at_ ho rfl).1, (at_ ho rfl).2, fun q => nomatch q⟩
  | rng a b => exact no_some hc
  | ref n =>
    refine x1_2 (r.inv) fun p e1' z => ?_; subst e1'
    cases q : H[n]? with
    | none => simp only [Stat.clsV, kdOf, q] at hc; cases hc
    | some ao =>
      simp only [Stat.clsV, kdOf, q] at hc
      cases ao with
      | lst xs =>
        cases hc
        obtain ⟨_, vs, m, ho, _⟩ := rp.obj _ _ _ z q
        exact ⟨_, kitx_list, (at_ ho rfl).1, (at_ ho rfl).2, fun q => nomatch q⟩
      | _ => cases hc
  | exc c => exact no_some hc
theorem type_walk {ρ : RE} {s : Shared} {M : Mp} {H : AH} {x : Str} {p : Pos} {ty : Ty} {v : Value} {P : Value → Shared → Prop} {E : Value → Shared → Prop} (Y : Fit C.S G) (st : St C env ns ρ s M H) (hk : env.kindOf x = some .globalImplicit) (hd : (x == ("__debug__" : Str)) = false) (hn : x ≠ "__name__")
    (hx : tyN C.S.T ty = some x) (hv : C.S.tyV ty = some v) (h : P v s) : wpAny C.S.M C.A (eval (.Name x p) env) P E s := by
  have boot : ∀ {T : String} (y : Str), y ∈ biNames → bootBuiltins y = some (.type T) → some y = some x → some (Value.type T) = some v → wpAny C.S.M C.A (eval (.Name x p) env) P E s := fun y h1 h2 e1 e2 => by
    cases e1; cases e2; exact name_boot st hk hd (Y.bi _ h1) h2 hn h
  cases ty with
  | int => exact boot "int" (by decide) (by decide +kernel) hx hv
  | bool => exact boot "bool" (by decide) (by decide +kernel) hx hv
  | str => exact boot "str" (by decide) (by decide +kernel) hx hv
  | tup => exact boot "tuple" (by decide) (by decide +kernel) hx hv
  | lst => exact boot "list" (by decide) (by decide +kernel) hx hv
theorem snd_isi {f : DE} {e' : Expr} {ty : Ty} {x : Str} {px : Pos} {p p' : Pos} (Y : Fit C.S G) (hk : env.kindOf "isinstance" = some .globalImplicit) (h : Snd C env ns f e') (hs : notStar e' = true)
    (k1 : env.kindOf x = some .globalImplicit) (k2 : (x == ("__debug__" : Str)) = false) (k3 : x ≠ "__name__") (k4 : tyN C.S.T ty = some x) : Snd C env ns (isiE G f [ty]) (.Call (.Name "isinstance" p') [e', .Name x px] [] p) := fun {ρ s M H} st => by
  obtain ⟨tv, h3⟩ : ∃ v, C.S.tyV ty = some v := by cases ty <;> exact ⟨_, rfl⟩
  show Ev VRel C (eval (.Name "isinstance" p') env >>= fun fv => callWith p fv [] (backTo p (starEach [e', .Name x px] env)) []) s M ((f ρ H).bind fun a H₁ => orBad ((kdOf H₁ a).map fun k => isK k ty) fun b => .ok (.bool b) H₁)
  refine Ev.look (fun z => name_boot st hk (by decide) (Y.bi _ (by decide)) (by decide +kernel : bootBuiltins "isinstance" = some (.builtin "isinstance")) (by decide) z) ?_
  have A := h st
  generalize f ρ H = o at A
  have cw : ∀ {P : Value → Shared → Prop} {E : Value → Shared → Prop}, wpAny C.S.M C.A (eval e' env) (fun v s₁ => wpAny C.S.M C.A (spliced [(false, eval (.Name x px) env)]) (fun us s₂ => wpAny C.S.M C.A (call (.builtin "isinstance") (v :: us)) P E s₂) E s₁) E s → wpAny C.S.M C.A (callWith p (.builtin "isinstance") [] (backTo p (starEach [e', .Name x px] env)) []) P E s := fun z => by
    refine Calls.callWith_builtin (back_plain [e', .Name x px] (by simp [hs]; rfl)) ?_
    rw [back_cons hs, back_cons rfl]
    exact Calls.evalArgs_plain (Calls.spliced_cons z)
  cases o with
  | bad => trivial
  | exc c H' => exact cw (wpAny_mono A (fun _ _ q => q.elim) fun _ _ q => q)
  | ok a H₁ =>
    show Ev VRel C _ s M (orBad ((kdOf H₁ a).map fun k => isK k ty) fun b => .ok (.bool b) H₁)
    refine Ev.orBad fun b hb => cw (wpAny_mono A (fun v s₁ z_8 => x1_3 z_8 fun M₁ x1 rp1 ra => ?_) fun _ _ q => q.elim)
    have st1 := st.step x1 rp1
    obtain ⟨k, hk, e2'⟩ := Option.map_eq_some_iff.mp hb
    subst e2'
    refine x1_4 (kitx_rel Y rp1 ra (t := .type k.type) (by show (kdOf H₁ a).map _ = _; rw [hk]; rfl)) fun P Z hp p0 hx => ?_
    refine Calls.spliced_cons (type_walk Y st1 k1 k2 k3 k4 h3 (Calls.spliced_nil ?_))
    exact kia_one Z st1.live.K p0 (Y.kb k ty tv h3) hx fun tk => by
      refine x1_2 (post_tok (C := C) (R := VRel) (x := Value.bool (isK k ty)) (y := AV.bool (isK k ty)) rp1 (.bool _) tk) fun M₃ x3 z => ?_
      exact ⟨M₃, x1.trans x3, z⟩
end
section
variable {C : Cx} {env : Env} {ns : List (Option Str)} {ρ : RE} {s s' : Shared} {M M' : Mp} {H H' : AH}
noncomputable abbrev Cx.withPv (C : Cx) (pv : List Addr × List Addr) : Cx := { C with pv := pv }
theorem St.pv {pv : List Addr × List Addr} (st : St C env ns ρ s M H) (R : Rep C.S pv s.heap M H') (k : Kp (C.wd s.heap M) (wdOf C.S pv s.heap M)) (hp : ∀ a, a ∈ pv.1 ∨ a ∈ pv.2 → ∃ o, s.heap.get? a = some o) (ho : ∀ a ∈ pv.1, ¬ foot M a) : St (C.withPv pv) env ns ρ s M H' := by
  obtain ⟨L, _, m, cm, E⟩ := st
  exact ⟨⟨L.frames, L.funs, L.stays, L.off, L.new, L.handled, L.dicts, L.depth, L.units, hp, ho⟩, R, m, cm, E.keep rfl (fun _ q => q) (fun o ho => ⟨o.slots, ho⟩) (fun n c o e ho => ho) k fun a o _ _ n => n⟩
theorem kp_same {S : Stat} {pv pv' : List Addr × List Addr} {h : Heap} (e : ∀ a o, h.get? a = some o → a ∈ pv'.1 → a ∈ pv.1) : Kp (wdOf S pv h M) (wdOf S pv' h M) :=
  ⟨fun b o eo n _ => ⟨eo, fun q => n (q.imp id (e b o eo))⟩, ⟨[], by simp [wdOf]⟩, rfl⟩
theorem Rep.lock {S : Stat} {l1 l2 : List Addr} {h : Heap} {n : Nat} {p : Addr × Addr} {es : List (Key × AV)} (R : Rep S (l1, l2) h M H) (e : M[n]? = some p) (q : H[n]? = some (.dict es)) : Rep S (l1, p.1 :: l2) h M (H.set n (.ldict es)) := by
  have hlt : n < H.length := (List.getElem?_eq_some_iff.mp q).1
  have o1 := R.obj n p _ e q
  refine ⟨by rw [List.length_set]; exact R.len, fun m r ao e1 e2 => ?_, R.apart, fun m r e1 z => ?_, fun m r es' e1 e2 => ?_⟩
  · rw [List.getElem?_set] at e2
    split at e2
    · rename_i y; subst y
      cases e2
      rw [e] at e1; cases e1; exact o1
    · exact R.obj m r ao e1 e2
  · by_cases y : n = m
    · subst y; exact ⟨es, by rw [List.getElem?_set, if_pos rfl, if_pos hlt]⟩
    · rw [List.getElem?_set, if_neg y]
      refine x0_4 (R.apart n m p r e e1 y) fun a b c d => ?_
      refine R.held m r e1 (z.imp (fun z => ?_) fun z => ?_)
      · exact (List.mem_cons.mp z).resolve_left a.symm
      · exact (List.mem_cons.mp z).resolve_left b.symm
  · by_cases y : n = m
    · subst y; rw [e] at e1; cases e1; exact .head _
    · rw [List.getElem?_set, if_neg y] at e2; exact .tail _ (R.lkd m r es' e1 e2)
theorem Rep.free {S : Stat} {l1 l2 : List Addr} {h : Heap} {n : Nat} {p : Addr × Addr} (R : Rep S (l1, p.1 :: l2) h M H) (e : M[n]? = some p) (hl : p.1 ∉ l2 ∧ p.2 ∉ l2) : Rep S (l1, l2) h M (freeH (some n) H) := by
  obtain ⟨es, q⟩ := R.held n p e (.inl (.head _))
  have hlt : n < H.length := (List.getElem?_eq_some_iff.mp q).1
  have o1 := R.obj n p _ e q
  simp only [freeH, q]
  refine ⟨by rw [List.length_set]; exact R.len, fun m r ao e1 e2 => ?_, R.apart, fun m r e1 z => ?_, fun m r es' e1 e2 => ?_⟩
  · rw [List.getElem?_set] at e2
    split at e2
    · rename_i y; subst y
      cases e2
      rw [e] at e1; cases e1; exact o1
    · exact R.obj m r ao e1 e2
  · by_cases y : n = m
    · subst y
      rw [e] at e1; cases e1
      exact absurd z fun z => z.elim hl.1 hl.2
    · rw [List.getElem?_set, if_neg y]
      exact R.held m r e1 (z.imp (.tail _) (.tail _))
  · by_cases y : n = m
    · subst y; rw [List.getElem?_set, if_pos rfl, if_pos hlt] at e2; cases e2
    · rw [List.getElem?_set, if_neg y] at e2
      exact (List.mem_cons.mp (R.lkd m r es' e1 e2)).resolve_left (R.apart n m p r e e1 y).1.symm
theorem Step.pv {W : Addr → Prop} {pv : List Addr × List Addr} (x : Step (C.withPv pv) W s M s' M') (h : ∀ a ∈ C.pv.2, a ∈ pv.2) : Step C W s M s' M' := ⟨fun b o e n => x.keep b o e fun q => h b (n q), x.slots, x.alive, x.pre, x.grow, x.gens, x.os⟩
end
noncomputable def Steady (C : Cx) (env : Env) (h : Heap) (M : Mp) (b : Addr) : Prop := (∃ o, h.get? b = some o) ∧ ¬ OwnW env b ∧ b ∉ C.fs ∧ (foot M b → b ∈ C.pv.2) ∧ b ∉ C.pv.1
noncomputable def itOK (T : String) : Bool := !(["enumerate", "zip", "dict_itemiterator", "dict_reverseitemiterator", "odict_iterator", "itertools.zip_longest", "itertools.pairwise"].contains T) && !(["tuple", "list", "range"].contains T)
noncomputable def IsIt (h : Heap) (I : Addr) : Prop := ∃ o T, h.get? I = some o ∧ o.cls = .type T ∧ itOK T = true
theorem IsIt.not {h : Heap} {I : Addr} (x : IsIt h I) : ∃ o, h.get? I = some o ∧ ¬ Held o := by
  refine x2_3 (x) fun o T ho hc hT => ?_; try clear x
  unfold itOK at hT
  rw [Bool.and_eq_true, Bool.not_eq_true', Bool.not_eq_true'] at hT
  refine ⟨o, ho, not_held hc fun q => ?_⟩
  rcases q with rfl | rfl | rfl <;> exact absurd hT.2 (by decide)
theorem letGo_ok {M : Model} {A : Around} {target : Expr} {I : Addr} {v : Value} {s : Shared} {Q : Unit → Shared → Prop} {E : Value → Shared → Prop} (x : IsIt s.heap I) (h : Q () s) : wpAny M A (letOwnedTupleGo target (.ref I) v) Q E s := by
  refine x2_3 (x) fun o T ho hc hT => ?_; try clear x
  have key : wpAny M A (do
      let (.ref r, .ref a) := (Value.ref I, v) | return
      let o ← load r
      match o.cls, o.data with
      | .type n, .fields vs =>
        if ["enumerate", "zip", "dict_itemiterator", "dict_reverseitemiterator", "odict_iterator", "itertools.zip_longest", "itertools.pairwise"].contains n && vs[0]? == some (rawInt a) then
          rule "for.unpacks-the-owned-tuple"
          updateField r 0 .none
      | _, _ => pure ()) Q E s := by
    cases v <;> first | exact wpAny_pure h | skip
    refine wpAny_bind (wpAny_load ho ?_)
    rw [hc]
    cases o.data <;> first | exact wpAny_pure h | skip
    unfold itOK at hT
    rw [Bool.and_eq_true, Bool.not_eq_true'] at hT
    simp only [hT.1, Bool.false_and, Bool.false_eq_true, if_false]
    exact wpAny_pure h
  cases target <;> first | exact wpAny_pure h | exact key
inductive Itr (C : Cx) (env : Env) (h : Heap) (M : Mp) (I : Addr) : Src → Nat → Prop
  | seq {fp : List Addr} {P : Nat → Value → Prop} {W : Nat → Heap → Prop} {xs : List AV} {k : Nat} : Walks C.S.prog C.S.w C.A I fp [I] xs.length P W → W k h → (∀ b ∈ fp, b = I ∨ Steady C env h M b) → (∀ (i : Nat) v x, P i v → xs[i]? = some x → VRel (C.wd h M) v x) → k ≤ xs.length →
      (∀ i h, W i h → IsIt h I) → Itr C env h M I (.seq xs) k
  | lref {n : Nat} {p : Addr × Addr} {k : Nat} : h.IsListIter I p.1 k → M[n]? = some p → Itr C env h M I (.lref n) k
section
variable {C : Cx} {env : Env} {ns : List (Option Str)} {ρ : RE} {s s' : Shared} {M M' : Mp} {H H' : AH} {I : Addr} {src : Src} {k : Nat} {v : Value} {a : AV}
theorem Itr.is {h : Heap} (i : Itr C env h M I src k) : IsIt h I := by
  cases i with
  | seq W h0 hf hi hk hg => exact hg _ _ h0
  | lref h0 e => obtain ⟨o, ho, hc, _⟩ := h0; exact ⟨o, _, ho, hc, by decide⟩
theorem Itr.after (i : Itr C env s.heap M I src k) (x : Step C (OwnW env) s M s' M') (y : Aside C env s.heap M I) (L : Live C s.heap M) (hw : VarsOnly s.heap (OwnW env)) : Itr C env s'.heap M' I src k := by
  cases i with
  | seq W h0 hf hi hk hg =>
    refine .seq W (W.frame _ _ _ h0 fun b hb o e => ?_) (fun b hb => (hf b hb).imp id fun z => ?_) (fun i v y q e => (hi i v y q e).keep (x.kp L hw)) hk hg
    · rcases hf b hb with rfl | z
      · exact y.keepObj x e
      · exact x.keep b o e z.2.2.2.1 z.2.1 z.2.2.1
    · obtain ⟨⟨o, ho⟩, z2, z3, z4, z5⟩ := z
      exact ⟨⟨o, x.keep b o ho z4 z2 z3⟩, z2, z3, x.offM ho z4, z5⟩
  | lref h0 e =>
    refine .lref (h0.at fun o e => y.keepObj x e) ?_
    obtain ⟨l, rfl⟩ := x.pre
    rw [List.getElem?_append_left (List.getElem?_eq_some_iff.mp e).1]; exact e
theorem itr_next {P : Option Value → Shared → Prop} {E : Value → Shared → Prop} (st : St C env ns ρ s M H) (hh : C.A.handled = none) (y : Aside C env s.heap M I) (i : Itr C env s.heap M I src k) {r : Option AV} (hr : itemAt H src k = some r)
    (hitem : ∀ v a h' tk, r = some a → (∀ b o, b ≠ I → s.heap.get? b = some o → h'.get? b = some o) → VRel (C.wd h' M) v a → Itr C env h' M I src (k + 1) → P (some v) { s with heap := h', toks := tk })
    (hend : ∀ h' tk, r = none → (∀ b o, b ≠ I → s.heap.get? b = some o → h'.get? b = some o) → P none { s with heap := h', toks := tk }) : wpAny C.S.M C.A (pyNext (.ref I)) P E s := by
  have kp : ∀ {h' : Heap}, (∀ b o, b ≠ I → s.heap.get? b = some o → h'.get? b = some o) → Kp (C.wd s.heap M) (C.wd h' M) := fun q => ⟨fun b o e n hd => ⟨q b o (fun z => by
    subst z
    refine x1_2 (y.obj) fun o' h1 h2 => ?_
    have e : s.heap.get? b = some o := e
    rw [e] at h1; cases h1
    exact h2.elim (fun z => n (.inr z)) fun z => z hd) e, n⟩, ⟨[], by simp [wdOf]⟩, rfl⟩
  cases i with
  | seq W h0 hf hi hk hg =>
    rename_i fp P' W' xs
    have hr : xs[k]? = r := Option.some.inj hr
    have st' : ∀ {h' : Heap}, (∀ b o, b ∉ [I] → s.heap.get? b = some o → h'.get? b = some o) → ∀ b ∈ fp, b = I ∨ Steady C env h' M b := fun q b hb => (hf b hb).elim .inl fun z => by
      by_cases e : b = I
      · exact .inl e
      · obtain ⟨⟨o, ho⟩, z⟩ := z
        exact .inr ⟨⟨o, q b o (by simp [e]) ho⟩, z⟩
    have wr : ∀ {h' : Heap}, (∀ b o, b ∉ [I] → s.heap.get? b = some o → h'.get? b = some o) → ∀ b o, b ≠ I → s.heap.get? b = some o → h'.get? b = some o := fun q b o n e => q b o (by simp [n]) e
    by_cases hlt : k < xs.length
    · refine W.item k s P E hlt h0 fun v h' tk q hw hk' => ?_
      have e : xs[k]? = some xs[k] := List.getElem?_eq_getElem hlt
      exact hitem v xs[k] h' tk (hr.symm.trans e) (wr hk') ((hi k v _ q e).keep (kp (wr hk'))) (.seq W hw (st' hk') (fun i v x q e => (hi i v x q e).keep (kp (wr hk'))) hlt hg)
    · have : k = xs.length := by lia
      subst this
      refine W.done s P E h0 fun h' tk hk' => ?_
      exact hend h' tk (hr.symm.trans (List.getElem?_eq_none (Nat.le_refl _))) (wr hk')
  | lref h0 e =>
    rename_i n p
    simp only [itemAt] at hr
    split at hr
    · rename_i xs q
      have hr : xs[k]? = r := Option.some.inj hr
      obtain ⟨_, vs, m, hl, rl⟩ := st.rep.obj _ _ _ e q
      cases e2 : xs[k]? with
      | none =>
        refine wpAny_pyNext_list_end hh h0 hl.isList ?_ fun h' q => hend h' s.toks (hr.symm.trans e2) fun b o n e => q b o n e
        rw [← Array.getElem?_toList]
        exact List.getElem?_eq_none (by rw [rl.1]; exact List.getElem?_eq_none_iff.mp e2)
      | some a =>
        refine x1_2 (rl.get k e2) fun v hv r' => ?_
        refine wpAny_pyNext_list_item h0 hl.isList (by rw [← Array.getElem?_toList]; exact hv) fun h' q1 q2 => ?_
        have kk : ∀ b o, b ≠ I → s.heap.get? b = some o → h'.get? b = some o := fun b o n e => (q2.2 b n).trans e
        exact hitem v a h' s.toks (hr.symm.trans e2) kk (r'.keep (kp kk)) (.lref q1 e)
    · cases hr
theorem itr_self {P : Value → Shared → Prop} {E : Value → Shared → Prop} (i : Itr C env s.heap M I src k) (h : P (.ref I) s) : wpAny C.S.M C.A (pyIter (.ref I)) P E s := by
  cases i with
  | seq W h0 hf hi hk hg => exact W.self _ s P E h0 h
  | lref h0 e => exact wpAny_pyIter_listiter h0 h
theorem span_at {a b : Int} {k : Nat} {v : AV} (h : (span a b)[k]? = some v) : v = .int (a + k) := by
  unfold span at h
  rw [List.getElem?_map] at h
  refine x1_2 (Option.map_eq_some_iff.mp h) fun m h1 h2 => ?_
  obtain ⟨_, h3⟩ := List.getElem?_eq_some_iff.mp h1
  rw [List.getElem_range] at h3
  rw [h3]; exact h2.symm
theorem span_len (a b : Int) : (span a b).length = (b - a).toNat := by unfold span; simp
theorem sign_at {x : Str} {k : Nat} {a : AV} (h : (signs x)[k]? = some a) : ∃ c, x.cps[k]? = some c ∧ a = .str ⟨#[c]⟩ := by
  unfold signs at h
  rw [List.getElem?_map] at h
  refine x1_2 (Option.map_eq_some_iff.mp h) fun c h1 h2 => ?_
  exact ⟨c, by rw [← Array.getElem?_toList]; exact h1, h2.symm⟩
theorem rng_size {a b : Int} : Builtin.Range.rangeSize a b 1 = ((b - a).toNat : Int) := by
  unfold Builtin.Range.rangeSize
  rw [if_pos (by decide)]
  split <;> lia
theorem rng_small {a b : Int} (h : (small a && small b) = true) : Builtin.Range.small a b 1 = true := by
  rw [Bool.and_eq_true] at h
  have h1 := small_lt h.1
  have h2 := small_lt h.2
  unfold Builtin.Range.small
  rw [rng_size]
  simp [Builtin.Range.rangeFitsLong]
  omega
noncomputable def lockOf (M : Mp) : Option Nat → List Addr
  | none => []
  | some n => match M[n]? with
    | some p => [p.1]
    | none => []
noncomputable abbrev Cx.held (C : Cx) (M : Mp) (l : Option Nat) : Cx := C.withPv (C.pv.1, lockOf M l ++ C.pv.2)
theorem itr_start {n : Nat} {l : Option Nat} {P : Value → Shared → Prop} {E : Value → Shared → Prop} (st : St C env ns ρ s M H) (hh : C.A.handled = none) (hs : srcOf H a = some (src, n, l)) (rv : VRel (C.wd s.heap M) v a)
    (h : ∀ h', (∀ b o, s.heap.get? b = some o → h'.get? b = some o) → St (C.held M l) env ns ρ { s with heap := h' } M (lockH l H) → Aside (C.held M l) env h' M s.heap.objs.size → Itr (C.held M l) env h' M s.heap.objs.size src 0 → P (.ref s.heap.objs.size) { s with heap := h' }) : wpAny C.S.M C.A (pyIter v) P E s := by
  refine x1_2 (show ∃ K : Src → Option Nat → Prop, K src l ∧ ∀ src l, K src l → ∀ h', (∀ b o, s.heap.get? b = some o → h'.get? b = some o) → St (C.held M l) env ns ρ { s with heap := h' } M (lockH l H) → Aside (C.held M l) env h' M s.heap.objs.size → Itr (C.held M l) env h' M s.heap.objs.size src 0 → P (.ref s.heap.objs.size) { s with heap := h' } from ⟨_, h, fun _ _ h => h⟩) fun K h₁ hK => ?_
  clear h
  have kx : ∀ (o : Obj) b o', s.heap.get? b = some o' → (s.heap.push o).get? b = some o' := fun o b o' e => Heap.get?_push_of_some _ e
  have h0 := size_none s.heap
  -- no dict is held
  have go : ∀ {o : Obj} {T : String}, l = none → o.cls = .type T → itOK T = true → o.isFreed = false → (St C env ns ρ { s with heap := s.heap.push o } M H → Itr C env (s.heap.push o) M s.heap.objs.size src 0) → P (.ref s.heap.objs.size) { s with heap := s.heap.push o } := fun {o T} el hc hT hf hi => by
    subst el
    have st' : St C env ns ρ { s with heap := s.heap.push o } M H := st.step (Step.ext (t := s.toks) (kx o)) (st.rep.ext (kx o))
    refine x1_2 (IsIt.not (h := s.heap.push o) (I := s.heap.objs.size) ⟨o, T, Heap.get?_push_size _ hf, hc, hT⟩) fun o' e' nh => ?_
    exact hK _ _ h₁ _ (kx o) st' (Aside.new st h0 e' nh) (hi st')
  have steady : ∀ {b : Addr} {ob : Obj} {h' : Heap}, s.heap.get? b = some ob → Held ob → ¬ (C.wd s.heap M).F b → (∀ b o, s.heap.get? b = some o → h'.get? b = some o) → Steady C env h' M b := fun {b ob h'} e hd nf k => by
    refine x2_1 (st.env) fun m cm En => ?_
    exact ⟨⟨ob, k b ob e⟩, fun q => En.vars b ob q e hd, st.live.offFs e hd.nd, fun q => absurd (.inl q) nf, fun q => nf (.inr q)⟩
  cases a with
  | lst xs =>
    cases hs
    refine x3_4 (rv.inv) fun x vs m e3' ho nf rs => ?_; subst e3'
    have hd : Held { cls := .type "list", dict := none, data := .seq vs m, slots := #[] } := ⟨.inl ⟨_, _, rfl⟩, fun _ q => by injection q with q; exact .inr (.inl q.symm)⟩
    have hne : x ≠ s.heap.objs.size := ne_of ho h0
    refine wpAny_pyIter_list ho.isList (go (T := "list_iterator") rfl rfl (by decide) rfl fun st' => ?_)
    have W := Walks.list (prog := C.S.prog) (w := C.S.w) hh s.heap.objs.size x hne vs
    rw [rs.size] at W
    exact .seq W ⟨⟨_, Heap.get?_push_size _ rfl, rfl, rfl⟩, (show IsL _ x vs m from kx _ _ _ ho).isList⟩ (fun b hb => by
      rcases List.mem_cons.mp hb with e | hb
      · exact .inl e
      · cases List.mem_singleton.mp hb; exact .inr (steady ho hd nf (kx _))) (fun i v y q e => (rs.2 i v y (by rw [Array.getElem?_toList]; exact q) e).keep (kp_ext (kx _))) (Nat.zero_le _) fun i h w => by
      obtain ⟨⟨o, ho, hc, _⟩, _⟩ := w; exact ⟨o, _, ho, hc, by decide⟩
  | tup xs =>
    cases hs
    refine x3_4 (rv.inv) fun x vs m e3' ho nf rs => ?_; subst e3'
    have hd : Held { cls := .type "tuple", dict := none, data := .seq vs m, slots := #[] } := ⟨.inl ⟨_, _, rfl⟩, fun _ q => by injection q with q; exact .inl q.symm⟩
    have hne : x ≠ s.heap.objs.size := ne_of ho h0
    refine wpAny_pyIter_tuple ⟨_, ho, rfl, _, rfl⟩ (go (T := "tuple_iterator") rfl rfl (by decide) rfl fun st' => ?_)
    have W := Walks.tuple (prog := C.S.prog) (w := C.S.w) hh s.heap.objs.size x hne vs
    rw [rs.size] at W
    exact .seq W ⟨⟨_, Heap.get?_push_size _ rfl, rfl, rfl⟩, ⟨_, kx _ _ _ ho, rfl, _, rfl⟩⟩ (fun b hb => by
      rcases List.mem_cons.mp hb with e | hb
      · exact .inl e
      · cases List.mem_singleton.mp hb; exact .inr (steady ho hd nf (kx _))) (fun i v y q e => (rs.2 i v y (by rw [Array.getElem?_toList]; exact q) e).keep (kp_ext (kx _))) (Nat.zero_le _) fun i h w => by
      obtain ⟨⟨o, ho, hc, _⟩, _⟩ := w; exact ⟨o, _, ho, hc, by decide⟩
  | str x =>
    cases hs
    refine x1_2 (rv.inv) fun t e1' ok => ?_; subst e1'
    have items : ∀ {h' : Heap} (i : Nat) v y, SignAt x i v → (signs x)[i]? = some y → VRel (C.wd h' M) v y := fun {h'} i v y ⟨c, u, hc, hv⟩ e => by
      refine x1_2 (sign_at e) fun c' hc' e2' => ?_; subst e2'
      rw [hc] at hc'
      cases hc'
      subst hv
      exact .str _ _ (strOk_sub ok fun d hd => by
        simp only [List.mem_singleton] at hd
        subst hd
        exact List.mem_of_getElem? (i := i) (by rw [Array.getElem?_toList]; exact hc))
    have hlen : (signs x).length = x.cps.size := by unfold signs; simp
    cases ha : x.cps.all (· < 128)
    · refine wpAny_pyIter_wide ha (go (T := "str_iterator") rfl rfl (by decide) rfl fun st' => ?_)
      have W := Walks.strWide (prog := C.S.prog) (w := C.S.w) hh s.heap.objs.size x t
      rw [← hlen] at W
      exact .seq W ⟨_, Heap.get?_push_size _ rfl, rfl, rfl⟩ (fun b hb => .inl (List.mem_singleton.mp hb)) items (Nat.zero_le _) fun i h w => by
        obtain ⟨o, ho, hc, _⟩ := w; exact ⟨o, _, ho, hc, by decide⟩
    · refine wpAny_pyIter_ascii ha (go (T := "str_ascii_iterator") rfl rfl (by decide) rfl fun st' => ?_)
      have W := Walks.strAscii (prog := C.S.prog) (w := C.S.w) hh s.heap.objs.size x t
      rw [← hlen] at W
      exact .seq W ⟨_, Heap.get?_push_size _ rfl, rfl, rfl⟩ (fun b hb => .inl (List.mem_singleton.mp hb)) items (Nat.zero_le _) fun i h w => by
        obtain ⟨o, ho, hc, _⟩ := w; exact ⟨o, _, ho, hc, by decide⟩
  | rng x y =>
    replace hs : (if (small x && small y) = true then some (Src.seq (span x y), (y - x).toNat, (none : Option Nat)) else none) = some (src, n, l) := hs
    split at hs <;> cases hs
    rename_i hsm
    refine x4_3 (rv.inv) fun r t u t' e4' ho nf => ?_; subst e4'
    refine wpAny_pyIter_range ho (rng_small hsm) (go (T := "range_iterator") rfl rfl (by decide) rfl fun st' => ?_)
    have W := Walks.range (prog := C.S.prog) (w := C.S.w) hh s.heap.objs.size x 1 (y - x).toNat
    rw [← span_len] at W
    refine .seq W ?_ (fun b hb => .inl (List.mem_singleton.mp hb)) (fun i v z ⟨t, hv⟩ e => ?_) (Nat.zero_le _) fun i h w => ⟨_, _, w, rfl, by decide⟩
    · rw [rng_size]
      have e1 : x + ((0 : Nat) : Int) * 1 = x := by lia
      have e2 : (((span x y).length : Nat) : Int) - ((0 : Nat) : Int) = ((y - x).toNat : Int) := by rw [span_len]; lia
      rw [e1, e2]
      exact Heap.get?_push_size _ rfl
    · rw [span_at e, hv, Int.mul_one]
      exact .int _ _
  | ref k =>
    refine x1_2 (rv.inv) fun p e1' z => ?_; subst e1'
    have dct : ∀ (es : List (Key × AV)) (l' : Option Nat), DRel C.S (C.wd s.heap M) p.1 es → St (C.held M l') env ns ρ s M (lockH l' H) → p.1 ∈ (C.held M l').pv.2 → (src, n, l) = (.seq (es.map (·.1.av)), es.length, l') → wpAny C.S.M C.A (pyIter (.ref p.1)) P E s := fun es l' hD stL hmem hs => by
      cases hs
      refine x1_4 (hD) fun kvs hm e1 e2 ok => ?_; try clear hD
      obtain ⟨ep, hd⟩ := hm.dictAt
      have hlen : (es.map (·.1.av)).length = kvs.length := by simpa using (congrArg List.length e1).symm
      obtain ⟨ob, hob⟩ := st.rep.there (foot_at z).1
      have hne : p.1 ≠ s.heap.objs.size := ne_of hob h0
      refine wpAny_pyIter_dict (knd := kk C.S.prog C.S.w) (st.live.notSys (foot_at z).1) hd ?_
      have st' : St (C.held M l) env ns ρ { s with heap := s.heap.push { cls := .type "dict_keyiterator", data := .fields #[.ref p.1, .int 0 0, .int kvs.length 0, .int ep 0] } } M (lockH l H) := stL.step (Step.ext (t := s.toks) (kx _)) (stL.rep.ext (kx _))
      have isit : IsIt (s.heap.push { cls := .type "dict_keyiterator", data := .fields #[.ref p.1, .int 0 0, .int kvs.length 0, .int ep 0] }) s.heap.objs.size := ⟨_, _, Heap.get?_push_size _ rfl, rfl, by decide⟩
      refine x1_2 (isit.not) fun o' e' nh => ?_
      refine hK _ _ h₁ _ (kx _) st' (Aside.new stL h0 e' nh) ?_
      have W := Walks.dictKeys (knd := kk C.S.prog C.S.w) (A := C.A) hh s.heap.objs.size p.1 hne kvs ep
      rw [← hlen] at W
      refine .seq W ⟨by rw [hlen]; exact ⟨_, Heap.get?_push_size _ rfl, rfl, rfl⟩, hd.at' fun o e => kx _ _ _ e⟩ (fun b hb => ?_) (fun i v x ⟨kx', x', h1, h2⟩ e => ?_) (Nat.zero_le _) fun i h w => by
        obtain ⟨⟨o, ho, hc, _⟩, _⟩ := w; exact ⟨o, _, ho, hc, by decide⟩
      · rcases List.mem_cons.mp hb with e | hb
        · exact .inl e
        · cases List.mem_singleton.mp hb
          refine x2_1 (st.env) fun m cm En => ?_
          exact .inr ⟨⟨ob, kx _ _ _ hob⟩, fun q => (En.off _ q).1 (foot_at z).1, fun q => st.live.off _ q (foot_at z).1, fun _ => hmem, fun q => st.live.poff _ q (foot_at z).1⟩
      · rw [List.getElem?_map] at e
        refine x1_2 (Option.map_eq_some_iff.mp e) fun en h6 e2' => ?_; subst e2'
        have h5 : (es.map (·.1))[i]? = some kx' := by rw [← e1, List.getElem?_map, h1]; rfl
        rw [List.getElem?_map, h6] at h5
        cases h5
        have hk := ok en (List.mem_of_getElem? h6)
        have h2 : en.1.is v = true := h2
        generalize en.1 = k at h2 hk
        rcases Key.is_shape h2 with ⟨x, t, rfl, rfl⟩ | ⟨i, t, rfl, rfl⟩
        · exact .str x t hk
        · exact .int i t
    cases q : H[k]? with
    | none => rw [srcOf_at q] at hs; cases hs
    | some ao =>
      rw [srcOf_at q] at hs
      cases ao with
      | inst c fs => cases hs
      | lst xs =>
        cases hs
        obtain ⟨_, vs, m, ho, rs⟩ := st.rep.obj _ _ _ z q
        exact wpAny_pyIter_list ho.isList (go (T := "list_iterator") rfl rfl (by decide) rfl fun st' => .lref ⟨_, Heap.get?_push_size _ rfl, rfl, rfl⟩ z)
      | dict es =>
        obtain ⟨ep, hD⟩ := st.rep.obj _ _ _ z q
        have hl : lockOf M (some k) = [p.1] := by simp only [lockOf, show M[k]? = some p from z]
        refine dct es (some k) hD ?_ (by show p.1 ∈ lockOf M (some k) ++ C.pv.2; rw [hl]; exact .head _) (Option.some.inj hs).symm
        have R := st.rep.lock z q
        have e : lockH (some k) H = H.set k (.ldict es) := by simp only [lockH, q]
        rw [e]
        refine St.pv st (by rw [hl]; exact R) (kp_same fun _ _ _ z => z) (fun a ha => ?_) st.live.poff
        rcases ha with ha | ha
        · exact st.live.priv a (.inl ha)
        · rw [hl] at ha
          rcases List.mem_cons.mp ha with rfl | ha
          · exact st.rep.there (foot_at z).1
          · exact st.live.priv a (.inr ha)
      | ldict es =>
        obtain ⟨ep, hD⟩ := st.rep.obj _ _ _ z q
        exact dct es none hD st (st.rep.lkd _ _ _ z q) (Option.some.inj hs).symm
  | _ => exact no_some hs
end
noncomputable def relN (sc names : List (Str × NameKind)) : List (Str × NameKind) := names.map fun (n, k) => if (k == .free && sc.lookup n == some .cell) then (n, .cell) else (n, k)
noncomputable def nsC (ns : List (Option Str)) (names : List (Str × NameKind)) (x : Str) : List (Option Str) := (ns.map fun o => o.bind fun y => if names.lookup y == some .free then some y else none) ++ [some x]
theorem forIn_pure {α β : Type} (f : α → β → Sem (ForInStep β)) (g : β → α → β) : ∀ (l : List α) (b : β), (∀ x ∈ l, ∀ r, f x r = pure (.yield (g r x))) → forIn l b f = (pure (l.foldl g b) : Sem β)
  | [], b, h => rfl
  | x :: l, b, h => by
    rw [List.forIn_cons, h x List.mem_cons_self, pure_bind]
    exact forIn_pure f g l _ fun y hy => h y (List.mem_cons_of_mem _ hy)
noncomputable def closAdd (env : Env) (cs : List (Str × Addr)) (y : Str × NameKind) : List (Str × Addr) := if y.2 == .free then (match env.cells.lookup y.1 with | some c => (y.1, c) :: cs | none => cs) else cs
noncomputable def closOf (env : Env) (names : List (Str × NameKind)) : List (Str × Addr) := names.foldl (closAdd env) []
theorem clos_eq {scope : Scope} {env : Env} (h : ∀ y ∈ scope.names, y.2 = .free → ∃ c, env.cells.lookup y.1 = some c) : closureFor scope env = pure (closOf env scope.names) := by
  simp only [closureFor]
  rw [forIn_pure _ (closAdd env) scope.names [] (fun x hx c => by
    obtain ⟨n, kind⟩ := x
    by_cases q : kind = .free
    · subst q
      obtain ⟨a, ha⟩ := h _ hx rfl
      simp [closAdd, cellOf, ha]
    · have : (kind == NameKind.free) = false := by simpa using q
      simp [closAdd, this])]
  rfl
theorem clos_sub {env : Env} : ∀ (names : List (Str × NameKind)) (cs : List (Str × Addr)), (∀ n c, cs.lookup n = some c → env.cells.lookup n = some c) → ∀ n c, (names.foldl (closAdd env) cs).lookup n = some c → env.cells.lookup n = some c
  | [], cs, h, n, c, e => h n c e
  | y :: r, cs, h, n, c, e => by
    refine clos_sub r (closAdd env cs y) (fun n c e => ?_) n c e
    unfold closAdd at e
    split at e
    · split at e
      · rename_i a ha
        rw [List.lookup_cons] at e
        split at e
        · rename_i q
          rw [beq_iff_eq] at q; subst q; cases e; exact ha
        · exact h n c e
      · exact h n c e
    · exact h n c e
theorem clos_keeps {env : Env} : ∀ (names : List (Str × NameKind)) (cs : List (Str × Addr)) (n : Str), (∃ c, cs.lookup n = some c) → ∃ c, (names.foldl (closAdd env) cs).lookup n = some c
  | [], cs, n, h => h
  | y :: r, cs, n, h => by
    refine clos_keeps r (closAdd env cs y) n ?_
    unfold closAdd
    split
    · split
      · rw [List.lookup_cons]
        split
        · exact ⟨_, rfl⟩
        · exact h
      · exact h
    · exact h
theorem clos_has {env : Env} {n : Str} {c : Addr} (hc : env.cells.lookup n = some c) : ∀ (names : List (Str × NameKind)) (cs : List (Str × Addr)), (n, NameKind.free) ∈ names → ∃ c, (names.foldl (closAdd env) cs).lookup n = some c
  | [], cs, h => nomatch h
  | y :: r, cs, h => by
    rcases List.mem_cons.mp h with rfl | h
    · refine clos_keeps r _ n ?_
      refine ⟨c, ?_⟩
      unfold closAdd
      rw [if_pos (by rfl)]
      simp only [hc, List.lookup_cons, beq_self_eq_true]
    · exact clos_has hc r _ h
theorem relN_lookup {sc : List (Str × NameKind)} {y : Str} : ∀ (names : List (Str × NameKind)), (relN sc names).lookup y = (names.lookup y).map fun k => if (k == .free && sc.lookup y == some .cell) then .cell else k
  | [] => rfl
  | (n, k) :: r => by
    have ih := relN_lookup (sc := sc) (y := y) r
    show List.lookup y ((if (k == .free && sc.lookup n == some .cell) = true then (n, NameKind.cell) else (n, k)) :: relN sc r) = _
    by_cases q : y = n
    · subst q
      split <;> rename_i z <;> simp only [List.lookup_cons, beq_self_eq_true, Option.map_some]
      · rw [if_pos z]
      · rw [if_neg z]
    · have q' : (y == n) = false := by simpa using q
      split <;> simp [List.lookup_cons, q', ih]
theorem nsC_at {ns : List (Option Str)} {names : List (Str × NameKind)} {i : Nat} {x y : Str} (h : (nsC ns names x)[i]? = some (some y)) : (i = ns.length ∧ y = x) ∨ (i < ns.length ∧ ns[i]? = some (some y) ∧ names.lookup y = some .free) := by
  unfold nsC at h
  rw [List.getElem?_append, List.length_map] at h
  split at h
  · rename_i q
    refine .inr ⟨q, ?_⟩
    rw [List.getElem?_map] at h
    cases e : ns[i]? with
    | none => rw [e] at h; cases h
    | some o =>
      rw [e] at h
      cases o with
      | none => cases h
      | some w =>
        have h : (if (names.lookup w == some .free) = true then some w else none) = some y := Option.some.inj h
        split at h
        · rename_i z; cases h; exact ⟨rfl, by simpa using z⟩
        · cases h
  · rename_i q
    have : i = ns.length := by
      have := (List.getElem?_eq_some_iff.mp h).1
      simp at this; lia
    subst this
    rw [Nat.sub_self] at h
    cases h
    exact .inl ⟨rfl, rfl⟩
theorem nsC_j {ns : List (Option Str)} {names : List (Str × NameKind)} {x : Str} : (nsC ns names x)[ns.length]? = some (some x) := by
  unfold nsC
  rw [List.getElem?_append, List.length_map, if_neg (Nat.lt_irrefl _), Nat.sub_self]
  rfl
structure CompAt (env : Env) (x : Str) (sc : Scope) : Prop where
  kind : sc.kind = .function
  loc : sc.names.lookup x = some .local
  nocell : ∀ y ∈ sc.names, y.2 ≠ .cell
  locs : ∀ y ∈ sc.names, y.2 = .local → sc.names.lookup y.1 = some .local
  free : ∀ y ∈ sc.names, y.2 = .free → env.kindOf y.1 = some .cell ∨ env.kindOf y.1 = some .free
theorem relabel_names {sc : Scope} {env : Env} (h : env.scope.kind = .function) : (relabel sc env).names = relN env.scope.names sc.names := by
  unfold relabel relN Env.kindOf
  rw [h]
  simp
theorem EnvAt.inner {C : Cx} {pv : List Addr × List Addr} {env : Env} {ns : List (Option Str)} {ρ : RE} {h : Heap} {M : Mp} {m cm : Str → Option Value} (E : EnvAt C env ns ρ h (C.wd h M) m cm) {x : Str} {sc : Scope} (Y : CompAt env x sc) {c : Addr} (hn : h.Ns c (fun _ => none)) (hf : ¬ foot M c) (hb : C.S.base.get? c = none) (hne : ∀ n a, env.cells.lookup n = some a → a ≠ c) (k : Kp (C.wd h M) (wdOf C.S pv h M)) :
    EnvAt (C.withPv pv) (compEnvC sc (closOf env sc.names) c env) (nsC ns sc.names x) (ρ ++ [none]) h (wdOf C.S pv h M) (fun _ => none) cm := by
  have hsub : ∀ n a, (closOf env sc.names).lookup n = some a → env.cells.lookup n = some a := clos_sub sc.names [] (fun _ _ q => nomatch q)
  have hkind : ∀ y, (compEnvC sc (closOf env sc.names) c env).kindOf y = (relN env.scope.names sc.names).lookup y := fun y => by
    show (relabel sc env).names.lookup y = _
    rw [relabel_names E.fn]
  have hfree : ∀ y, sc.names.lookup y = some .free → ∃ a, env.cells.lookup y = some a := fun y hy => E.has y (Y.free _ (mem_of_lookup hy) rfl)
  have hcl : ∀ y, sc.names.lookup y = some .free → ∃ a, (closOf env sc.names).lookup y = some a := fun y hy => by
    obtain ⟨a, ha⟩ := hfree y hy
    exact clos_has ha sc.names [] (mem_of_lookup hy)
  refine ⟨Y.kind, E.glob, E.bns, hn, ?_, fun i k y h1 h2 => ?_, by unfold nsC; simp [E.len], fun y hy => ?_, fun n a ha => ?_, fun n n' a h1 h2 => E.apart n n' a (hsub _ _ h1) (hsub _ _ h2), fun i y a h1 h2 => ?_⟩
  · rintro a (q | ⟨n, q⟩)
    · have q : a = c := q
      subst q; exact ⟨hf, hb⟩
    · exact E.off a (.inr ⟨n, hsub n a q⟩)
  · rcases nsC_at h1 with ⟨rfl, rfl⟩ | ⟨_, q1, q2⟩ <;> rcases nsC_at h2 with ⟨rfl, e⟩ | ⟨_, p1, p2⟩
    · rfl
    · rw [Y.loc] at p2; cases p2
    · rw [e, Y.loc] at q2; cases q2
    · exact E.inj i k y q1 p1
  · refine hcl y ?_
    rw [hkind, relN_lookup] at hy
    cases q : sc.names.lookup y with
    | none => rw [q] at hy; rcases hy with hy | hy <;> cases hy
    | some k =>
      rw [q] at hy
      simp only [Option.map_some, Option.some.injEq] at hy
      have hk : k ≠ .cell := Y.nocell _ (mem_of_lookup q)
      by_cases z : k = .free
      · rw [z]
      · have z' : (k == NameKind.free) = false := by simpa using z
        simp only [z', Bool.false_and, Bool.false_eq_true, if_false] at hy
        rcases hy with hy | hy
        · exact absurd hy hk
        · exact absurd hy z
  · refine x0_3 (E.cell n a (hsub _ _ ha)) fun c1 c3 c4 => ?_
    exact ⟨c1, c3, hne n a (hsub _ _ ha)⟩
  · rcases nsC_at h1 with ⟨rfl, rfl⟩ | ⟨hij, q1, q2⟩
    · rw [← E.len, List.getElem?_append_right (Nat.le_refl _), Nat.sub_self] at h2
      cases h2
    · rw [List.getElem?_append_left (by rw [E.len]; exact hij)] at h2
      refine x1_2 (E.var i y a q1 h2) fun v rv hv => ?_
      refine ⟨v, rv.keep k, .inr ?_⟩
      have hk := Y.free _ (mem_of_lookup q2) rfl
      rcases hv with ⟨z, _⟩ | ⟨_, _, z⟩
      · rcases hk with hk | hk <;> rw [z] at hk <;> cases hk
      · refine ⟨?_, hcl y q2, z⟩
        rw [hkind, relN_lookup, q2]
        simp only [Option.map_some, Option.some.injEq]
        split
        · exact .inl rfl
        · exact .inr rfl
noncomputable def TestsOK (C : Cx) (env : Env) (ns : List (Option Str)) (cond : DE) (ifs : List Expr) : Prop :=
  ∀ {ρ : RE} {s : Shared} {M : Mp} {H : AH}, St C env ns ρ s M H →
    Ev EqR C (forIn ifs true fun c r => if r = true then do let ok ← isTrue c env (eval c env); pure (ForInStep.yield ok) else pure (ForInStep.yield r)) s M (tst cond ρ H)
theorem tests_nil {C : Cx} {env : Env} {ns : List (Option Str)} : TestsOK C env ns (cstE (.bool true)) [] := fun st => Ev.pure st.rep rfl
theorem tests_one {C : Cx} {env : Env} {ns : List (Option Str)} {cond : DE} {c : Expr} (h : SndT C env ns cond c) : TestsOK C env ns cond [c] := fun st => (h st).map fun z => wpAny_tests_one z
theorem no_ok {α : Type} {y : α} {H : AH} {P : Prop} (h : (Out.bad : Out α) = .ok y H) : P := nomatch h
theorem compL_inv {T E : AV → AH → Out AV} {src : Src} {n k : Nat} {acc ys : List AV} {H Hf : AH} (h : compL T E src n k acc H = .ok ys Hf) :
    (itemAt H src k = some none ∧ ys = acc ∧ Hf = H) ∨ ∃ v m c H₁, itemAt H src k = some (some v) ∧ n = m + 1 ∧ T v H = .ok (.bool c) H₁ ∧ ((c = false ∧ compL T E src m (k + 1) acc H₁ = .ok ys Hf) ∨ (c = true ∧ ∃ a H₂, E v H₁ = .ok a H₂ ∧ compL T E src m (k + 1) (acc ++ [a]) H₂ = .ok ys Hf)) := by
  unfold compL at h
  split at h
  · cases h
  · rename_i q; cases h; exact .inl ⟨q, rfl, rfl⟩
  · rename_i v q
    cases n with
    | zero => cases h
    | succ m =>
      refine .inr ⟨v, m, ?_⟩
      simp only at h
      cases hT : T v H with
      | bad => rw [hT] at h; cases h
      | exc c H' => rw [hT] at h; cases h
      | ok a H₁ =>
        rw [hT] at h
        cases a <;> first | exact no_ok h | skip
        rename_i c
        refine ⟨c, H₁, q, rfl, rfl, ?_⟩
        cases c with
        | false => exact .inl ⟨rfl, h⟩
        | true =>
          have h : (E v H₁).bind (fun a H₂ => compL T E src m (k + 1) (acc ++ [a]) H₂) = .ok ys Hf := h
          cases hE : E v H₁ with
          | bad => rw [hE] at h; cases h
          | exc c H' => rw [hE] at h; cases h
          | ok a H₂ => rw [hE] at h; exact .inr ⟨rfl, a, H₂, rfl, h⟩
theorem fold_no {e : Expr} {env : Env} (h : notSet e = true) : ∀ x, foldedSetIterable e env x = pure x := by
  intro x
  cases e <;> first | rfl | cases h
section
variable {C : Cx} {env : Env} {ns : List (Option Str)}
inductive CompInv (C : Cx) (cenv : Env) (ns' : List (Option Str)) (elt cond : DE) (ρ : RE) (s₀ : Shared) (M₀ : Mp) (I D : Addr) (src : Src) (ys : List AV) (Hf : AH) (m : Nat) (s' : Shared) : Prop
  | mk (ov : Option AV) (M' : Mp) (H' : AH) (k : Nat) (acc : List AV) (vs : Array Value) (j : Nat) (h1 : m + k ≤ 1000000) (h2 : acc.length ≤ k) (h3 : Step C noW s₀ M₀ s' M') (h4 : St C cenv ns' (ρ ++ [ov]) s' M' H') (h5 : Aside C cenv s'.heap M' I) (h6 : Aside C cenv s'.heap M' D) (h7 : Itr C cenv s'.heap M' I src k) (h8 : IsL s'.heap D vs j) (h9 : VRels (C.wd s'.heap M') vs.toList acc)
    (h10 : compL (fun v => cond (ρ ++ [some v])) (fun v => elt (ρ ++ [some v])) src m k acc H' = .ok ys Hf) : CompInv C cenv ns' elt cond ρ s₀ M₀ I D src ys Hf m s'
theorem comp_loop (hh : C.A.handled = none) {cenv : Env} {ns' : List (Option Str)} {elt cond : DE} {elt' it' : Expr} {ifs : List Expr} {x : Str} {px pos : Pos} {sc : Scope} {ρ : RE} {s₀ s4 : Shared} {M₀ M4 : Mp} {H4 Hf : AH} {src : Src} {n : Nat} {ys : List AV} {I D : Addr} {R : Result → Shared → Prop}
    (hj : ns'[ρ.length]? = some (some x)) (hxk : cenv.kindOf x = some .local) (helt : Snd C cenv ns' elt elt') (hcond : TestsOK C cenv ns' cond ifs) (h0 : s₀.heap.get? I = none) (hc0 : s₀.heap.get? cenv.locals = none) (hD0 : s₀.heap.get? D = none) (hDp : D ∈ C.pv.1) (hIp : I ∉ C.pv.1 ∧ I ∉ C.pv.2) (hn : n ≤ 1000000)
    (y4 : Step C noW s₀ M₀ s4 M4) (st4 : St C cenv ns' (ρ ++ [none]) s4 M4 H4) (haI : Aside C cenv s4.heap M4 I) (haD : Aside C cenv s4.heap M4 D) (hID : I ≠ D) (it4 : Itr C cenv s4.heap M4 I src 0) (hl4 : IsL s4.heap D #[] 0)
    (w : compL (fun v => cond (ρ ++ [some v])) (fun v => elt (ρ ++ [some v])) src n 0 [] H4 = .ok ys Hf)
    (hR : ∀ s' M' vs j m, Step C noW s₀ M₀ s' M' → Rep C.S C.pv s'.heap M' Hf → Live C s'.heap M' → IsL s'.heap D vs j → VRels (C.wd s'.heap M') vs.toList ys → ¬ foot M' D → s'.heap.Ns cenv.locals m → ¬ foot M' cenv.locals → R (.ok .next) s') :
    codeAny C.S.M C.A (.compLoop (.ListComp elt' [⟨.Name x px, it', ifs, 0⟩] sc pos) 0 (.ref I) (.ref D) cenv) R s4 := by
  refine codeAny_compLoop_tests (CompInv C cenv ns' elt cond ρ s₀ M₀ I D src ys Hf)
    (fun m s' I' => ?_) n ⟨none, M4, H4, 0, [], #[], 0, hn, Nat.le_refl _, y4, st4, haI, haD, it4, hl4, .nil, w⟩
  obtain ⟨ov, M', H', k, acc, vs, j, hmk, hak, y, st', aI, aD, it', hl, rl, w'⟩ := I'
  refine (compL_inv w').elim (fun z => ?_) fun z => ?_
  · refine x0_3 z fun hr e1 e2 => ?_
    clear z; subst e1; subst e2
    refine itr_next st' hh aI it' hr (fun u a h' tk e => nomatch e) fun h' tk _ kp => ?_
    have s2 := st'.but (tk := tk) aI kp (fun q => q.elim (fun q => absurd q hIp.1) fun q => absurd q hIp.2)
    refine x2_1 (s2.env) fun m2 cm2 E2 => ?_
    refine hR _ M' vs j m2 (y.but (tk := tk) h0 kp) s2.rep s2.live (kp _ _ hID.symm hl) (rl.keep ?_) aD.foot E2.loc (E2.off _ (.inl rfl)).1
    exact ⟨fun b o e n hd => ⟨kp b o (fun z => by
      subst z
      refine x1_2 (aI.obj) fun o' e1 e2 => ?_
      have e : s'.heap.get? b = some o := e
      rw [e] at e1; cases e1
      exact e2.elim (fun z => n (.inr z)) fun z => z hd) e, n⟩, ⟨[], by simp [wdOf]⟩, rfl⟩
  refine x4_4 z fun bv m c H₁ hr ez hT w1 => ?_
  clear z; subst ez
  refine itr_next st' hh aI it' hr (fun u a h' tk e kp rv i2 => ?_) fun h' tk e => nomatch e
  cases e
  have s2 := st'.but (tk := tk) aI kp (fun q => q.elim (fun q => absurd q hIp.1) fun q => absurd q hIp.2)
  refine x1_2 (i2.is.not) fun oI eI nI => ?_
  have a2 : Aside C cenv h' M' I := ⟨⟨oI, eI, .inr nI⟩, aI.foot, aI.fs, aI.own, aI.base⟩
  have k2 : Kp (C.wd s'.heap M') (C.wd h' M') := ⟨fun b o e n hd => ⟨kp b o (fun z => by
    subst z
    refine x1_2 (aI.obj) fun o' e1 e2 => ?_
    have e : s'.heap.get? b = some o := e
    rw [e] at e1; cases e1
    exact e2.elim (fun z => n (.inr z)) fun z => z hd) e, n⟩, ⟨[], by simp [wdOf]⟩, rfl⟩
  have d2 : Aside C cenv h' M' D := ⟨⟨_, kp _ _ hID.symm hl, .inl hDp⟩, aD.foot, aD.fs, aD.own, aD.base⟩
  refine x2_1 (s2.env) fun m2 cm2 E2 => ?_
  have y2 := y.but (tk := tk) h0 kp
  generalize hs2 : ({ s' with heap := h', toks := tk } : Shared) = t2 at s2 y2
  have e2 : t2.heap = h' := by rw [← hs2]
  rw [← e2] at a2 k2 d2 i2 rv eI
  have hl2 : IsL t2.heap D vs j := by rw [e2]; exact kp _ _ hID.symm hl
  have rl2 := rl.keep k2
  have E2 : VarsOnly t2.heap (OwnW cenv) := by obtain ⟨_, _, E⟩ := s2.env; exact E.vars
  refine wpAny_assign_Name ?_
  refine x2_1 (s2.env) fun m3 cm3 En3 => ?_
  refine wpAny_storeName_local hxk En3.loc (fun h3 hn3 hs3 => ?_) (by rw [En3.fn]; rfl)
  obtain ⟨x3, st3⟩ := local_turned (o := some bv) (tk := t2.toks + 1) s2 En3 hj hxk hn3 hs3 (fun b e => ⟨u, Option.some.inj e ▸ rv, by simp⟩) fun y hy => by simp [hy]
  have es : (ρ ++ [ov]).set ρ.length (some bv) = ρ ++ [some bv] := by simp
  rw [es] at st3
  generalize hs3' : ({ t2 with heap := h3, toks := t2.toks + 1 } : Shared) = t3 at x3 st3
  have y3' : Step C (OwnW cenv) t2 M' t3 M' := x3.wider fun _ q => .inl q
  have z3 := y2.thenNew x3 (fun b q => .inr (by rw [q]; exact hc0))
  have i3 := i2.after y3' a2 s2.live E2
  have a3 := a2.step y3'
  have d3 := d2.step y3'
  have hl3 : IsL t3.heap D vs j := d2.keepObj y3' hl2
  have rl3 := rl2.keep (y3'.kp s2.live E2)
  have A := hcond st3
  have hT' : tst cond (ρ ++ [some bv]) H' = .ok c H₁ := by unfold tst; rw [show cond (ρ ++ [some bv]) H' = .ok (.bool c) H₁ from hT]; rfl
  rw [hT'] at A
  refine wpAny_mono A (fun ok s4 z_9 => x1_3 z_9 fun M₄ z4 rp4 eb => ?_) fun _ _ q => q.elim
  obtain rfl : ok = c := eb
  have s4' := st3.step z4 rp4
  have z4' : Step C (OwnW cenv) t3 M' s4 M₄ := z4.ofNo
  have i4 := i3.after z4' a3 st3.live (by obtain ⟨_, _, E⟩ := st3.env; exact E.vars)
  have a4 := a3.step z4'
  have d4 := d3.step z4'
  have hl4 : IsL s4.heap D vs j := d3.keepObj z4' hl3
  have rl4 := rl3.keep (z4.kp st3.live noW_seq)
  refine w1.elim (fun z => ?_) fun z => ?_
  · obtain ⟨ez, w2⟩ := z
    subst ez
    exact ⟨m, Nat.lt_succ_self m, some bv, M₄, H₁, k + 1, acc, vs, j, by lia, by lia, z3.trans z4, s4', a4, d4, i4, hl4, rl4, w2⟩
  · refine y2_2 z fun ez yv H₂ hE w2 => ?_
    clear z; subst ez
    have B := helt s4'
    rw [show elt (ρ ++ [some bv]) H₁ = .ok yv H₂ from hE] at B
    refine wpAny_mono B (fun xv s5 z_10 => x1_3 z_10 fun M₅ z5 rp5 rx => ?_) fun _ _ q => q.elim
    have s5' := s4'.step z5 rp5
    have z5' : Step C (OwnW cenv) s4 M₄ s5 M₅ := z5.ofNo
    have i5 := i4.after z5' a4 s4'.live (by obtain ⟨_, _, E⟩ := s4'.env; exact E.vars)
    have a5 := a4.step z5'
    have d5 := d4.step z5'
    have hl5 : IsL s5.heap D vs j := d4.keepObj z5' hl4
    have rl5 := rl4.keep (z5.kp s4'.live noW_seq)
    refine call_meets F.slot_list_append ⟨_, hl5, rfl⟩ F.entry_list_append (F.args_list_append_2 _ _) (list_append D vs j xv (by rw [rl5.size, sizeLine_eq]; lia)) ⟨hl5, ?_⟩
    have k6 : ∀ b o, b ≠ D → s5.heap.get? b = some o → (s5.heap.update D (Obj.mapSeq (·.push xv))).get? b = some o := fun b o n e => (Heap.get?_update_other _ _ (Ne.symm n)).trans e
    have hl6 := IsL.update hl5 (·.push xv)
    have s6 := s5'.but (tk := s5.toks) d5 k6 (fun _ => ⟨_, hl6⟩)
    have kp6 : Kp (C.wd s5.heap M₅) (C.wd (s5.heap.update D (Obj.mapSeq (·.push xv))) M₅) := ⟨fun b o e n hd => ⟨k6 b o (fun z => n (.inr (z ▸ hDp))) e, n⟩, ⟨[], by simp [wdOf]⟩, rfl⟩
    have y6 := ((z3.trans z4).trans z5).but (tk := s5.toks) hD0 k6
    have i6 : Itr C cenv (s5.heap.update D (Obj.mapSeq (·.push xv))) M₅ I src (k + 1) := by
      cases i5 with
      | seq W hw hf hi hk hg =>
        refine .seq W (W.frame _ _ _ hw fun b hb o e => ?_) (fun b hb => (hf b hb).imp id fun z => ?_) (fun i v x q e => (hi i v x q e).keep kp6) hk hg
        · rcases hf b hb with rfl | z
          · exact k6 _ _ hID e
          · exact k6 _ _ (fun q => z.2.2.2.2 (q ▸ hDp)) e
        · obtain ⟨⟨o, ho⟩, z2, z3, z4, z5⟩ := z
          exact ⟨⟨o, k6 _ _ (fun q => z5 (q ▸ hDp)) ho⟩, z2, z3, z4, z5⟩
      | lref hw e => exact .lref (hw.at fun o e => k6 _ _ hID e) e
    exact ⟨m, Nat.lt_succ_self m, some bv, M₅, H₂, k + 1, acc ++ [yv], _, _, by lia, by rw [List.length_append]; simp; lia, y6, s6, ⟨⟨_, k6 _ _ hID a5.obj.choose_spec.1, a5.obj.choose_spec.2⟩, a5.foot, a5.fs, a5.own, a5.base⟩, ⟨⟨_, hl6, .inl hDp⟩, d5.foot, d5.fs, d5.own, d5.base⟩, i6, hl6, by simpa using (rl5.keep kp6).snoc (rx.keep kp6), w2⟩
end
theorem Itr.to {C : Cx} {env env' : Env} {h h' : Heap} {M : Mp} {I : Addr} {src : Src} {k : Nat} {l1 : List Addr} (i : Itr C env h M I src k) (kx : ∀ b o, h.get? b = some o → h'.get? b = some o) (ho : ∀ b o, h.get? b = some o → ¬ OwnW env b → ¬ OwnW env' b) (hl : ∀ b o, h.get? b = some o → b ∉ C.pv.1 → b ∉ l1) (kp : Kp (C.wd h M) (wdOf C.S (l1, C.pv.2) h' M)) : Itr (C.withPv (l1, C.pv.2)) env' h' M I src k := by
  cases i with
  | seq W hw hf hi hk hg =>
    refine .seq W (W.frame _ _ _ hw fun b _ o e => kx b o e) (fun b hb => (hf b hb).imp id fun z => ?_) (fun i v x q e => (hi i v x q e).keep kp) hk hg
    obtain ⟨⟨o, e⟩, z2, z3, z4, z5⟩ := z
    exact ⟨⟨o, kx b o e⟩, ho b o e z2, z3, z4, hl b o e z5⟩
  | lref hw e => exact .lref (hw.at fun o e => kx _ o e) e
theorem Rep.adopt {S : Stat} {l1 l2 : List Addr} {h : Heap} {M : Mp} {H : AH} {D : Addr} {vs : Array Value} {j : Nat} {ys : List AV} (R : Rep S (D :: l1, l2) h M H) (hl : IsL h D vs j) (rl : VRels (wdOf S (D :: l1, l2) h M) vs.toList ys) (nf : ¬ foot M D) (hn : D ∉ l2) :
    Kp (wdOf S (D :: l1, l2) h M) (wdOf S (l1, l2) h (M ++ [(D, D)])) ∧ Rep S (l1, l2) h (M ++ [(D, D)]) (H ++ [.lst ys]) := by
  have fa : ∀ a, foot (M ++ [(D, D)]) a ↔ foot M a ∨ a = D := fun a => by
    rw [foot_append]
    refine or_congr Iff.rfl ⟨fun z_11 => x1_2 z_11 fun p hp z => ?_, fun z => ⟨(D, D), .head _, .inl z⟩⟩
    cases List.mem_singleton.mp hp
    exact z.elim id id
  have K : Kp (wdOf S (D :: l1, l2) h M) (wdOf S (l1, l2) h (M ++ [(D, D)])) := ⟨fun b o e n _ => ⟨e, fun q => n (by
    rcases q with q | q
    · rcases (fa b).mp q with q | q
      · exact .inl q
      · exact .inr (q ▸ .head _)
    · exact .inr (.tail _ q))⟩, ⟨[(D, D)], rfl⟩, rfl⟩
  refine ⟨K, ?_⟩
  have cs : ∀ {α : Type} (L : List α) (x y : α) (n : Nat), (L ++ [x])[n]? = some y → L[n]? = some y ∨ (n = L.length ∧ y = x) := fun L x y n e => by
    rw [List.getElem?_append] at e
    split at e
    · exact .inl e
    · rename_i q
      have h1 := (List.getElem?_eq_some_iff.mp e).1
      simp only [List.length_singleton] at h1
      exact .inr ⟨by lia, List.mem_singleton.mp (List.mem_of_getElem? e)⟩
  have old : ∀ {n : Nat} {q : Addr × Addr}, M[n]? = some q → Apart q (D, D) := fun {n q} e => by
    have h1 : q.1 ≠ D := fun z => nf (z ▸ (foot_at e).1)
    have h2 : q.2 ≠ D := fun z => nf (z ▸ (foot_at e).2)
    exact ⟨h1, h1, h2, h2⟩
  have len := R.len
  refine ⟨by rw [List.length_append, List.length_append, len]; rfl, fun n q ao e e' => ?_, fun i k q q' e e' ne => ?_, fun n q e z => ?_, fun n q es e e' => ?_⟩
  · rcases cs M _ _ n e with e | ⟨rfl, rfl⟩ <;> rcases cs H _ _ _ e' with e' | ⟨h1, rfl⟩
    · exact (R.obj n q ao e e').keep K rfl rfl
    · have := (List.getElem?_eq_some_iff.mp e).1; lia
    · have := (List.getElem?_eq_some_iff.mp e').1; lia
    · exact ⟨rfl, vs, j, hl, rl.keep K⟩
  · rcases cs M _ _ i e with e | ⟨rfl, rfl⟩ <;> rcases cs M _ _ k e' with e' | ⟨rfl, rfl⟩
    · exact R.apart i k q q' e e' ne
    · exact old e
    · obtain ⟨a, b, c, d⟩ := old e'; exact ⟨a.symm, c.symm, b.symm, d.symm⟩
    · exact absurd rfl ne
  · rcases cs M _ _ n e with e | ⟨rfl, rfl⟩
    · obtain ⟨es, q'⟩ := R.held n q e z
      exact ⟨es, by rw [List.getElem?_append_left (List.getElem?_eq_some_iff.mp q').1]; exact q'⟩
    · exact absurd z fun z => z.elim hn hn
  · rcases cs M _ _ n e with e | ⟨rfl, rfl⟩ <;> rcases cs H _ _ _ e' with e' | ⟨h1, h2⟩
    · exact R.lkd n q es e e'
    · cases h2
    · have := (List.getElem?_eq_some_iff.mp e').1; lia
    · cases h2
theorem Rep.letGo {C : Cx} {h h₀ : Heap} {M M' : Mp} {H H₀ : AH} {l : Option Nat} {l1 : List Addr} (R : Rep C.S (l1, lockOf M l ++ C.pv.2) h M' H) (pre : ∃ e, M' = M ++ e) (R₀ : Rep C.S C.pv h₀ M H₀) (hl : ∀ n, l = some n → ∃ es, H₀[n]? = some (.dict es)) : Rep C.S (l1, C.pv.2) h M' (freeH l H) := by
  cases l with
  | none => exact R
  | some n =>
    obtain ⟨es, q⟩ := hl n rfl
    have hp : ∃ p, M[n]? = some p := ⟨_, List.getElem?_eq_getElem (by rw [R₀.len]; exact (List.getElem?_eq_some_iff.mp q).1)⟩
    obtain ⟨p, hp⟩ := hp
    have e : lockOf M (some n) = [p.1] := by simp only [lockOf, hp]
    rw [e] at R
    obtain ⟨e', rfl⟩ := pre
    refine Rep.free R (by rw [List.getElem?_append_left (List.getElem?_eq_some_iff.mp hp).1]; exact hp) (R₀.off2 hp fun es' h => ?_)
    rw [q] at h; cases h
theorem src_lock {H : AH} {a : AV} {src : Src} {n : Nat} {l : Option Nat} (h : srcOf H a = some (src, n, l)) : ∀ k, l = some k → ∃ es, H[k]? = some (.dict es) := by
  intro k e
  subst e
  cases a <;> first | exact no_some h | skip
  · cases h
  · cases h
  · cases h
  · rename_i m
    cases q : H[m]? with
    | none => rw [srcOf_at q] at h; cases h
    | some ao =>
      rw [srcOf_at q] at h
      cases ao <;> cases h
      exact ⟨_, q⟩
  · rename_i x y
    replace h : (if (small x && small y) = true then some (Src.seq (span x y), (y - x).toNat, (none : Option Nat)) else none) = some (src, n, some k) := h
    split at h <;> cases h
section
variable {C : Cx} {env : Env} {ns : List (Option Str)}
theorem comp_end {pv : List Addr × List Addr} {M₀ M' : Mp} {s₀ s' : Shared} {H₀ H' Hf : AH} {l : Option Nat} {D : Addr} {vs : Array Value} {j : Nat} {ys : List AV} {y : AV} {mt : Bool} (hpv : pv = (D :: C.pv.1, lockOf M₀ l ++ C.pv.2)) (R₀ : Rep C.S C.pv s₀.heap M₀ H₀) (L₀ : Live C s₀.heap M₀) (hl : ∀ n, l = some n → ∃ es, H₀[n]? = some (.dict es)) (hD0 : s₀.heap.get? D = none)
    (x : Step (C.withPv pv) noW s₀ M₀ s' M') (R : Rep C.S pv s'.heap M' H') (hL : IsL s'.heap D vs j) (rl : VRels (wdOf C.S pv s'.heap M') vs.toList ys) (nf : ¬ foot M' D) (e : newL mt ys (freeH l H') = .ok y Hf) :
    ∃ M₂, Step C noW s₀ M₀ s' M₂ ∧ Rep C.S C.pv s'.heap M₂ Hf ∧ VRel (C.wd s'.heap M₂) (.ref D) y ∧ ∀ c, s₀.heap.get? c = none → c ≠ D → ¬ foot M' c → ¬ foot M₂ c := by
  subst hpv
  have x' : Step C noW s₀ M₀ s' M' := x.pv fun a q => List.mem_append.mpr (.inr q)
  have R1 : Rep C.S (D :: C.pv.1, C.pv.2) s'.heap M' (freeH l H') := R.letGo x.pre R₀ hl
  cases mt with
  | false =>
    cases e
    have K : Kp (wdOf C.S (D :: C.pv.1, lockOf M₀ l ++ C.pv.2) s'.heap M') (C.wd s'.heap M') := kp_same fun a o _ q => .tail _ q
    have q := rl.keep K
    exact ⟨M', x', R1.keep (l := C.pv.1) (kp_same fun a o _ q => .tail _ q) fun _ _ => rfl, .lst hL (fun q => q.elim nf (L₀.pv0 hD0)) q.1 q.2, fun c _ _ n => n⟩
  | true =>
    cases e
    have hn : D ∉ C.pv.2 := fun q => by obtain ⟨o, ho⟩ := L₀.priv D (.inr q); rw [hD0] at ho; cases ho
    have rl1 : VRels (wdOf C.S (D :: C.pv.1, C.pv.2) s'.heap M') vs.toList ys := rl.keep (kp_same fun a o _ q => q)
    obtain ⟨K, R2⟩ := R1.adopt hL rl1 nf hn
    refine ⟨M' ++ [(D, D)], ⟨x'.keep, x'.slots, x'.alive, ?_, fun a q => ?_, x'.gens, x'.os⟩, R2, ?_, fun c hc hne n q => ?_⟩
    · obtain ⟨e, rfl⟩ := x'.pre; exact ⟨e ++ [(D, D)], by rw [List.append_assoc]⟩
    · rcases foot_append.mp q with q | ⟨p, hp, z⟩
      · exact x'.grow a q
      · cases List.mem_singleton.mp hp
        rcases z with rfl | rfl <;> exact .inr hD0
    · refine .ref (p := (D, D)) ?_
      show (M' ++ [(D, D)])[(freeH l H').length]? = _
      rw [← R1.len]; simp
    · rcases foot_append.mp q with q | ⟨p, hp, z⟩
      · exact n q
      · cases List.mem_singleton.mp hp
        exact z.elim hne hne
theorem comp_body {mt : Bool} {elt cond : DE} {elt' it' : Expr} {ifs : List Expr} {x : Str} {px pos : Pos} {sc : Scope} {ρ : RE} {s₁ : Shared} {M₁ : Mp} {H₁ H₂ H' : AH} {src : Src} {n tk : Nat} {l : Option Nat} {ys : List AV} {y : AV} {h2 h3 h4 : Heap} {I D c : Addr} {R : Result → Shared → Prop}
    (st1 : St C env ns ρ s₁ M₁ H₁) (Y : CompAt env x sc) (helt : ∀ pv (env' : Env), env'.scope.names = relN env.scope.names sc.names → Snd (C.withPv pv) env' (nsC ns sc.names x) elt elt') (hcond : ∀ pv (env' : Env), env'.scope.names = relN env.scope.names sc.names → TestsOK (C.withPv pv) env' (nsC ns sc.names x) cond ifs)
    (hh : C.A.handled = none) (hz : n ≤ 1000000) (hl : ∀ n, l = some n → ∃ es, H₁[n]? = some (.dict es)) (hk2 : ∀ b o, s₁.heap.get? b = some o → h2.get? b = some o) (st2 : St (C.held M₁ l) env ns ρ { s₁ with heap := h2 } M₁ (lockH l H₁)) (ha2 : Aside (C.held M₁ l) env h2 M₁ I) (it2 : Itr (C.held M₁ l) env h2 M₁ I src 0) (hI0 : s₁.heap.get? I = none)
    (hD0 : h2.get? D = none) (hk3 : ∀ b o, h2.get? b = some o → h3.get? b = some o) (hD3 : IsL h3 D #[] 0) (hc3 : h3.get? c = none) (hk4 : ∀ b o, h3.get? b = some o → h4.get? b = some o) (hn4 : h4.Ns c (fun _ => none))
    (hc : compL (fun v => cond (ρ ++ [some v])) (fun v => elt (ρ ++ [some v])) src n 0 [] (lockH l H₁) = .ok ys H₂) (hnew : newL mt ys (freeH l H₂) = .ok y H')
    (hR : ∀ s' M' m, Step C noW s₁ M₁ s' M' → Rep C.S C.pv s'.heap M' H' → VRel (C.wd s'.heap M') (.ref D) y → s₁.heap.get? c = none → s'.heap.Ns c m → ¬ foot M' c → R (.ok .next) s') :
    (∀ {P : Value → Shared → Prop} {E : Value → Shared → Prop}, P (.ref I) { s₁ with heap := h4, toks := tk } → wpAny C.S.M C.A (pyIter (.ref I)) P E { s₁ with heap := h4, toks := tk }) ∧ codeAny C.S.M C.A (.compLoop (.ListComp elt' [⟨.Name x px, it', ifs, 0⟩] sc pos) 0 (.ref I) (.ref D) (compEnvC sc (closOf env sc.names) c env)) R { s₁ with heap := h4, toks := tk } := by
  have hk24 : ∀ b o, h2.get? b = some o → h4.get? b = some o := fun b o e => hk4 b o (hk3 b o e)
  have oldD : s₁.heap.get? D = none := gone (fun b o e => ⟨o, hk2 b o e⟩) hD0
  have oldc2 : h2.get? c = none := gone (fun b o e => ⟨o, hk3 b o e⟩) hc3
  have oldc : s₁.heap.get? c = none := gone (fun b o e => ⟨o, hk2 b o e⟩) oldc2
  have hcD : c ≠ D := (ne_of hD3 hc3).symm
  refine x1_2 (it2.is.not) fun oI eI nI => ?_
  have hID : I ≠ D := ne_of eI hD0
  have hIc : I ≠ c := ne_of (hk3 _ _ eI) hc3
  have st4 : St (C.held M₁ l) env ns ρ { s₁ with heap := h4, toks := tk } M₁ (lockH l H₁) := st2.step (Step.ext (t := tk) hk24) (st2.rep.ext hk24)
  have kD : Kp ((C.held M₁ l).wd h4 M₁) (wdOf C.S (D :: C.pv.1, lockOf M₁ l ++ C.pv.2) h4 M₁) → True := fun _ => trivial
  have nfD : ¬ foot M₁ D := st1.rep.off oldD
  -- no value stands for D: it stood not in h2
  have kD2 : Kp ((C.held M₁ l).wd h2 M₁) (wdOf C.S (D :: C.pv.1, lockOf M₁ l ++ C.pv.2) h4 M₁) := ⟨fun b o e nf _ => ⟨hk24 b o e, fun q => nf (q.imp id fun q => (List.mem_cons.mp q).resolve_left (ne_of e hD0))⟩, ⟨[], by simp [wdOf]⟩, rfl⟩
  have R4 : Rep C.S (D :: C.pv.1, lockOf M₁ l ++ C.pv.2) h4 M₁ (lockH l H₁) := st2.rep.keep (l := D :: C.pv.1) kD2 fun a f => by
    obtain ⟨o, ho⟩ := st2.rep.there f
    exact (hk24 a o ho).trans ho.symm
  refine x2_1 (st2.env) fun m2 cm2 E2 => ?_
  have E4 : EnvAt (C.held M₁ l) env ns ρ h4 (wdOf C.S (D :: C.pv.1, lockOf M₁ l ++ C.pv.2) h4 M₁) m2 cm2 := E2.keep rfl (fun _ q => q) (fun o ho => ⟨o.slots, hk24 _ o ho⟩) (fun n c o e ho => hk24 c o ho) kD2 fun a o _ _ n => n
  have E4' : EnvAt (C.withPv (D :: C.pv.1, lockOf M₁ l ++ C.pv.2)) env ns ρ h4 ((C.withPv (D :: C.pv.1, lockOf M₁ l ++ C.pv.2)).wd h4 M₁) m2 cm2 := ⟨E4.fn, E4.glob, E4.bns, E4.loc, E4.off, E4.inj, E4.len, E4.has, E4.cell, E4.apart, E4.var⟩
  have hne : ∀ n a, env.cells.lookup n = some a → a ≠ c := fun n a ha => by
    obtain ⟨⟨o, ho, _⟩, _⟩ := E2.cell n a ha
    exact ne_of ho oldc2
  have En := E4'.inner (pv := (D :: C.pv.1, lockOf M₁ l ++ C.pv.2)) Y hn4 (st1.rep.off oldc) (st1.live.base0 oldc) hne (Kp.refl _)
  have stI : St (C.withPv (D :: C.pv.1, lockOf M₁ l ++ C.pv.2)) (compEnvC sc (closOf env sc.names) c env) (nsC ns sc.names x) (ρ ++ [none]) { s₁ with heap := h4, toks := tk } M₁ (lockH l H₁) := by
    have L := st4.live
    refine ⟨⟨L.frames, L.funs, L.stays, L.off, L.new, L.handled, L.dicts, L.depth, L.units, fun a q => ?_, fun a q => ?_⟩, R4, _, _, En⟩
    · rcases q with q | q
      · rcases List.mem_cons.mp q with rfl | q
        · exact ⟨_, hk4 _ _ hD3⟩
        · exact L.priv a (.inl q)
      · exact L.priv a (.inr q)
    · rcases List.mem_cons.mp q with rfl | q
      · exact nfD
      · exact L.poff a q
  have own : ∀ b o, h2.get? b = some o → ¬ OwnW env b → ¬ OwnW (compEnvC sc (closOf env sc.names) c env) b := fun b o e n q => by
    rcases q with q | ⟨y, q⟩
    · exact ne_of e oldc2 q
    · exact n (.inr ⟨y, clos_sub sc.names [] (fun _ _ q => nomatch q) y b q⟩)
  have it4 : Itr (C.withPv (D :: C.pv.1, lockOf M₁ l ++ C.pv.2)) (compEnvC sc (closOf env sc.names) c env) h4 M₁ I src 0 := it2.to (l1 := D :: C.pv.1) hk24 own (fun b o e n q => n ((List.mem_cons.mp q).resolve_left (ne_of e hD0))) kD2
  have aI : Aside (C.withPv (D :: C.pv.1, lockOf M₁ l ++ C.pv.2)) (compEnvC sc (closOf env sc.names) c env) h4 M₁ I := ⟨⟨oI, hk24 _ _ eI, .inr nI⟩, ha2.foot, ha2.fs, own I oI eI ha2.own, ha2.base⟩
  have aD : Aside (C.withPv (D :: C.pv.1, lockOf M₁ l ++ C.pv.2)) (compEnvC sc (closOf env sc.names) c env) h4 M₁ D := ⟨⟨_, hk4 _ _ hD3, .inl (.head _)⟩, nfD, st1.live.fs0 oldD, fun q => by
    rcases q with q | ⟨y, q⟩
    · exact hcD q.symm
    · exact st2.own0 (s := { s₁ with heap := h2 }) hD0 (.inr ⟨y, clos_sub sc.names [] (fun _ _ q => nomatch q) y D q⟩), st1.live.base0 oldD⟩
  have hIp : I ∉ D :: C.pv.1 ∧ I ∉ lockOf M₁ l ++ C.pv.2 := by
    have n1 : ∀ {a : Addr}, (∃ o, s₁.heap.get? a = some o) → I ≠ a := fun ⟨o, ho⟩ q => by rw [← q, hI0] at ho; cases ho
    refine ⟨fun q => ?_, fun q => ?_⟩
    · rcases List.mem_cons.mp q with q | q
      · exact hID q
      · exact n1 (st1.live.priv I (.inl q)) rfl
    · rcases List.mem_append.mp q with q | q
      · cases l with
        | none => cases q
        | some k =>
          simp only [lockOf] at q
          split at q
          · rename_i p hp
            have q := List.mem_singleton.mp q
            exact n1 (st1.rep.there (foot_at hp).1) q
          · cases q
      · exact n1 (st1.live.priv I (.inr q)) rfl
  refine ⟨fun h => itr_self (C := C.withPv (D :: C.pv.1, lockOf M₁ l ++ C.pv.2)) (s := { s₁ with heap := h4, toks := tk }) it4 h, ?_⟩
  have hnm : (compEnvC sc (closOf env sc.names) c env).scope.names = relN env.scope.names sc.names := relabel_names E2.fn
  refine comp_loop (C := C.withPv (D :: C.pv.1, lockOf M₁ l ++ C.pv.2)) hh (by rw [E2.len]; exact nsC_j) (lookup_relabel_local Y.loc) (helt _ _ hnm) (hcond _ _ hnm) (s₀ := s₁) (M₀ := M₁) hI0 oldc oldD (.head _) hIp hz (Step.ext fun b o e => hk24 b o (hk2 b o e)) stI aI aD hID it4 (hk4 _ _ hD3) hc fun s' M' vs j m x' R' L' hL rl nf hns nfc => ?_
  refine x1_4 (comp_end (C := C) (mt := mt) rfl st1.rep st1.live hl oldD x' R' hL rl nf hnew) fun M₂ z1 z2 z3 z4 => ?_
  exact hR s' M₂ m z1 z2 z3 oldc hns (z4 c oldc hcD nfc)
theorem comp_core {mt : Bool} {elt it cond : DE} {elt' it' : Expr} {ifs : List Expr} {x : Str} {px pos p0 : Pos} {sc : Scope} {use : Option (Value → Sem Unit)} {ρ : RE} {s : Shared} {M : Mp} {H : AH} {QQ : Value → Shared → Prop} {E : Value → Shared → Prop}
    (st : St C env ns ρ s M H) (hit : Snd C env ns it it') (hf : notSet it' = true) (Y : CompAt env x sc) (helt : ∀ pv (env' : Env), env'.scope.names = relN env.scope.names sc.names → Snd (C.withPv pv) env' (nsC ns sc.names x) elt elt') (hcond : ∀ pv (env' : Env), env'.scope.names = relN env.scope.names sc.names → TestsOK (C.withPv pv) env' (nsC ns sc.names x) cond ifs)
    (hb : compE C.hot mt elt it cond ρ H ≠ .bad) (hE : ∀ c H', compE C.hot mt elt it cond ρ H = .exc c H' → ∀ ev s', PostX C s M c H' ev s' → E ev s')
    (hQ : ∀ r y H' c s' M' m, compE C.hot mt elt it cond ρ H = .ok y H' → Step C noW s M s' M' → Rep C.S C.pv s'.heap M' H' → VRel (C.wd s'.heap M') r y → s.heap.get? c = none → s'.heap.Ns c m → ¬ foot M' c → compPost C.S.M C.A E use QQ r c (.ok .next) s') :
    wpAny C.S.M C.A (comprehension (.ListComp elt' [⟨.Name x px, it', ifs, 0⟩] sc pos) sc env p0 (newList []) false (eval it' env) use) QQ E s := by
  refine x2_1 (st.env) fun m cm En0 => ?_
  refine wpAny_comprehension_free (use := use) rfl (fold_no hf) (clos_eq fun y hy q => En0.has y.1 (Y.free y hy q)) Y.kind Y.locs ?_
  have A := hit st
  unfold compE at hb hE hQ
  generalize it ρ H = o at A hb hE hQ
  cases o with
  | bad => exact absurd rfl hb
  | exc c H' => exact wpAny_mono A (fun _ _ q => q.elim) fun _ _ q => hE c H' rfl _ _ q
  | ok a H₁ =>
  simp only [Out.bind] at hb hE hQ
  cases hs : srcOf H₁ a with
  | none => rw [hs] at hb; exact absurd rfl hb
  | some sr =>
  obtain ⟨src, n, l⟩ := sr
  rw [hs] at hb hE hQ
  simp only [orBad] at hb hE hQ
  by_cases hz : C.hot = false ∧ n ≤ 1000000
  case neg => rw [if_neg hz] at hb; exact absurd rfl hb
  rw [if_pos hz] at hb hE hQ
  cases hc : compL (fun v => cond (ρ ++ [some v])) (fun v => elt (ρ ++ [some v])) src n 0 [] (lockH l H₁) with
  | bad => rw [hc] at hb; exact absurd rfl hb
  | exc c H' => rw [hc] at hb; exact absurd rfl hb
  | ok ys H₂ =>
  rw [hc] at hb hE hQ
  have hh := st.live.handled hz.1
  have hnew : ∃ y H', newL mt ys (freeH l H₂) = .ok y H' := by cases mt <;> exact ⟨_, _, rfl⟩
  refine x2_1 (hnew) fun y H' hnew => ?_
  refine wpAny_mono A (fun v s₁ z_12 => x1_3 z_12 fun M₁ x1 rp1 ra => ?_) fun _ _ q => q.elim
  have st1 := st.step x1 rp1
  refine itr_start st1 hh hs ra fun h2 hk2 st2 ha2 it2 => ?_
  refine wpAny_newList (items := []) ?_ (Nat.zero_le _)
  refine wpAny_newFunctionEnv Y.nocell (by intro y hy; cases hy) (fun h4 hn4 hsb4 => ?_) Y.kind
  have hD0' : h2.get? h2.objs.size = none := size_none _
  have hk3 : ∀ b o, h2.get? b = some o → (h2.push { cls := .type "list", dict := none, data := .seq ([] : List Value).toArray }).get? b = some o := fun b o e => Heap.get?_push_of_some _ e
  have hD3 : IsL (h2.push { cls := .type "list", dict := none, data := .seq ([] : List Value).toArray }) h2.objs.size #[] 0 := Heap.get?_push_size _ rfl
  have hk4 : ∀ b o, (h2.push { cls := .type "list", dict := none, data := .seq ([] : List Value).toArray }).get? b = some o → h4.get? b = some o := fun b o e => (hsb4.2 b (Nat.ne_of_lt (Heap.lt_size e))).trans (Heap.get?_push_of_some _ e)
  have hc3 := size_none (h2.push { cls := .type "list", dict := none, data := .seq ([] : List Value).toArray })
  obtain ⟨self, key⟩ := comp_body (mt := mt) (tk := s₁.toks + ([] : List (Str × Value)).length) (elt' := elt') (it' := it') (px := px) (pos := pos) (R := compPost C.S.M C.A E use QQ (.ref h2.objs.size) _) st1 Y helt hcond hh hz.2 (src_lock hs) hk2 st2 ha2 it2 (size_none _) hD0' hk3 hD3 hc3 hk4 hn4 hc hnew fun s' M' m z1 z2 z3 z4 z5 z6 =>
    hQ (.ref _) y H' _ s' M' m hnew (x1.trans z1) z2 z3 (gone x1.alive z4) z5 z6
  exact codeAny_compStart_list key (self key)
theorem dictOff {h : Heap} {c : Addr} {m : Str → Option Value} (hn : h.Ns c m) : ∀ o, h.get? c = some o → ¬ Held o := by
  intro o e hh
  refine x3_3 (hn) fun o' es ep ho hd _ => ?_; try clear hn
  rw [e] at ho; cases ho
  exact hh.nd es ep hd
theorem Ns.there {h : Heap} {c : Addr} {m : Str → Option Value} (hn : h.Ns c m) : ∃ o, h.get? c = some o := let ⟨o, _, _, ho, _⟩ := hn; ⟨o, ho⟩
theorem snd_comp {mt : Bool} {elt it cond : DE} {elt' it' : Expr} {ifs : List Expr} {x : Str} {px pos : Pos} {sc : Scope} (hit : Snd C env ns it it') (hf : notSet it' = true) (Y : CompAt env x sc)
    (helt : ∀ pv (env' : Env), env'.scope.names = relN env.scope.names sc.names → Snd (C.withPv pv) env' (nsC ns sc.names x) elt elt') (hcond : ∀ pv (env' : Env), env'.scope.names = relN env.scope.names sc.names → TestsOK (C.withPv pv) env' (nsC ns sc.names x) cond ifs) :
    Snd C env ns (compE C.hot mt elt it cond) (.ListComp elt' [⟨.Name x px, it', ifs, 0⟩] sc pos) := fun {ρ s M H} st => by
  cases ho : compE C.hot mt elt it cond ρ H with
  | bad => trivial
  | exc c H' =>
    exact comp_core (mt := mt) (use := none) (p0 := it'.pos) (QQ := no1) (E := PostX C s M c H') st hit hf Y helt hcond (by rw [ho]; exact fun q => nomatch q) (fun c' H'' e ev s' p => by rw [ho] at e; cases e; exact p) fun r y H' c s' M' m e => by rw [ho] at e; cases e
  | ok y H' =>
    refine comp_core (mt := mt) (use := none) (p0 := it'.pos) (QQ := Post VRel C s M y H') (E := no1) st hit hf Y helt hcond (by rw [ho]; exact fun q => nomatch q) (fun c' H'' e => by rw [ho] at e; cases e) fun r y' H'' c s' M' m e x rp rv hc hn nf => ⟨m, hn, fun h' sb => ?_⟩
    rw [ho] at e
    cases e
    have k : ∀ b o, b ≠ c → s'.heap.get? b = some o → h'.get? b = some o := fun b o ne e => (sb.2 b ne).trans e
    have K : Kp (C.wd s'.heap M') (C.wd h' M') := ⟨fun b o e n hd => ⟨k b o (fun z => dictOff hn o (z ▸ e) hd) e, n⟩, ⟨[], by simp [wdOf]⟩, rfl⟩
    exact ⟨M', x.but (tk := s'.toks) hc k, rp.keep (l := C.pv.1) K fun a f => sb.2 a fun q => nf (q ▸ f), rv.keep K⟩
end
structure Stn (B : Heap) (fe : List Env) (h h' : Heap) : Prop where
  stays : B.StaysIn h'
  funs : h'.FunFrames B fe
  up : h.UpToSlots h'
  alive : ∀ b o, h.get? b = some o → ∃ o', h'.get? b = some o'
theorem dict_mapFields (f : Array Value → Array Value) (o : Obj) : (o.mapFields f).dict = o.dict := by
  unfold Obj.mapFields
  split <;> rfl
section
variable {M : Model} {A : Around} {E : Value → Shared → Prop} {s : Shared} {B : Heap} {env : Env} {outer : List Env} {L e D : Addr} {Q : Unit → Shared → Prop}
theorem entry_ok {o : Obj} {vs : Array Value} {head : Value} {hadNext : Bool} (hfr : A.frames = some (env :: outer)) (hl : s.heap.FunFrames B (env :: outer)) (hf : env.frame = some L)
    (he : s.heap.get? e = some o) (hkb : B.StaysIn s.heap) (hen : B.get? e = none) (hd : o.data = .fields vs) (hsz : 2 < vs.size) (hcd : o.cls = .ref D ∧ o.dict = none)
    (h : ∀ h', Stn B (env :: outer) s.heap h' → Fly B h' e D (rawInt L) → Q () { s with heap := h' }) :
    wpAny M A (do let a ← frameOf env; let pl ← entryPlaceOf L hadNext; let b ← EntryCells.newEntry head a .none (rawInt L) .none pl; setField (.ref e) 1 b) Q E s := by
  have hene : e ∉ (env :: outer).filterMap (·.frame) := fun hm => by
    obtain ⟨_, o', ho, hnf⟩ := hl.mem hm
    rw [he] at ho; cases ho; exact hnf vs hd
  refine wpAny_bind (wpAny_frameOf_fun hfr hl hf fun h₁ hs₁ => ?_)
  refine wpAny_bind (wpAny_entryPlaceOf fun pl hpl => ?_)
  unfold EntryCells.newEntry newFields
  refine wpAny_bind (wpAny_newObj_type ?_ (hpl.sizeOk5 _ _ _ _ _))
  have he₁ : h₁.get? e = some o := (hs₁.2.1 e hene).trans he
  have kb₁ : B.StaysIn h₁ := fun b o' hbo => (hs₁.2.1 b fun hm => by rw [(hl.mem hm).1] at hbo; cases hbo).trans (hkb b o' hbo)
  have h3 : ([head, Value.ref L, .none, rawInt L, .none] ++ (if pl.isEmpty then List.replicate 6 Value.none else pl)).toArray[3]? = some (rawInt L) := by simp
  generalize ([head, Value.ref L, .none, rawInt L, .none] ++ (if pl.isEmpty then List.replicate 6 Value.none else pl)).toArray = ts at h3
  have he₂ := Heap.get?_push_of_some (h := h₁) { cls := .type "traceback", dict := none, data := .fields ts } he₁
  refine wpAny_setField he₂ hd (Nat.lt_of_succ_lt hsz) ?_
  have hTe : h₁.objs.size ≠ e := Nat.ne_of_gt (Heap.lt_size he₁)
  have hd₃ := Obj.data_mapFields hd (·.setIfInBounds 1 (Value.ref h₁.objs.size))
  have he₃ := Heap.get?_update_self (Obj.mapFields (·.setIfInBounds 1 (Value.ref h₁.objs.size))) he₂ (Obj.isFreed_of_fields hd₃)
  have hT₃ := (Heap.get?_update_other (h₁.push { cls := .type "traceback", dict := none, data := .fields ts }) (Obj.mapFields (·.setIfInBounds 1 (Value.ref h₁.objs.size))) (Ne.symm hTe)).trans (Heap.get?_push_size h₁ rfl)
  have keep : ∀ b o', b ≠ e → h₁.get? b = some o' → ((h₁.push { cls := .type "traceback", dict := none, data := .fields ts }).update e (Obj.mapFields (·.setIfInBounds 1 (Value.ref h₁.objs.size)))).get? b = some o' := fun b o' hbe hb => by
    rw [Heap.get?_update_other _ _ (Ne.symm hbe)]
    exact Heap.get?_push_of_some _ hb
  have noRecord : ∀ b o', s.heap.get? b = some o' → (∀ vs, o'.data ≠ .fields vs) → b ≠ e := fun b o' hb hnf q => by
    rw [q, he] at hb; cases hb; exact hnf vs hd
  refine h _ ⟨fun b o' hbo => keep b o' (ne_of hbo hen) (kb₁ b o' hbo), hl.of_keeps fun b o' hb hnf => ?_, fun b o' hb hnf => ?_, fun b o' hb => ?_⟩ ⟨_, _, h₁.objs.size, _, ts, he₃, ⟨(Obj.cls_mapFields _ _).trans hcd.1, (dict_mapFields _ _).trans hcd.2⟩, hd₃, by simpa using hsz, by simp [Nat.lt_of_succ_lt hsz], kb₁.fresh, hTe, hT₃, rfl, h3⟩
  · obtain ⟨sl, hs⟩ := hs₁.2.2 b o' hb
    exact ⟨_, keep b _ (noRecord b o' hb hnf) hs, rfl⟩
  · obtain ⟨sl, hs⟩ := hs₁.2.2 b o' hb
    exact ⟨sl, keep b _ (noRecord b o' hb hnf) hs⟩
  · by_cases q : b = e
    · rw [q]; exact ⟨_, he₃⟩
    · obtain ⟨sl, hs⟩ := hs₁.2.2 b o' hb
      exact ⟨_, keep b _ q hs⟩
theorem note_ok (hfr : A.frames = some (env :: outer)) (hl : s.heap.FunFrames B (env :: outer)) (hf : env.frame = some L) (hkb : B.StaysIn s.heap) (hen : B.get? e = none) (hx : Raw s.heap e D ∨ ∃ fl, Fly B s.heap e D fl ∧ (fl = .none ∨ fl = rawInt L))
    (h : ∀ h', Stn B (env :: outer) s.heap h' → Fly B h' e D (rawInt L) → Q () { s with heap := h' }) : wpAny M A (noteFrame (.ref e) env) Q E s := by
  rcases hx with ⟨o, vs, he, hcd, hd, hsz, h1⟩ | ⟨fl, ⟨o, vs, T, oT, ts, he, hcd, hd, hsz, h1, hnT, hTe, hT, hdT, h3⟩, rfl | rfl⟩
  · unfold noteFrame
    simp only [hf]
    refine wpAny_bind (wpAny_field he hd h1 ?_)
    rw [if_neg (show ¬ ((Value.none != Value.none) = true) by simp)]
    exact entry_ok hfr hl hf he hkb hen hd hsz hcd h
  · unfold noteFrame
    simp only [hf]
    refine wpAny_bind (wpAny_field he hd h1 ?_)
    rw [if_pos (show (Value.ref T != Value.none) = true from by simp)]
    refine wpAny_bind (wpAny_field hT hdT h3 ?_)
    rw [if_neg (show ¬ ((Value.none == rawInt L) = true) from by simp [rawInt])]
    refine wpAny_bind (wpAny_setField hT hdT (Array.getElem?_eq_some_iff.mp h3).1 ?_)
    have other : ∀ b, b ≠ T → (s.heap.update T (Obj.mapFields (·.setIfInBounds 3 Value.none))).get? b = s.heap.get? b := fun b hb => Heap.get?_update_other _ _ (Ne.symm hb)
    have noRecord : ∀ b o, s.heap.get? b = some o → (∀ vs, o.data ≠ .fields vs) → b ≠ T := fun b o hb hnf q => by
      rw [q, hT] at hb; cases hb; exact hnf ts hdT
    refine entry_ok hfr (hl.of_keeps fun b o hb hnf => ⟨o, (other b (noRecord b o hb hnf)).trans hb, rfl⟩) hf ((other e (Ne.symm hTe)).trans he) (fun b o hbo => (other b (ne_of hbo hnT)).trans (hkb b o hbo)) hen hd hsz hcd fun h' z f => h h' ⟨z.stays, z.funs, fun b o hb hnf => z.up b o ((other b (noRecord b o hb hnf)).trans hb) hnf, fun b o hb => ?_⟩ f
    by_cases q : b = T
    · rw [q]; exact z.alive T _ (Heap.get?_update_self _ hT (Obj.isFreed_of_fields (Obj.data_mapFields hdT _)))
    · exact z.alive b o ((other b q).trans hb)
  · unfold noteFrame
    simp only [hf]
    refine wpAny_bind (wpAny_field he hd h1 ?_)
    rw [if_pos (show (Value.ref T != Value.none) = true from by simp)]
    refine wpAny_bind (wpAny_field hT hdT h3 ?_)
    rw [if_pos (show (rawInt L == rawInt L) = true from by simp)]
    exact wpAny_pure (h s.heap ⟨hkb, hl, Heap.UpToSlots.refl _, fun b o hb => ⟨o, hb⟩⟩ ⟨o, vs, T, oT, ts, he, hcd, hd, hsz, h1, hnT, hTe, hT, hdT, h3⟩)
theorem flight_ok {fe : List Env} {fr : Option Addr} {fl : Value} (hl : s.heap.FunFrames B fe) (hkb : B.StaysIn s.heap) (hx : Fly B s.heap e D fl)
    (h : ∀ h', Stn B fe s.heap h' → Fly B h' e D (fr.elim .none fun f => rawInt f) → Q () { s with heap := h' }) : wpAny M A (setFlight (.ref e) fr) Q E s := by
  obtain ⟨o, vs, T, oT, ts, he, hc, hd, hsz, h1, hnT, hTe, hT, hdT, h3⟩ := hx
  have hsz3 : 3 < ts.size := (Array.getElem?_eq_some_iff.mp h3).1
  have other : ∀ b, b ≠ T → (s.heap.update T (Obj.mapFields (·.setIfInBounds 3 (fr.elim Value.none fun f => rawInt f)))).get? b = s.heap.get? b := fun b hb => Heap.get?_update_other _ _ (Ne.symm hb)
  have noRecord : ∀ b o, s.heap.get? b = some o → (∀ vs, o.data ≠ .fields vs) → b ≠ T := fun b o hb hnf q => by
    rw [q, hT] at hb; cases hb; exact hnf ts hdT
  unfold setFlight
  refine wpAny_bind (wpAny_field he hd h1 ?_)
  rw [if_pos (show (Value.ref T != Value.none) = true from by simp)]
  refine wpAny_setField hT hdT hsz3 (h _ ⟨fun b o hbo => (other b (ne_of hbo hnT)).trans (hkb b o hbo), hl.of_keeps fun b o hb hnf => ⟨o, (other b (noRecord b o hb hnf)).trans hb, rfl⟩, fun b o hb hnf => ⟨o.slots, (other b (noRecord b o hb hnf)).trans hb⟩, fun b o hb => ?_⟩ ?_)
  · by_cases q : b = T
    · rw [q]; exact ⟨_, Heap.get?_update_self _ hT (Obj.isFreed_of_fields (Obj.data_mapFields hdT _))⟩
    · exact ⟨o, (other b q).trans hb⟩
  exact ⟨o, vs, T, _, _, (other e (Ne.symm hTe)).trans he, hc, hd, hsz, h1, hnT, hTe, Heap.get?_update_self _ hT (Obj.isFreed_of_fields (Obj.data_mapFields hdT _)), Obj.data_mapFields hdT _, by simp [hsz3]⟩
theorem cameBack_ok {fe : List Env} {fl : Value} {P : Value → Shared → Prop} (hl : s.heap.FunFrames B fe) (hkb : B.StaysIn s.heap) (hf : env.frame = some L) (hx : Fly B s.heap e D fl)
    (h : ∀ h', Stn B fe s.heap h' → Fly B h' e D (rawInt L) → P (.ref e) { s with heap := h' }) : cameBackBy M A env P (.ref e) s := by
  refine x5_6 (id hx) fun o vs T oT ts he hc hd hsz h1 r => ?_
  unfold cameBackBy
  refine wpAny_bind (wpAny_field he hd h1 ?_)
  rw [if_neg (show ¬ ((Value.ref T == Value.none) = true) from Bool.false_ne_true)]
  refine flight_ok (fr := env.frame) hl hkb hx fun h' z f => ?_
  rw [hf] at f
  exact h h' z f
end
section
variable {C : Cx} {env : Env} {ns : List (Option Str)} {ρ : RE} {W : Addr → Prop} {s s' : Shared} {M M' : Mp} {H H' : AH} {e : Addr} {c : Nat} {B h' : Heap}
theorem Exn.kp (x : Exn C W s M e c s' M' H' B) (L : Live C s.heap M) (hw : VarsOnly s.heap W) : Kp (C.wd s.heap M) (C.wd B M') :=
  ⟨fun b o e n hh => ⟨x.keepB b o e (fun q => absurd (.inl q) n) (fun q => hw b o q e hh) (L.offFs e hh.nd), fun q => q.elim (x.step.not e fun q => n (.inl q)) fun q => n (.inr q)⟩, x.pre, rfl⟩
theorem St.exn (st : St C env ns ρ s M H) (x : Exn C noW s M e c s' M' H' B) : EnvB C env ns ρ s'.heap B M' := by
  refine x2_1 (st.env) fun m cm E => ?_
  refine x1_2 (id x.flt) fun D _ fl => ?_
  refine ⟨m, cm, E.keep rfl (fun _ q => q) (fun o ho => ?_) (fun n c o e ho => fl.stays _ _ (x.keepB _ _ ho (fun q => absurd q (E.off c (.inr ⟨n, e⟩)).1) (fun q => q) (E.offFs e))) (x.kp st.live noW_seq) fun a o _ ho n => x.step.not ho n⟩
  by_cases f : env.locals ∈ C.fs
  · exact x.slots _ o ho f (fun q => q)
  · exact ⟨o.slots, fl.stays _ _ (x.keepB _ _ ho (fun q => absurd q (E.off _ (.inl rfl)).1) (fun q => q) f)⟩
theorem Exn.stn {D : Addr} {fl : Value} (x : Exn C W s M e c s' M' H' B) (hX : C.S.X c = some D) (hn : B.get? e = none) (hs : s'.heap.FunFrames B C.fe) (z : Stn B C.fe s'.heap h') (f : Fly B h' e D fl) (hfl : fl = .none ∨ ∃ L, C.fe.head?.bind (·.frame) = some L ∧ fl = rawInt L) : Exn C W s M e c { s' with heap := h' } M' H' B :=
  { x with
    flt := ⟨D, hX, z.stays, hn, z.funs, .inr ⟨fl, f, hfl⟩⟩
    slots := fun b o e fb m => by
      obtain ⟨sl, h1⟩ := x.slots b o e fb m
      obtain ⟨_, o', ho', nf⟩ := hs.mem fb
      rw [h1] at ho'; cases ho'
      obtain ⟨sl', h2⟩ := z.up b _ h1 nf
      exact ⟨sl', h2⟩
    alive := fun b o e => by
      obtain ⟨o', e'⟩ := x.alive b o e
      exact z.alive b o' e' }
theorem EnvB.stn {fe : List Env} {h : Heap} (E : EnvB C env ns ρ h B M) (z : Stn B fe h h') : EnvB C env ns ρ h' B M := by
  refine x2_1 (E) fun m cm E => ?_
  refine ⟨m, cm, E.fn, E.glob, E.bns, ?_, E.off, E.inj, E.len, E.has, fun n c hc => ?_, E.apart, E.var⟩
  · refine x3_3 (E.loc) fun o es ep ho hd r => ?_
    obtain ⟨sl, h1⟩ := z.up _ o ho (fun vs q => by rw [hd] at q; cases q)
    exact ⟨_, es, ep, h1, hd, r⟩
  · obtain ⟨⟨o, ho, hd⟩, r⟩ := E.cell n c hc
    obtain ⟨sl, h1⟩ := z.up _ o ho (fun vs q => by rw [hd] at q; cases q)
    exact ⟨⟨_, h1, hd⟩, r⟩
noncomputable def PostN (C : Cx) (env : Env) (ns : List (Option Str)) (s : Shared) (M : Mp) (ρ' : RE) (H' : AH) (s' : Shared) : Prop := ∃ M', Step C (OwnW env) s M s' M' ∧ St C env ns ρ' s' M' H'
noncomputable def PostR (C : Cx) (env : Env) (ns : List (Option Str)) (s : Shared) (M : Mp) (a : AV) (H' : AH) (fl : Flow) (s' : Shared) : Prop := ∃ v ρ' M', fl = .ret v ∧ Step C (OwnW env) s M s' M' ∧ St C env ns ρ' s' M' H' ∧ VRel (C.wd s'.heap M') v a
noncomputable def PostSX (C : Cx) (env : Env) (ns : List (Option Str)) (s : Shared) (M : Mp) (c : Nat) (ρ' : RE) (H' : AH) (ev : Value) (s' : Shared) : Prop :=
  ∃ e M' B, ev = .ref e ∧ Exn C (OwnW env) s M e c s' M' H' B ∧ EnvB C env ns ρ' s'.heap B M'
noncomputable def EvS (C : Cx) (env : Env) (ns : List (Option Str)) (t : Sem Flow) (s : Shared) (M : Mp) : OutS → Prop
  | .next ρ' H' => wpAny C.S.M C.A t (fun fl s' => fl = .next ∧ PostN C env ns s M ρ' H' s') no1 s
  | .ret a H' => wpAny C.S.M C.A t (PostR C env ns s M a H') no1 s
  | .exc c ρ' H' => wpAny C.S.M C.A t no1 (PostSX C env ns s M c ρ' H') s
  | .bad => True
theorem PostN.back {s₁ : Shared} {M₁ : Mp} {ρ' : RE} (x : Step C (OwnW env) s M s₁ M₁) (p : PostN C env ns s₁ M₁ ρ' H' s') : PostN C env ns s M ρ' H' s' := let ⟨M', a, b⟩ := p; ⟨M', x.trans a, b⟩
theorem PostR.back {s₁ : Shared} {M₁ : Mp} {a : AV} {fl : Flow} (x : Step C (OwnW env) s M s₁ M₁) (p : PostR C env ns s₁ M₁ a H' fl s') : PostR C env ns s M a H' fl s' := let ⟨v, ρ', M', e, a, b⟩ := p; ⟨v, ρ', M', e, x.trans a, b⟩
theorem PostSX.back {s₁ : Shared} {M₁ : Mp} {ρ' : RE} {ev : Value} (x : Step C (OwnW env) s M s₁ M₁) (p : PostSX C env ns s₁ M₁ c ρ' H' ev s') : PostSX C env ns s M c ρ' H' ev s' := let ⟨e, M', B, a, b, d⟩ := p; ⟨e, M', B, a, b.after x fun _ q => q, d⟩
theorem EvS.at {t t' : Sem Flow} {s₁ : Shared} {M₁ : Mp} {o : OutS} (h : EvS C env ns t s₁ M₁ o) (x : Step C (OwnW env) s M s₁ M₁) (e : ∀ {P : Flow → Shared → Prop} {E : Value → Shared → Prop}, wpAny C.S.M C.A t P E s₁ → wpAny C.S.M C.A t' P E s) : EvS C env ns t' s M o := by
  cases o with
  | bad => trivial
  | next ρ' H' => exact e (wpAny_mono h (fun _ _ p => ⟨p.1, p.2.back x⟩) fun _ _ p => p)
  | ret a H' => exact e (wpAny_mono h (fun _ _ p => p.back x) fun _ _ p => p)
  | exc c ρ' H' => exact e (wpAny_mono h (fun _ _ p => p) fun _ _ p => p.back x)
theorem PostX.toS (st : St C env ns ρ s M H) {ev : Value} (p : PostX C s M c H' ev s') : PostSX C env ns s M c ρ H' ev s' := by
  refine x3_2 (p) fun e M' B a x => ?_; try clear p
  exact ⟨e, M', B, a, x.wider (fun _ z => z.elim), st.exn x⟩
noncomputable def EvP (C : Cx) (env : Env) (ns : List (Option Str)) (s : Shared) (M : Mp) (K : (Flow → Shared → Prop) → (Value → Shared → Prop) → Prop) : OutS → Prop
  | .next ρ' H' => K (fun fl s' => fl = .next ∧ PostN C env ns s M ρ' H' s') no1
  | .ret a H' => K (PostR C env ns s M a H') no1
  | .exc c ρ' H' => K no1 (PostSX C env ns s M c ρ' H')
  | .bad => True
theorem EvS.of {t : Sem Flow} {o : OutS} {K : (Flow → Shared → Prop) → (Value → Shared → Prop) → Prop} (h : EvP C env ns s M K o) (e : ∀ {P : Flow → Shared → Prop} {E : Value → Shared → Prop}, K P E → wpAny C.S.M C.A t P E s) : EvS C env ns t s M o := by
  cases o with
  | bad => trivial
  | next ρ' H' => exact e h
  | ret a H' => exact e h
  | exc c ρ' H' => exact e h
theorem EvP.ofS {t : Sem Flow} {o : OutS} {K : (Flow → Shared → Prop) → (Value → Shared → Prop) → Prop} (h : EvS C env ns t s M o) (e : ∀ {P : Flow → Shared → Prop} {E : Value → Shared → Prop}, wpAny C.S.M C.A t P E s → K P E) : EvP C env ns s M K o := by
  cases o with
  | bad => trivial
  | next ρ' H' => exact e h
  | ret a H' => exact e h
  | exc c ρ' H' => exact e h
theorem EvP.expr {α β : Type} {R : RelT α β} {t : Sem α} {o : Out β} {f : β → AH → OutS} (st : St C env ns ρ s M H) (h : Ev R C t s M o) (K : α → Shared → (Flow → Shared → Prop) → (Value → Shared → Prop) → Prop)
    (hm : ∀ {x s₁} {P P' : Flow → Shared → Prop} {E E' : Value → Shared → Prop}, K x s₁ P E → (∀ f s, P f s → P' f s) → (∀ v s, E v s → E' v s) → K x s₁ P' E')
    (hk : ∀ y H₁ x s₁ M₁, o = .ok y H₁ → Step C noW s M s₁ M₁ → St C env ns ρ s₁ M₁ H₁ → R (C.wd s₁.heap M₁) x y → EvP C env ns s₁ M₁ (K x s₁) (f y H₁)) : EvP C env ns s M (fun P E => wpAny C.S.M C.A t (fun x s₁ => K x s₁ P E) E s) (o.inS ρ f) := by
  cases o with
  | bad => trivial
  | exc c H' => exact wpAny_mono h (fun _ _ q => q.elim) fun _ _ p => PostX.toS st p
  | ok y H₁ =>
    show EvP C env ns s M _ (f y H₁)
    have hk' := fun x s₁ M₁ a b c => hk y H₁ x s₁ M₁ rfl a b c
    generalize f y H₁ = o' at hk'
    cases o' with
    | bad => trivial
    | next ρ' H' => exact wpAny_mono h (fun x s₁ z_13 => x1_3 z_13 fun M₁ x1 rp r => hm (hk' x s₁ M₁ x1 (st.step x1 rp) r) (fun _ _ p => ⟨p.1, p.2.back x1.ofNo⟩) fun _ _ p => p.elim) fun _ _ q => q.elim
    | ret a H' => exact wpAny_mono h (fun x s₁ z_14 => x1_3 z_14 fun M₁ x1 rp r => hm (hk' x s₁ M₁ x1 (st.step x1 rp) r) (fun _ _ p => p.back x1.ofNo) fun _ _ p => p.elim) fun _ _ q => q.elim
    | exc c ρ' H' => exact wpAny_mono h (fun x s₁ z_15 => x1_3 z_15 fun M₁ x1 rp r => hm (hk' x s₁ M₁ x1 (st.step x1 rp) r) (fun _ _ p => p.elim) fun _ _ p => p.back x1.ofNo) fun _ _ q => q.elim
theorem EvS.bind {α β : Type} {R : RelT α β} {t : Sem α} {k : α → Sem Flow} {o : Out β} {f : β → AH → OutS} (st : St C env ns ρ s M H) (h : Ev R C t s M o)
    (hk : ∀ y H₁ x s₁ M₁, o = .ok y H₁ → Step C noW s M s₁ M₁ → St C env ns ρ s₁ M₁ H₁ → R (C.wd s₁.heap M₁) x y → EvS C env ns (k x) s₁ M₁ (f y H₁)) : EvS C env ns (t >>= k) s M (o.inS ρ f) :=
  EvS.of (EvP.expr st h (fun x s₁ P E => wpAny C.S.M C.A (k x) P E s₁) (fun z a b => wpAny_mono z a b) fun y H₁ x s₁ M₁ e a b c => (EvP.ofS (hk y H₁ x s₁ M₁ e a b c) fun z => z)) fun z => wpAny_bind z
theorem EvP.orBad {ε : Type} {K : (Flow → Shared → Prop) → (Value → Shared → Prop) → Prop} {x : Option ε} {f : ε → OutS} (h : ∀ y, x = some y → EvP C env ns s M K (f y)) : EvP C env ns s M K (orBadS x f) := by
  cases x with
  | none => trivial
  | some y => exact h y rfl
theorem EvS.map {t t' : Sem Flow} {o : OutS} (h : EvS C env ns t s M o) (e : ∀ {P : Flow → Shared → Prop} {E : Value → Shared → Prop}, wpAny C.S.M C.A t P E s → wpAny C.S.M C.A t' P E s) : EvS C env ns t' s M o := h.at (Step.refl ..) e
theorem EvS.stand {t : Sem Flow} {pos : Pos} {o : OutS} (h : EvS C env ns t s M o) : EvS C env ns (standAt pos >>= fun _ => t) s M o := h.map fun z => wpAny_bind (wpAny_standAt z)
theorem EvS.orBad {ε : Type} {t : Sem Flow} {x : Option ε} {f : ε → OutS} (h : ∀ y, x = some y → EvS C env ns t s M (f y)) : EvS C env ns t s M (orBadS x f) := by
  cases x with
  | none => trivial
  | some y => exact h y rfl
theorem EvS.nextHere (st : St C env ns ρ s M H) : EvS C env ns (pure .next) s M (.next ρ H) := wpAny_pure ⟨rfl, M, Step.refl .., st⟩
end
noncomputable def SndS (C : Cx) (env : Env) (ns : List (Option Str)) (f : DS) (t : Stmt) : Prop :=
  ∀ {ρ : RE} {s : Shared} {M : Mp} {H : AH}, St C env ns ρ s M H → EvS C env ns (exec t env) s M (f ρ H)
noncomputable def SndB (C : Cx) (env : Env) (ns : List (Option Str)) (f : DS) (ts : List Stmt) : Prop :=
  ∀ {ρ : RE} {s : Shared} {M : Mp} {H : AH}, St C env ns ρ s M H → EvS C env ns (execs ts env) s M (f ρ H)
noncomputable def TgOK (env : Env) (ns : List (Option Str)) (x : Str) (i : Nat) : Prop := ns[i]? = some (some x) ∧ (env.kindOf x = some .local ∨ env.kindOf x = some .cell)
inductive TgAt (env : Env) (ns : List (Option Str)) : Tg → Expr → Prop
  | one {x : Str} {i : Nat} {p : Pos} : TgOK env ns x i → TgAt env ns (.one i) (.Name x p)
  | many {xs : List (Str × Nat × Pos)} {k : Nat} {p : Pos} : (∀ y ∈ xs, TgOK env ns y.1 y.2.1) → TgAt env ns (.many (xs.map (·.2.1))) (.Tuple (xs.map fun y => .Name y.1 y.2.2) k p)
noncomputable def notComp : Expr → Bool
  | .ListComp .. => false
  | .SetComp .. => false
  | .DictComp .. => false
  | _ => true
theorem swaps_no {e : Expr} {t : Option Expr} {l : Nat} {env : Env} (h : notComp e = true) : swapsWith e t l env = pure false := by
  cases e <;> first | rfl | cases h
section
variable {C : Cx} {env : Env} {ns : List (Option Str)} {ρ : RE} {s s' : Shared} {M M' : Mp} {H H' : AH}
theorem assign_many {P : Unit → Shared → Prop} {E : Value → Shared → Prop} : ∀ (xs : List (Str × Nat × Pos)) (vs : List Value) (as : List AV) {ρ ρ' : RE} {s : Shared}, (∀ y ∈ xs, TgOK env ns y.1 y.2.1) → St C env ns ρ s M H → VRels (C.wd s.heap M) vs as → bindMany (xs.map (·.2.1)) as ρ = some ρ' →
    (∀ s', Step C (OwnW env) s M s' M → St C env ns ρ' s' M H → P () s') → wpAny C.S.M C.A (assignInOrder ((assignEach (xs.map fun y => .Name y.1 y.2.2) env).map (·.2)) vs) P E s
  | [], [], as, ρ, ρ', s, hx, st, r, hb, h => by
    have : as = [] := List.eq_nil_of_length_eq_zero r.1.symm
    subst this
    cases hb
    exact wpAny_pure (h s (Step.refl ..) st)
  | [], _ :: _, as, ρ, ρ', s, hx, st, r, hb, h => by
    cases as with
    | nil => cases r.1
    | cons _ _ => cases hb
  | _ :: _, [], as, ρ, ρ', s, hx, st, r, hb, h => by
    cases as with
    | nil => cases hb
    | cons _ _ => cases r.1
  | y :: xs, v :: vs, as, ρ, ρ', s, hx, st, r, hb, h => by
    cases as with
    | nil => cases r.1
    | cons a as =>
      obtain ⟨r1, r2⟩ := r.un
      show wpAny C.S.M C.A (holding vs (assign (.Name y.1 y.2.2) env v) >>= fun _ => assignInOrder ((assignEach (xs.map fun y => .Name y.1 y.2.2) env).map (·.2)) vs) P E s
      have t := hx y (.head _)
      refine wpAny_bind (wpAny_holding (wpAny_assign_Name (store_ok st t.1 t.2 r1 fun s₁ x1 st1 => ?_)))
      refine x2_1 (st.env) fun m cm En => ?_
      exact assign_many xs vs as (fun z hz => hx z (.tail _ hz)) st1 (r2.keep (x1.kp st.live En.vars)) hb fun s' x2 st' => h s' (x1.trans x2) st'
theorem assign_ok {t : Tg} {e : Expr} {v : Value} {a : AV} {ρ' : RE} {P : Unit → Shared → Prop} {E : Value → Shared → Prop} (T : TgAt env ns t e) (st : St C env ns ρ s M H) (r : VRel (C.wd s.heap M) v a) (hb : bindT C.hot t a ρ = some ρ') (h : ∀ s', Step C (OwnW env) s M s' M → St C env ns ρ' s' M H → P () s') : wpAny C.S.M C.A (assign e env v) P E s := by
  cases T with
  | one T => cases hb; exact wpAny_assign_Name (store_ok st T.1 T.2 r h)
  | many T =>
    rename_i xs k p
    replace hb : (if C.hot = true then none else match a with | .tup ys => bindMany (xs.map (·.2.1)) ys ρ | _ => none) = some ρ' := hb
    split at hb <;> first | exact no_some hb | skip
    rename_i hot
    cases a <;> first | exact no_some hb | skip
    rename_i as
    have hh := st.live.handled (by simpa using hot)
    refine x3_4 (r.inv) fun x vs n e3' ho nf rs => ?_; subst e3'
    have hlen : (assignEach (xs.map fun y => Expr.Name y.1 y.2.2) env).length = xs.length ∧ (assignEach (xs.map fun y => Expr.Name y.1 y.2.2) env).findIdx? (·.1) = none := by
      clear T hb
      induction xs with
      | nil => exact ⟨rfl, rfl⟩
      | cons y xs ih =>
        refine ⟨congrArg (· + 1) ih.1, ?_⟩
        show List.findIdx? _ ((false, assign (.Name y.1 y.2.2) env) :: assignEach (xs.map fun y => Expr.Name y.1 y.2.2) env) = none
        rw [List.findIdx?_cons, ih.2]; rfl
    have hl2 : ∀ (is : List Nat) (bs : List AV) (ρ ρ' : RE), bindMany is bs ρ = some ρ' → is.length = bs.length := by
      intro is
      induction is with
      | nil => intro bs ρ ρ' e; cases bs with
        | nil => rfl
        | cons _ _ => cases e
      | cons i is ih => intro bs ρ ρ' e; cases bs with
        | nil => cases e
        | cons b bs => exact congrArg (· + 1) (ih bs _ _ e)
    have hsz : vs.size = xs.length := by rw [rs.size, ← hl2 _ _ _ _ hb, List.length_map]
    refine wpAny_assign_Tuple hh ⟨_, ho, rfl, _, rfl⟩ (by rw [hlen.1, hsz]) hlen.2 fun h' hx => ?_
    have h0 := size_none s.heap
    have kx : ∀ b o, s.heap.get? b = some o → h'.get? b = some o := fun b o e => hx b o (ne_of e h0) e
    have st1 : St C env ns ρ { s with heap := h' } M H := st.step (Step.ext (t := s.toks) kx) (st.rep.ext kx)
    exact assign_many xs vs.toList as T st1 (rs.keep (kp_ext kx)) hb fun s' x st' => h s' ((Step.ext (t := s.toks) kx).ofNo.trans x) st'
theorem evp_store {t : Tg} {e : Expr} {v : Value} {a : AV} (T : TgAt env ns t e) (st : St C env ns ρ s M H) (r : VRel (C.wd s.heap M) v a) : EvP C env ns s M (fun P E => wpAny C.S.M C.A (assign e env v) (fun _ s₂ => P .next s₂) E s) (orBadS (bindT C.hot t a ρ) fun ρ₁ => .next ρ₁ H) := by
  cases q : bindT C.hot t a ρ with
  | none => trivial
  | some ρ' => exact assign_ok T st r q fun s' x st' => ⟨rfl, M, x, st'⟩
theorem sndS_assign {t : Tg} {e : DE} {e' te : Expr} {p : Pos} (h : Snd C env ns e e') (T : TgAt env ns t te) (hs : swapsWith e' (some te) p.line env = pure false) (hw : swappedStores [te] e' env = pure none) : SndS C env ns (assignS C.hot t e) (.Assign [te] e' p) := fun {ρ s M H} st => by
  cases T with
  | one T =>
    rename_i x i px
    exact EvS.of (EvP.expr st (h st) (fun v s₁ P E => wpAny C.S.M C.A (storeName env x v) (fun _ s₂ => P .next s₂) E s₁) (fun z a b => wpAny_mono z (fun _ _ => a _ _) b) fun y H₁ v s₁ M₁ e x1 st1 r => store_ok st1 T.1 T.2 r fun s' x2 st' => ⟨rfl, M₁, x2, st'⟩) fun z => wpAny_Assign_Name z hs
  | many T => exact EvS.of (EvP.expr st (h st) (fun v s₁ P E => wpAny C.S.M C.A (assign _ env v) (fun _ s₂ => P .next s₂) E s₁) (fun z a b => wpAny_mono z (fun _ _ => a _ _) b) fun y H₁ v s₁ M₁ e x1 st1 r => evp_store (.many T) st1 r) fun z => Assign_Tuple z hs hw
theorem sndS_ret {e : DE} {e' : Expr} {p : Pos} (h : Snd C env ns e e') : SndS C env ns (retS e) (.Return (some e') p) := fun {ρ s M H} st => by
  show EvS C env ns (standAt p >>= fun _ => eval e' env >>= fun x => pure (.ret x)) s M _
  exact EvS.stand (EvS.bind st (h st) fun a H₁ v s₁ M₁ e x1 st1 ra => wpAny_pure ⟨v, ρ, M₁, rfl, Step.refl .., st1, ra⟩)
theorem sndS_ret0 {p : Pos} : SndS C env ns (retS (cstE .none)) (.Return none p) := fun {ρ s M H} st => by
  show EvS C env ns (standAt p >>= fun _ => pure (.ret .none)) s M (.ret .none H)
  exact EvS.stand (wpAny_pure ⟨.none, ρ, M, rfl, Step.refl .., st, .none⟩)
theorem sndS_pass {p : Pos} : SndS C env ns passS (.Pass p) := fun {ρ s M H} st => by
  show EvS C env ns (standAt p >>= fun _ => pure .next) s M (.next ρ H)
  exact EvS.stand (EvS.nextHere st)
theorem tst_inS {α : Type} (f : DE) (ρ : RE) (H : AH) (g : Bool → AH → OutS) : ((f ρ H).inS ρ fun a H₁ => match a with | .bool c => g c H₁ | _ => .bad) = (tst f ρ H).inS ρ g := by
  unfold tst
  cases f ρ H with
  | bad => rfl
  | exc c H' => rfl
  | ok a H₁ => cases a <;> rfl
theorem sndS_if {t : DE} {t' : Expr} {b o : DS} {b' o' : List Stmt} {p : Pos} (h : SndT C env ns t t') (hb : SndB C env ns b b') (ho : SndB C env ns o o') : SndS C env ns (ifS t b o) (.If t' b' o' p) := fun {ρ s M H} st => by
  show EvS C env ns (standAt p >>= fun _ => isTrue t' env (eval t' env) >>= fun c => if c = true then execs b' env else execs o' env) s M ((t ρ H).inS ρ fun a H₁ => match a with | .bool c => if c then b ρ H₁ else o ρ H₁ | _ => .bad)
  rw [tst_inS (α := Unit) t ρ H fun c H₁ => if c then b ρ H₁ else o ρ H₁]
  refine EvS.stand (EvS.bind st (h st) fun c H₁ v s₁ M₁ e x1 st1 rc => ?_)
  cases rc
  cases c
  · exact ho st1
  · exact hb st1
theorem sndS_expr {e : DE} {e' : Expr} {p : Pos} (h : Snd C env ns e e') (hc : notComp e' = true) : SndS C env ns (exprS e) (.Expr e' p) := fun {ρ s M H} st => by
  refine x2_1 (st.env) fun m cm En => ?_
  have hi : interactive env = false := by unfold interactive; rw [En.fn]; rfl
  exact EvS.of (EvP.expr st (h st) (fun _ s₁ P E => P .next s₁) (fun z a b => a _ _ z) fun y H₁ v s₁ M₁ e x1 st1 r => ⟨rfl, M₁, Step.refl .., st1⟩) fun z => wpAny_Expr_any z hi (swaps_no hc)
theorem sndB_nil : SndB C env ns (seqS []) [] := fun st => EvS.nextHere st
theorem EvS.seq {t : Sem Flow} {k : Flow → Sem Flow} {o : OutS} {f : DS} (h : EvS C env ns t s M o) (hk : ∀ ρ₁ H₁ s₁ M₁, o = .next ρ₁ H₁ → St C env ns ρ₁ s₁ M₁ H₁ → EvS C env ns (k .next) s₁ M₁ (f ρ₁ H₁)) (hr : ∀ v, k (.ret v) = pure (.ret v)) : EvS C env ns (t >>= k) s M (o.then f) := by
  cases o with
  | bad => trivial
  | ret a H' => exact wpAny_bind (wpAny_mono h (fun fl s₁ ⟨v, ρ', M', e, z⟩ => by subst e; rw [hr]; exact wpAny_pure ⟨v, ρ', M', rfl, z⟩) fun _ _ p => p)
  | exc c ρ' H' => exact wpAny_bind (wpAny_mono h (fun _ _ p => p.elim) fun _ _ p => p)
  | next ρ₁ H₁ =>
    show EvS C env ns (t >>= k) s M (f ρ₁ H₁)
    have hk' := fun s₁ M₁ st => hk ρ₁ H₁ s₁ M₁ rfl st
    generalize f ρ₁ H₁ = o' at hk'
    cases o' with
    | bad => trivial
    | next ρ' H' => exact wpAny_bind (wpAny_mono h (fun fl s₁ y_1 => y1_2 y_1 fun e M₁ x1 st1 => by subst e; exact wpAny_mono (hk' s₁ M₁ st1) (fun _ _ p => ⟨p.1, p.2.back x1⟩) fun _ _ p => p) fun _ _ p => p.elim)
    | ret a H' => exact wpAny_bind (wpAny_mono h (fun fl s₁ y_2 => y1_2 y_2 fun e M₁ x1 st1 => by subst e; exact wpAny_mono (hk' s₁ M₁ st1) (fun _ _ p => p.back x1) fun _ _ p => p) fun _ _ p => p.elim)
    | exc c ρ' H' => exact wpAny_bind (wpAny_mono h (fun fl s₁ y_3 => y1_2 y_3 fun e M₁ x1 st1 => by subst e; exact wpAny_mono (hk' s₁ M₁ st1) (fun _ _ p => p) fun _ _ p => p.back x1) fun _ _ p => p.elim)
theorem sndB_of {f : Stmt → DS} (h : ∀ t, SndS C env ns (f t) t) : ∀ ts : List Stmt, SndB C env ns (seqS (ts.map f)) ts
  | [] => sndB_nil
  | t :: ts => by
    intro st
    rename_i ρ s M H
    show EvS C env ns (exec t env >>= fun f => match f with | .next => execs ts env | f => pure f) s M ((f t ρ H).then (seqS (ts.map f)))
    exact EvS.seq (h t st) (fun ρ₁ H₁ s₁ M₁ _ st1 => sndB_of h ts st1) fun v => rfl
theorem sndS_setitem {o i e : DE} {o' i' e' : Expr} {p p' : Pos} (ho : Snd C env ns o o') (hi : Snd C env ns i i') (he : Snd C env ns e e') : SndS C env ns (setItemS o i e) (.Assign [.Subscript o' i' p'] e' p) := fun {ρ s M H} st => by
  refine EvS.of (EvP.expr st (he st) (fun v s₁ P E => wpAny C.S.M C.A (eval o' env) (fun ov s₂ => wpAny C.S.M C.A (eval i' env) (fun iv s₃ => wpAny C.S.M C.A (setItem ov iv v) (fun _ => P .next) E s₃) E s₂) E s₁) (fun z a b => wpAny_mono z (fun _ _ z => wpAny_mono z (fun _ _ z => wpAny_mono z (fun _ => a _) b) b) b) fun y H₁ v s₁ M₁ e1 x1 st1 rv => ?_) fun z => wpAny_Assign_Subscript z (by cases e' <;> rfl)
  refine EvP.expr st1 (ho st1) (fun ov s₂ P E => wpAny C.S.M C.A (eval i' env) (fun iv s₃ => wpAny C.S.M C.A (setItem ov iv v) (fun _ => P .next) E s₃) E s₂) (fun z a b => wpAny_mono z (fun _ _ z => wpAny_mono z (fun _ => a _) b) b) fun a H₂ ov s₂ M₂ e2 x2 st2 ra => ?_
  refine EvP.expr st2 (hi st2) (fun iv s₃ P E => wpAny C.S.M C.A (setItem ov iv v) (fun _ => P .next) E s₃) (fun z a b => wpAny_mono z (fun _ => a _) b) fun k H₃ iv s₃ M₃ e3 x3 st3 rk => EvP.orBad fun H₄ e4 => ?_
  exact wpAny_mono (prim_setItem st3.live st3.rep (ra.keep (x3.kp st2.live noW_seq)) rk ((rv.keep (x2.kp st1.live noW_seq)).keep (x3.kp st2.live noW_seq)) e4) (fun _ s₄ z_16 => x1_3 z_16 fun M₄ x4 rp4 _ => ⟨rfl, M₄, x4.ofNo, st3.step x4 rp4⟩) fun _ _ q => q.elim
theorem sndS_setattr {G : Gm} (Y : Fit C.S G) {k : Nat} {o e : DE} {o' e' : Expr} {x : Str} {p p' : Pos} (hx : C.S.an[k]? = some x) (ho : Snd C env ns o o') (he : Snd C env ns e e') : SndS C env ns (setAttrS k o e) (.Assign [.Attribute o' x p'] e' p) := fun {ρ s M H} st => by
  refine EvS.of (EvP.expr st (he st) (fun v s₁ P E => wpAny C.S.M C.A (eval o' env) (fun ov s₂ => wpAny C.S.M C.A (setAttr ov x v) (fun _ => P .next) E s₂) E s₁) (fun z a b => wpAny_mono z (fun _ _ z => wpAny_mono z (fun _ => a _) b) b) fun y H₁ v s₁ M₁ e1 x1 st1 rv => ?_) fun z => plainObj_wpAny_Assign_Attribute z (by cases e' <;> rfl)
  refine EvP.expr st1 (ho st1) (fun ov s₂ P E => wpAny C.S.M C.A (setAttr ov x v) (fun _ => P .next) E s₂) (fun z a b => wpAny_mono z (fun _ => a _) b) fun a H₂ ov s₂ M₂ e2 x2 st2 ra => EvP.orBad fun i e3 => ?_
  obtain ⟨n, c, fs⟩ := i
  show EvP C env ns s₂ M₂ _ (if k < fs.length then .next ρ (H₂.set n (.inst c (fs.set k (some y)))) else .bad)
  split
  · rename_i hk
    exact wpAny_mono (prim_setAttr Y st2.live st2.rep ra (rv.keep (x2.kp st1.live noW_seq)) e3 hx hk) (fun _ s₄ z_17 => x1_3 z_17 fun M₄ x4 rp4 _ => ⟨rfl, M₄, x4.ofNo, st2.step x4 rp4⟩) fun _ _ q => q.elim
  · trivial
end
section
variable {C : Cx} {env : Env} {ns : List (Option Str)} {ρ : RE} {s s' : Shared} {M M' : Mp} {H H' : AH}
noncomputable def okP (C : Cx) (env : Env) (ns : List (Option Str)) (s : Shared) (M : Mp) : OutS → Flow → Shared → Prop
  | .next ρ' H' => fun fl s' => fl = .next ∧ PostN C env ns s M ρ' H' s'
  | .ret a H' => PostR C env ns s M a H'
  | _ => no1
noncomputable def erP (C : Cx) (env : Env) (ns : List (Option Str)) (s : Shared) (M : Mp) : OutS → Value → Shared → Prop
  | .exc c ρ' H' => PostSX C env ns s M c ρ' H'
  | _ => no1
theorem evp_iff {K : (Flow → Shared → Prop) → (Value → Shared → Prop) → Prop} {o : OutS} : (o ≠ .bad → K (okP C env ns s M o) (erP C env ns s M o)) → EvP C env ns s M K o := fun h => by
  cases o with
  | bad => trivial
  | _ => exact h (fun q => nomatch q)
noncomputable def HeadAt (C : Cx) (env : Env) : Prop := (∃ outer, C.fe = env :: outer) ∧ ∃ L, env.frame = some L
theorem Exn.noted {W : Addr → Prop} {A : Around} {e : Addr} {c : Nat} {B : Heap} {P : Unit → Shared → Prop} {E : Value → Shared → Prop} (hd : HeadAt C env) (hA : A.frames = some C.fe) (x : Exn C W s M e c s' M' H' B)
    (h : ∀ h' D L, C.S.X c = some D → B.get? e = none → h'.FunFrames B C.fe → B.StaysIn h' → C.fe.head?.bind (·.frame) = some L → env.frame = some L → Stn B C.fe s'.heap h' → Fly B h' e D (rawInt L) → Exn C W s M e c { s' with heap := h' } M' H' B → P () { s' with heap := h' }) : wpAny C.S.M A (noteFrame (.ref e) env) P E s' := by
  obtain ⟨⟨outer, ho⟩, L, hL⟩ := hd
  refine x1_2 (id x.flt) fun D hX hf => ?_
  have hh : C.fe.head?.bind (·.frame) = some L := by rw [ho]; exact hL
  have st : Raw s'.heap e D ∨ ∃ fl, Fly B s'.heap e D fl ∧ (fl = .none ∨ fl = rawInt L) := hf.st.imp id fun z_18 => x1_2 z_18 fun fl f q => ⟨fl, f, q.imp id fun z_19 => x1_2 z_19 fun L' h1 h2 => by rw [hh] at h1; cases h1; exact h2⟩
  refine note_ok (outer := outer) (hA.trans (by rw [ho])) (ho ▸ hf.funs) hL hf.stays hf.new st fun h' z f => ?_
  rw [← ho] at z
  exact h h' D L hX hf.new z.funs z.stays hh hL z f (x.stn hX hf.new hf.funs z f (.inr ⟨L, hh, rfl⟩))
theorem PostSX.noted {c : Nat} {ρ' : RE} (hd : HeadAt C env) (hA : C.A.frames = some C.fe) {ev : Value} (p : PostSX C env ns s M c ρ' H' ev s') : notedBy C.S.M C.A env (cameBackBy C.S.M C.A env (PostSX C env ns s M c ρ' H')) ev s' := by
  refine x3_3 (p) fun e M' B e3' x b => ?_; try clear p; subst e3'
  refine x.noted hd hA fun h' D L hX hn hf hs hh hL z f x' => ?_
  refine cameBack_ok hf hs hL f fun h'' z' f' => ?_
  exact ⟨e, M', B, rfl, x'.stn hX hn hf z' f' (.inr ⟨L, hh, rfl⟩), (b.stn z).stn z'⟩
theorem Exn.letGo {W : Addr → Prop} {e : Addr} {c : Nat} {B : Heap} {l : Option Nat} {M₀ : Mp} {h₀ : Heap} {H₀ : AH} (x : Exn (C.held M₀ l) W s M e c s' M' H' B) (pre : ∃ e, M' = M₀ ++ e) (R₀ : Rep C.S C.pv h₀ M₀ H₀) (hl : ∀ n, l = some n → ∃ es, H₀[n]? = some (.dict es)) : Exn C W s M e c s' M' (freeH l H') B :=
  ⟨fun b o e n => x.keepB b o e fun q => List.mem_append.mpr (.inr (n q)), x.base, x.rep.letGo pre R₀ hl, x.flt, x.slots, x.alive, x.pre, x.grow, x.gens, x.os, x.fresh⟩
theorem EnvB.held {l : Option Nat} {M₀ : Mp} {h B : Heap} (E : EnvB (C.held M₀ l) env ns ρ h B M) : EnvB C env ns ρ h B M := by
  refine x2_1 (E) fun m cm E => ?_
  exact ⟨m, cm, E.fn, E.glob, E.bns, E.loc, E.off, E.inj, E.len, E.has, E.cell, E.apart, E.var⟩
theorem St.letGo {l : Option Nat} {M₀ : Mp} {h₀ : Heap} {H₀ : AH} (st : St (C.held M₀ l) env ns ρ s M H) (pre : ∃ e, M = M₀ ++ e) (R₀ : Rep C.S C.pv h₀ M₀ H₀) (hl : ∀ n, l = some n → ∃ es, H₀[n]? = some (.dict es)) : St C env ns ρ s M (freeH l H) := by
  obtain ⟨L, R, E⟩ := st
  exact ⟨⟨L.frames, L.funs, L.stays, L.off, L.new, L.handled, L.dicts, L.depth, L.units, fun a q => L.priv a (q.imp id fun q => List.mem_append.mpr (.inr q)), L.poff⟩, R.letGo pre R₀ hl, E.held⟩
theorem Step.held {W : Addr → Prop} {l : Option Nat} {M₀ : Mp} (x : Step (C.held M₀ l) W s M s' M') : Step C W s M s' M' := x.pv fun a q => List.mem_append.mpr (.inr q)
theorem loopS_inv {B : AV → DS} {src : Src} {n k : Nat} {o : OutS} (h : loopS B src n k ρ H = o) (ho : o ≠ .bad) : (itemAt H src k = some none ∧ o = .next ρ H) ∨ ∃ v m, itemAt H src k = some (some v) ∧ n = m + 1 ∧ (B v ρ H).then (loopS B src m (k + 1)) = o := by
  unfold loopS at h
  split at h
  · exact absurd h.symm ho
  · rename_i q; exact .inl ⟨q, h.symm⟩
  · rename_i v q
    cases n with
    | zero => exact absurd h.symm ho
    | succ m => exact .inr ⟨v, m, q, rfl, h⟩
inductive ForInv (C : Cx) (env : Env) (ns : List (Option Str)) (l : Option Nat) (s₁ : Shared) (M₁ : Mp) (I : Addr) (src : Src) (t : Tg) (b : DS) (o : OutS) (m : Nat) (s' : Shared) : Prop
  | mk (ρ' : RE) (M' : Mp) (H' : AH) (k : Nat) (h1 : Step (C.held M₁ l) (OwnW env) s₁ M₁ s' M') (h2 : St (C.held M₁ l) env ns ρ' s' M' H') (h3 : Aside (C.held M₁ l) env s'.heap M' I) (h4 : Itr (C.held M₁ l) env s'.heap M' I src k) (h5 : loopS (fun v ρ H => orBadS (bindT C.hot t v ρ) fun ρ₁ => b ρ₁ H) src m k ρ' H' = o) : ForInv C env ns l s₁ M₁ I src t b o m s'
theorem sndS_for (hd : HeadAt C env) {t : Tg} {te : Expr} {it : DE} {it' : Expr} {b : DS} {b' : List Stmt} {p : Pos} (h : Snd C env ns it it') (T : TgAt env ns t te) (hb : ∀ pv, SndB (C.withPv pv) env ns b b') (hf : notSet it' = true) : SndS C env ns (forS C.hot t it b) (.For te it' b' [] p) := fun {ρ s M H} st => by
  refine EvS.of (EvP.expr st (h st) (fun v s₁ P E => wpAny C.S.M C.A (pyIter v) (fun it s₂ => codeAny C.S.M C.A (.forLoop te it b' [] env) (fun r s' => match r with | .ok f => P f s' | .error e => cameBackBy C.S.M C.A env E e s') s₂) E s₁) (fun z a b => wpAny_mono z (fun _ _ z => codeAny_mono z fun r s' q => by
    cases r with
    | ok f => exact a _ _ q
    | error e => exact wpAny_mono q (fun _ _ q => b _ _ q) b) b) fun a H₁ v s₁ M₁ _ x1 st1 ra => EvP.orBad fun sr hs => ?_) fun z => wpAny_For z (fold_no hf)
  obtain ⟨src, n, l⟩ := sr
  show EvP C env ns s₁ M₁ _ (if C.hot = true then .bad else (loopS (fun v ρ H => orBadS (bindT C.hot t v ρ) fun ρ₁ => b ρ₁ H) src n 0 ρ (lockH l H₁)).free l)
  split
  · trivial
  rename_i hot
  have hh := st1.live.handled (by simpa using hot)
  refine evp_iff fun hne => ?_
  generalize ho : loopS (fun v ρ H => orBadS (bindT C.hot t v ρ) fun ρ₁ => b ρ₁ H) src n 0 ρ (lockH l H₁) = o at hne
  have hne' : o ≠ .bad := fun q => hne (by rw [q]; rfl)
  have hl := src_lock hs
  refine itr_start st1 hh hs ra fun h0 hk0 stL ha hit => ?_
  have hI := size_none s₁.heap
  generalize s₁.heap.objs.size = I at ha hit hI
  have hIp : ¬ (I ∈ (C.held M₁ l).pv.1 ∨ I ∈ (C.held M₁ l).pv.2) := fun q => by
    rcases q with q | q
    · obtain ⟨o, ho⟩ := st1.live.priv I (.inl q); rw [hI] at ho; cases ho
    · rcases List.mem_append.mp q with q | q
      · cases l with
        | none => cases q
        | some k =>
          simp only [lockOf] at q
          split at q
          · rename_i p hp
            have q := List.mem_singleton.mp q
            obtain ⟨o, ho⟩ := st1.rep.there (foot_at hp).1
            rw [← q, hI] at ho; cases ho
          · cases q
      · obtain ⟨o, ho⟩ := st1.live.priv I (.inr q); rw [hI] at ho; cases ho
  refine codeAny_forLoop_any (ForInv C env ns l s₁ M₁ I src t b o) (fun m s' I' => ?_) n
    ⟨ρ, M₁, lockH l H₁, 0, Step.ext (t := s₁.toks) hk0, stL, ha, hit, ho⟩
  obtain ⟨ρ', M', H', k, y, st', ha', hi', w'⟩ := I'
  refine (loopS_inv w' hne').elim (fun z => ?_) fun z => ?_
  · obtain ⟨hr, ez⟩ := z
    subst ez
    refine itr_next (C := C.held M₁ l) st' hh ha' hi' hr (fun u a h' tk e => nomatch e) fun h' tk _ kp => ?_
    have st2 := st'.but (tk := tk) ha' kp fun q => absurd q hIp
    exact wpAny_pure ⟨rfl, M', (y.but (tk := tk) hI kp).held, st2.letGo y.pre st1.rep hl⟩
  refine x2_3 z fun bv m hr ez w1 => ?_
  clear z; subst ez
  refine itr_next (C := C.held M₁ l) st' hh ha' hi' hr (fun u a h' tk e kp rv i2 => ?_) fun h' tk e => nomatch e
  cases e
  have st2 := st'.but (tk := tk) ha' kp fun q => absurd q hIp
  have y2 := y.but (tk := tk) hI kp
  refine x1_2 (i2.is.not) fun oI eI nI => ?_
  have a2 : Aside (C.held M₁ l) env h' M' I := ⟨⟨oI, eI, .inr nI⟩, ha'.foot, ha'.fs, ha'.own, ha'.base⟩
  have iI := i2.is
  generalize hs2 : ({ s' with heap := h', toks := tk } : Shared) = t2 at st2 y2
  have e2 : t2.heap = h' := by rw [← hs2]
  rw [← e2] at a2 i2 rv iI
  refine letGo_ok iI ?_
  cases hbt : bindT C.hot t bv ρ' with
  | none => simp only [hbt, orBadS, OutS.then] at w1; exact absurd w1.symm hne'
  | some ρ₁ =>
  simp only [hbt, orBadS] at w1
  refine assign_ok (C := C.held M₁ l) T st2 rv hbt fun s3 y3 st3 => ?_
  have hw2 : VarsOnly t2.heap (OwnW env) := by obtain ⟨_, _, E⟩ := st2.env; exact E.vars
  have i3 := i2.after y3 a2 st2.live hw2
  have a3 := a2.step y3
  have B := hb (C.held M₁ l).pv st3
  have bne : b ρ₁ H' ≠ .bad := fun q => by rw [q] at w1; exact hne' w1.symm
  have hw3 : VarsOnly s3.heap (OwnW env) := by obtain ⟨_, _, E⟩ := st3.env; exact E.vars
  generalize b ρ₁ H' = ob at B w1 bne
  cases ob with
  | bad => exact absurd rfl bne
  | next ρ₂ H₂ =>
    refine wpAny_mono B (fun fl s4 y_4 => y1_2 y_4 fun e M₄ y4 st4 => ?_) fun _ _ q => q.elim
    subst e
    exact ⟨m, Nat.lt_succ_self m, ρ₂, M₄, H₂, k + 1, (y2.trans y3).trans y4, st4, a3.step y4, i3.after y4 a3 st3.live hw3, w1⟩
  | ret a H₂ =>
    have w1 : OutS.ret a H₂ = o := w1
    subst w1
    refine wpAny_mono B (fun fl s4 z_20 => x3_4 z_20 fun v ρ₂ M₄ e y4 st4 rv4 => ?_) fun _ _ q => q.elim
    subst e
    have yy := (y2.trans y3).trans y4
    exact ⟨v, ρ₂, M₄, rfl, yy.held, st4.letGo yy.pre st1.rep hl, rv4⟩
  | exc c ρ₂ H₂ =>
    have w1 : OutS.exc c ρ₂ H₂ = o := w1
    subst w1
    refine wpAny_mono B (fun _ _ q => q.elim) fun ev s4 z_21 => x3_3 z_21 fun e M₄ B' ee x4 E4 => ?_
    have yy := y2.trans y3
    have pre : ∃ e, M₄ = M₁ ++ e := by
      obtain ⟨l1, e1⟩ := yy.pre
      obtain ⟨l2, e2⟩ := x4.pre
      exact ⟨l1 ++ l2, by rw [e2, e1, List.append_assoc]⟩
    have p : PostSX C env ns s₁ M₁ c ρ₂ (freeH l H₂) ev s4 := ⟨e, M₄, B', ee, (x4.letGo pre st1.rep hl).after yy.held fun _ q => q, E4.held⟩
    exact p.noted hd st1.live.frames
theorem whileS_inv {t : DE} {b : DS} {n : Nat} {o : OutS} (h : whileS t b n ρ H = o) (ho : o ≠ .bad) : ∃ m c H₁, n = m + 1 ∧ t ρ H = .ok (.bool c) H₁ ∧ ((c = false ∧ o = .next ρ H₁) ∨ (c = true ∧ ((b ρ H₁).then (whileS t b m)).calm = o)) := by
  cases n with
  | zero => exact absurd h.symm ho
  | succ m =>
    unfold whileS at h
    cases ht : t ρ H with
    | bad => rw [ht] at h; exact absurd h.symm ho
    | exc c H' => rw [ht] at h; exact absurd h.symm ho
    | ok a H₁ =>
      rw [ht] at h
      cases a <;> first | exact absurd h.symm ho | skip
      rename_i c
      refine ⟨m, c, H₁, rfl, rfl, ?_⟩
      cases c with
      | false => exact .inl ⟨rfl, h.symm⟩
      | true => exact .inr ⟨rfl, h⟩
theorem calm_inv {o o' : OutS} (h : o.calm = o') (ho : o' ≠ .bad) : o = o' := by
  cases o with
  | exc c ρ H => exact absurd h.symm ho
  | _ => exact h
inductive WhileInv (C : Cx) (env : Env) (ns : List (Option Str)) (s : Shared) (M : Mp) (t : DE) (b : DS) (o : OutS) (m : Nat) (s' : Shared) : Prop
  | mk (ρ' : RE) (M' : Mp) (H' : AH) (h1 : Step C (OwnW env) s M s' M') (h2 : St C env ns ρ' s' M' H') (h3 : whileS t b m ρ' H' = o) : WhileInv C env ns s M t b o m s'
theorem sndS_while {n : Nat} {t : DE} {t' : Expr} {b : DS} {b' : List Stmt} {p : Pos} (h : SndT C env ns t t') (hb : SndB C env ns b b') : SndS C env ns (whileS t b n) (.While t' b' [] p) := fun {ρ s M H} st => by
  refine EvS.of (K := fun P E => codeAny C.S.M C.A (.whileLoop t' b' [] env) (fun r s' => match r with | .ok f => P f s' | .error e => cameBackBy C.S.M C.A env E e s') s) (evp_iff fun hne => ?_) fun z => wpAny_While z
  generalize ho : whileS t b n ρ H = o at hne
  refine codeAny_whileLoop (WhileInv C env ns s M t b o) (fun m s' I' => ?_) n ⟨ρ, M, H, Step.refl .., st, ho⟩
  obtain ⟨ρ', M', H', y, st', w⟩ := I'
  refine x3_3 (whileS_inv w hne) fun m c H₁ e3' ht w1 => ?_; subst e3'
  have A := h st'
  rw [show tst t ρ' H' = .ok c H₁ by unfold tst; rw [ht]; rfl] at A
  refine wpAny_mono A (fun x s₁ z_22 => x1_3 z_22 fun M₁ x1 rp1 e => ?_) fun _ _ q => q.elim
  obtain rfl : x = c := e
  have st1 := st'.step x1 rp1
  rcases w1 with ⟨rfl, rfl⟩ | ⟨rfl, w1⟩
  · exact wpAny_pure ⟨rfl, M₁, y.trans x1.ofNo, st1⟩
  · have B := hb st1
    show wpAny C.S.M C.A (execs b' env) _ _ s₁
    generalize b ρ' H₁ = ob at B w1
    cases ob with
    | bad => exact absurd w1.symm hne
    | next ρ₂ H₂ =>
      have w1 := calm_inv w1 hne
      refine wpAny_mono B (fun fl s4 y_5 => y1_2 y_5 fun e M₄ y4 st4 => ?_) fun _ _ q => q.elim
      subst e
      exact ⟨m, Nat.lt_succ_self m, ρ₂, M₄, H₂, (y.trans x1.ofNo).trans y4, st4, w1⟩
    | ret a H₂ =>
      have w1 : OutS.ret a H₂ = o := w1
      subst w1
      refine wpAny_mono B (fun fl s4 z_23 => x3_4 z_23 fun v ρ₂ M₄ e y4 st4 rv4 => ?_) fun _ _ q => q.elim
      subst e
      exact ⟨v, ρ₂, M₄, rfl, (y.trans x1.ofNo).trans y4, st4, rv4⟩
    | exc c ρ₂ H₂ => exact absurd w1.symm hne
theorem sndS_aug {o i e : DE} {o' i' e' : Expr} {p p' : Pos} (ho : Snd C env ns o o') (hi : Snd C env ns i i') (he : Snd C env ns e e') (hn : notSlice i' = true) : SndS C env ns (augS o i e) (.AugAssign (.Subscript o' i' p') .Add e' p) := fun {ρ s M H} st => by
  refine EvS.of (EvP.expr st (ho st) (fun ov s₁ P E => wpAny C.S.M C.A (eval i' env) (fun iv s₂ => wpAny C.S.M C.A (getItem ov iv) (fun old s₃ => wpAny C.S.M C.A (eval e' env) (fun v s₄ => wpAny C.S.M C.A (inplaceOp .Add old v) (fun new s₅ => wpAny C.S.M C.A (setItem ov iv new) (fun _ => P .next) E s₅) E s₄) E s₃) E s₂) E s₁)
    (fun z a b => wpAny_mono z (fun _ _ z => wpAny_mono z (fun _ _ z => wpAny_mono z (fun _ _ z => wpAny_mono z (fun _ _ z => wpAny_mono z (fun _ => a _) b) b) b) b) b) fun a H₁ ov s₁ M₁ _ x1 st1 ra => ?_) fun z => wpAny_AugAssign_SubscriptAny z (by cases i' <;> first | (intros; rfl) | cases hn)
  refine EvP.expr st1 (hi st1) (fun iv s₂ P E => wpAny C.S.M C.A (getItem ov iv) (fun old s₃ => wpAny C.S.M C.A (eval e' env) (fun v s₄ => wpAny C.S.M C.A (inplaceOp .Add old v) (fun new s₅ => wpAny C.S.M C.A (setItem ov iv new) (fun _ => P .next) E s₅) E s₄) E s₃) E s₂)
    (fun z a b => wpAny_mono z (fun _ _ z => wpAny_mono z (fun _ _ z => wpAny_mono z (fun _ _ z => wpAny_mono z (fun _ => a _) b) b) b) b) fun k H₂ iv s₂ M₂ _ x2 st2 rk => ?_
  have ra2 := ra.keep (x2.kp st1.live noW_seq)
  refine EvP.expr st2 (prim_sub st2.live st2.rep ra2 rk) (fun old s₃ P E => wpAny C.S.M C.A (eval e' env) (fun v s₄ => wpAny C.S.M C.A (inplaceOp .Add old v) (fun new s₅ => wpAny C.S.M C.A (setItem ov iv new) (fun _ => P .next) E s₅) E s₄) E s₃)
    (fun z a b => wpAny_mono z (fun _ _ z => wpAny_mono z (fun _ _ z => wpAny_mono z (fun _ => a _) b) b) b) fun u H₃ old s₃ M₃ _ x3 st3 ru => ?_
  refine EvP.expr st3 (he st3) (fun v s₄ P E => wpAny C.S.M C.A (inplaceOp .Add old v) (fun new s₅ => wpAny C.S.M C.A (setItem ov iv new) (fun _ => P .next) E s₅) E s₄) (fun z a b => wpAny_mono z (fun _ _ z => wpAny_mono z (fun _ => a _) b) b) fun v H₄ vv s₄ M₄ _ x4 st4 rv => ?_
  have k23 := x3.kp st2.live noW_seq
  have k34 := x4.kp st3.live noW_seq
  refine EvP.expr st4 (R := VRel) (t := inplaceOp .Add old vv) (Ev.asInt fun x e1 => Ev.asInt fun y e2 => ?_) (fun new s₅ P E => wpAny C.S.M C.A (setItem ov iv new) (fun _ => P .next) E s₅) (fun z a b => wpAny_mono z (fun _ => a _) b) fun w H₅ new s₅ M₅ _ x5 st5 rw' => EvP.orBad fun H₆ e6 => ?_
  · subst e1 e2
    obtain ⟨t1, rfl⟩ := (ru.keep k34).inv
    obtain ⟨t2, rfl⟩ := rv.inv
    exact iadd_int (post_tok st4.rep (.int _ _) _)
  · have k45 := x5.kp st4.live noW_seq
    exact wpAny_mono (prim_setItem st5.live st5.rep (((ra2.keep k23).keep k34).keep k45) (((rk.keep k23).keep k34).keep k45) rw' e6) (fun _ s₆ z_24 => x1_3 z_24 fun M₆ x6 rp6 _ => ⟨rfl, M₆, x6.ofNo, st5.step x6 rp6⟩) fun _ _ q => q.elim
end
open PySem PySem.W PyProof.Rows PySem.Spec
section
variable {C : Cx} {env : Env} {ns : List (Option Str)} {ρ : RE} {s s' : Shared} {M M' : Mp} {H H' : AH}
theorem sndS_assignC {mt : Bool} {elt it cond : DE} {elt' it' : Expr} {ifs : List Expr} {x y : Str} {i : Nat} {px py pos spos : Pos} {sc : Scope} (hit : Snd C env ns it it') (hf : notSet it' = true) (Y : CompAt env x sc)
    (helt : ∀ pv (env' : Env), env'.scope.names = relN env.scope.names sc.names → Snd (C.withPv pv) env' (nsC ns sc.names x) elt elt') (hcond : ∀ pv (env' : Env), env'.scope.names = relN env.scope.names sc.names → TestsOK (C.withPv pv) env' (nsC ns sc.names x) cond ifs)
    (T : TgOK env ns y i) (hsw : swapsWith (.ListComp elt' [⟨.Name x px, it', ifs, 0⟩] sc pos) (some (.Name y py)) spos.line env = pure true) :
    SndS C env ns (assignS C.hot (.one i) (compE C.hot mt elt it cond)) (.Assign [.Name y py] (.ListComp elt' [⟨.Name x px, it', ifs, 0⟩] sc pos) spos) := fun {ρ s M H} st => by
  refine EvS.of (K := fun P E => wpAny C.S.M C.A (comprehension (.ListComp elt' [⟨.Name x px, it', ifs, 0⟩] sc pos) sc env it'.pos (newList []) false (eval it' env) (some (assign (.Name y py) env))) (fun _ s' => P .next s') E s) ?_ fun {P E} z => by
    show wpAny C.S.M C.A (exec (.Assign [.Name y py] (.ListComp elt' [⟨.Name x px, it', ifs, 0⟩] sc pos) spos) env) _ _ s
    rw [exec_Assign_Name_used _ _ _ _ hsw]
    refine wpAny_bind (wpAny_standAt (wpAny_bind ?_))
    exact wpAny_bind (wpAny_mono z (fun _ _ q => wpAny_pure (wpAny_pure q)) fun _ _ q => q)
  show EvP C env ns s M _ ((compE C.hot mt elt it cond ρ H).inS ρ fun a H₁ => .next (ρ.set i (some a)) H₁)
  cases ho : compE C.hot mt elt it cond ρ H with
  | bad => trivial
  | exc c H' =>
    exact comp_core (mt := mt) (use := some (assign (.Name y py) env)) (p0 := it'.pos) (QQ := no1) (E := PostSX C env ns s M c ρ H') st hit hf Y helt hcond (by rw [ho]; exact fun q => nomatch q) (fun c' H'' e ev s' p => by rw [ho] at e; cases e; exact PostX.toS st p) fun r y H' c s' M' m e => by rw [ho] at e; cases e
  | ok yv H' =>
    refine comp_core (mt := mt) (use := some (assign (.Name y py) env)) (p0 := it'.pos) (QQ := fun _ s' => Flow.next = .next ∧ PostN C env ns s M (ρ.set i (some yv)) H' s') (E := no1) st hit hf Y helt hcond (by rw [ho]; exact fun q => nomatch q) (fun c' H'' e => by rw [ho] at e; cases e) fun r y' H'' c s' M' m e x1 rp rv hc hn nf => ?_
    rw [ho] at e
    cases e
    show wpAny _ _ (assign (.Name y py) env r) _ _ s'
    have st' := st.step x1 rp
    refine wpAny_assign_Name (store_ok st' T.1 T.2 rv fun s2 x2 st2 => ?_)
    have hcW : ¬ OwnW env c := by
      refine x2_1 (st.env) fun m0 cm0 E0 => ?_
      rintro (q | ⟨n, q⟩)
      · obtain ⟨o, _, _, ho, _⟩ := E0.loc; rw [← q, hc] at ho; cases ho
      · obtain ⟨⟨o, ho, _⟩, _⟩ := E0.cell n c q; rw [hc] at ho; cases ho
    have hcf : c ∉ C.fs := st.live.fs0 hc
    have hcb : C.S.base.get? c = none := st.live.base0 hc
    have hn2 : s2.heap.Ns c m := by obtain ⟨o, es, ep, ho, hd, r⟩ := hn; exact ⟨o, es, ep, x2.keep c o ho (fun q => absurd q nf) hcW hcf, hd, r⟩
    refine ⟨m, hn2, fun h' sb => ?_⟩
    have k : ∀ b o, b ≠ c → s2.heap.get? b = some o → h'.get? b = some o := fun b o ne e => (sb.2 b ne).trans e
    have a2 : Aside C env s2.heap M' c := ⟨by obtain ⟨o, es, ep, ho, hd, _⟩ := id hn2; exact ⟨o, ho, .inr (dictOff hn2 o ho)⟩, nf, hcf, hcW, hcb⟩
    have hpv : c ∈ C.pv.1 ∨ c ∈ C.pv.2 → ∃ o, h'.get? c = some o := fun q => by obtain ⟨o, ho⟩ := st.live.priv c q; rw [hc] at ho; cases ho
    exact ⟨rfl, M', ((Step.ofNo x1).trans x2).but (tk := s2.toks) hc k, st2.but (tk := s2.toks) a2 k hpv⟩
theorem swaps_comp {e : Expr} {g : List Comprehension} {sc : Scope} {pos p : Pos} {t : Str} {l : Nat} {env : Env} : swapsWith (.ListComp e g sc pos) (some (.Name t p)) l env = pure (env.blockKind == .function && env.kindOf t == some .local && p.line == pos.line
      && !(sc.names.any fun (n, k) => n == t && (k == .local || k == .cell))) := rfl
end
section
variable {M : Model} {A : Around} {E : Value → Shared → Prop} {env : Env}
variable {nm q : Str} {C N : Addr} {bs bm : List Value} {hdct : Bool} {sn : List Str} {sub : List Value} {ab : Bool} {col : Option Bool} {dd : Option Addr} {k0 k1 k2 k3 k5 : Option Value} {newId : String}
theorem raise_stmt {s : Shared} {x : Sem Value} {Q : Flow → Shared → Prop} (hbase : bm.contains (.type "BaseException") = true)
    (h : wpAny M A x (fun v s₁ => ∃ e t, v = .ref e ∧ s₁.heap.get? C = some (excClassObj nm q C N bs bm hdct sn sub ab col dd k0 k1 k2 k3 k5 newId) ∧
      s₁.heap.get? e = some { cls := .ref C, data := .fields #[.ref t, .none, .none, .none, .bool false, .none] } ∧ wpAny M A (raiseNew (.ref e) : Sem Flow) Q E s₁) E s) :
    wpAny M A (raiseStmt env (some x) none) Q E s := by
  have hcB : (Value.ref C :: bm).contains (.type "BaseException") = true := by rw [List.contains_cons, hbase, Bool.or_true]
  unfold raiseStmt
  refine wpAny_bind (wpAny_mono h (fun v s₁ h₁ => ?_) fun _ _ x => x)
  refine x2_4 (h₁) fun e t e2' hC he hE => ?_; try clear h₁; subst e2'
  obtain ⟨hp, g, d, tk, os⟩ := s₁
  repeat (first | with_reducible exact hE | with_reducible refine wpAny_loadPart_at he ?_ | with_reducible refine wpAny_loadPart_at hC ?_ | (with_reducible refine wpAny_isSubtype_exc hC ?_; rw [hcB]) | wp_step)
end
section
variable {prog : Program} {w : World} {A : Around} {E : Value → Shared → Prop} {s : Shared} {env : Env}
variable {nm q : Str} {C N : Addr} {bs bm bmB : List Value} {hdct : Bool} {sn : List Str} {sub : List Value} {ab : Bool} {col : Option Bool} {dd : Option Addr} {k0 k1 k2 k3 k5 : Option Value} {B Bn newId nid initId inN : String} {bmN : List Value}
theorem raise_call (Fn : ExcBaseFacts Bn newId inN bmN) (hBn : bmB.contains (.type Bn) = true) (F : ExcBaseFacts B nid initId bmB) {mN : Str → Option Value} {x : Str} {np cpos pos : Pos} {args : List Expr} {Q : Flow → Shared → Prop}
    (hbase : bm.contains (.type "BaseException") = true) (hplain : (backTo cpos (starEach args env)).any (·.1) = false) (hni : mN "__init__" = none)
    (h : wpAny (model prog w) A (eval (.Name x np) env) (fun f s₁ => f = .ref C ∧ wpAny (model prog w) A (evalArgs (.ref C) true (backTo cpos (starEach args env)) [])
      (fun a s₂ => a.kw = [] ∧ a.pos.length ≤ sizeLine ∧ s₂.heap.get? C = some (excClassObj nm q C N bs bm hdct sn sub ab col dd k0 k1 k2 k3 k5 newId) ∧ s₂.heap.Ns N mN ∧ OwnTail s₂.heap bmB bm ∧
        ∀ h' e, Heap.MadeExcOf s₂.heap h' e (.ref C) a.pos → wpAny (model prog w) A (raiseNew (.ref e) : Sem Flow) Q E { s₂ with heap := h' }) E s₁) E s) :
    wpAny (model prog w) A (exec (.Raise (some (.Call (.Name x np) args [] cpos)) none pos) env) Q E s := by
  rw [arm_exec_Raise]
  refine wpAny_bind (wpAny_standAt (raise_stmt (C := C) (nm := nm) (q := q) (N := N) (bs := bs) (bm := bm) (hdct := hdct) (sn := sn) (sub := sub) (ab := ab) (col := col) (dd := dd) (k0 := k0) (k1 := k1) (k2 := k2) (k3 := k3) (k5 := k5) (newId := newId) hbase ?_))
  refine wpAny_bind (wpAny_mono (wpAny_Call_ofName (wpAny_mono h (fun f s₁ h₁ => ?_) fun _ _ x => x)) (fun v s₃ h₃ => wpAny_bind (wpAny_standAt (wpAny_pure h₃))) fun _ _ x => x)
  obtain ⟨rfl, h₁⟩ := h₁
  unfold callWith
  refine wpAny_bind (wpAny_holding (wpAny_mono h₁ (fun a s₂ h₂ => wpAny_bind (wpAny_standAt ?_)) fun _ _ x => x))
  obtain ⟨apos, akw⟩ := a
  refine x0_6 (h₂) fun hkw hlen hC hn T h₂ => ?_
  obtain rfl : akw = [] := hkw
  obtain ⟨hp, g, d, tk, os⟩ := s₂
  simp only [hplain]
  refine wpAny_bind (wpAny_keeperOf_exc hC ?_)
  refine wpAny_bind (wpAny_call_exc_subU (hrest := hlen) Fn hBn F T hC hn hni fun h' e hm => wpAny_bind (wpAny_holding (wpAny_point (wpAny_pure ?_))))
  refine x1_3 (hm.there) fun t ht _ _ => ?_
  exact ⟨e, t, rfl, hm.keeps _ _ hC, ht, h₂ h' e hm⟩
end
section
variable {C : Cx} {G : Gm} {env : Env} {ns : List (Option Str)} {ρ : RE} {s s' : Shared} {M M' : Mp} {H H' : AH}
theorem kp_hide (L : Live C s.heap M) : Kp (C.wd s.heap M) (C.wd (hideAll s.heap C.fs) M) := ⟨fun b o e n hh => ⟨hideAll_get _ e (L.offFs e hh.nd), n⟩, ⟨[], by simp [wdOf]⟩, rfl⟩
theorem Exn.born {W : Addr → Prop} {e D : Addr} {c : Nat} {h' : Heap} (L : Live C s.heap M) (R : Rep C.S C.pv s.heap M H) (hX : C.S.X c = some D) (k : ∀ b o, s.heap.get? b = some o → h'.get? b = some o) (he : s.heap.get? e = none) (hr : Raw h' e D) : Exn C W s M e c { s with heap := h' } M H (hideAll s.heap C.fs) where
  keepB := fun b o e _ _ f => hideAll_get _ e f
  base := fun b o e => hideAll_get _ (L.stays b o e) (L.baseOff e).2
  rep := R.keep (l := C.pv.1) (kp_hide L) fun a f => by obtain ⟨o, ho⟩ := R.there f; rw [ho]; exact hideAll_get _ ho fun q => L.off a q f
  flt := by
    refine ⟨D, hX, fun b o e => k b o (of_hideAll _ e), ?_, ?_, .inl hr⟩
    · cases q : (hideAll s.heap C.fs).get? e with
      | none => rfl
      | some o => have := of_hideAll _ q; rw [he] at this; cases this
    · refine (funFrames_hide L.funs fun env he a hf => ?_).of_keeps fun b o e _ => ⟨o, k b o e, rfl⟩
      exact List.mem_filterMap.mpr ⟨env, he, hf⟩
  slots := fun b o e _ _ => ⟨o.slots, k b o e⟩
  alive := fun b o e => ⟨o, k b o e⟩
  pre := ⟨[], by simp⟩
  grow := fun _ q => .inl q
  gens := rfl
  os := rfl
  fresh := he
theorem EnvB.born {h' : Heap} (E : EnvB C env ns ρ s.heap s.heap M) (L : Live C s.heap M) (k : ∀ b o, s.heap.get? b = some o → h'.get? b = some o) : EnvB C env ns ρ h' (hideAll s.heap C.fs) M := by
  refine x2_1 (E) fun m cm E => ?_
  exact ⟨m, cm, E.keep rfl (fun _ q => q) (fun o ho => ⟨o.slots, k _ _ ho⟩) (fun n c o _ ho => k _ _ ho) (kp_hide L) fun _ _ _ _ n => n⟩
theorem own_elim {x : Str} {C : Addr} {bmB : List Value} {newId : String} {mg : Str → Option Value} {h : Heap} {P : Prop} (O : OwnCls x C bmB newId mg h) (k : ∀ tl N nm q bs hdct sn sub ab col dd k0 k1 k2 k3 k5 mN, h.get? C = some (excClassObj nm q C N bs tl hdct sn sub ab col dd k0 k1 k2 k3 k5 newId) → h.Ns N mN → mN "__init__" = none → OwnTail h bmB tl → P) : P := by
  obtain ⟨tl, N, nm, q, bs, hdct, sn, sub, ab, col, dd, k0, k1, k2, k3, k5, mN, hC, hN, hni, T⟩ := O.obj
  exact k tl N nm q bs hdct sn sub ab col dd k0 k1 k2 k3 k5 mN hC hN hni T
theorem sndS_raise (Y : Fit C.S G) {c : Nat} {cn : Str} {np cpos pos : Pos} {a : Expr} {v : AV} (hc : C.S.T.exs[c]? = some cn) (ha : Snd C env ns (cstE v) a) (hs : notStar a = true) (hk : env.kindOf cn = some .globalImplicit) (hdb : (cn == ("__debug__" : Str)) = false) :
    SndS C env ns (raiseS C.hot c) (.Raise (some (.Call (.Name cn np) [a] [] cpos)) none pos) := fun {ρ s M H} st => by
  show EvS C env ns _ s M (if C.hot = true then .bad else .exc c ρ H)
  split
  · trivial
  rename_i hot
  have hh := st.live.handled (by simpa using hot)
  refine x1_2 (Y.xn c cn hc) fun D hX e1 => ?_
  obtain ⟨e2, _⟩ := Y.exc c D hX
  have O := own_of_in C.S.hK C.S.hT e1 e2
  refine own_elim O fun tl N nm q bs hdct sn sub ab col dd k0 k1 k2 k3 k5 mN hC hN hni T => ?_
  have FB := PySem.F.excBase_ValueError
  refine raise_call (C := D) (nm := nm) (q := q) (N := N) (bs := bs) (bm := tl) (hdct := hdct) (sn := sn) (sub := sub) (ab := ab) (col := col) (dd := dd) (k0 := k0) (k1 := k1) (k2 := k2) (k3 := k3) (k5 := k5) FB FB.hasB FB (mN := mN) (T.hasType FB.hasBase) (back_plain [a] (by simp [hs])) hni ?_
  refine name_glob st hk hdb e1 ⟨rfl, ?_⟩
  rw [back_cons hs]
  refine Calls.evalArgs_plain (Calls.spliced_cons (wpAny_mono (show wpAny _ _ _ (Post VRel C s M v H) no1 s from ha st) (fun u s₁ po => ?_) fun _ _ q => q.elim))
  refine x1_3 (po) fun M₁ x1 rp1 _ => ?_; try clear po
  have st1 := st.step x1 rp1
  refine Calls.spliced_nil ⟨rfl, by show 1 ≤ sizeLine; decide +kernel, st1.live.stays _ _ hC, hN.keeps st1.live.stays, T.keeps st1.live.stays, fun h' e hm => ?_⟩
  refine x1_3 (hm.there) fun t ht _ _ => ?_
  refine wpAny_raiseNew_none hh ?_
  have hraw : Raw h' e D := ⟨_, _, ht, ⟨rfl, rfl⟩, rfl, by simp, by simp⟩
  have E1 : Exn C (OwnW env) s₁ M₁ e c { s₁ with heap := h' } M₁ H _ := Exn.born st1.live rp1 hX hm.keeps hm.new hraw
  exact PostSX.back x1.ofNo ⟨e, M₁, _, rfl, E1, st1.env.born st1.live hm.keeps⟩
end
theorem funFrames_base {h B base : Heap} (k : base.StaysIn B) : ∀ {l : List Env}, h.FunFrames B l → h.FunFrames base l
  | [], _ => trivial
  | env :: _, ⟨hk, ⟨L, o, hf, hn, ho, hd⟩, hr⟩ => ⟨hk, ⟨L, o, hf, gone (fun b o e => ⟨o, k b o e⟩) hn, ho, hd⟩, funFrames_base k hr⟩
section
variable {C : Cx} {G : Gm} {env : Env} {ns : List (Option Str)} {W : Addr → Prop} {s s' : Shared} {M M' : Mp} {H H' : AH} {e : Addr} {c : Nat} {B : Heap} {ρ : RE}
theorem Exn.live (x : Exn C (OwnW env) s M e c s' M' H' B) (L : Live C s.heap M) (E : EnvB C env ns ρ s'.heap B M') : Live C s'.heap M' := by
  refine x1_2 (id x.flt) fun D hX fl => ?_
  exact
  { frames := L.frames
    funs := funFrames_base x.base fl.funs
    stays := fun b o e => fl.stays _ _ (x.base b o e)
    off := fun a ha => by
      obtain ⟨_, o, ho, _⟩ := L.funs.mem ha
      exact x.step.not ho (L.off a ha)
    new := fun a f => (x.grow a f).elim (L.new a) L.base0
    handled := L.handled
    dicts := fun b hb => by
      refine x2_1 (E) fun m cm E => ?_
      by_cases q : b = env.locals
      · refine x3_3 (E.loc) fun o es ep h1 h2 _ => ?_
        exact ⟨o, es, ep, q ▸ h1, h2⟩
      · refine x3_2 (L.dicts b hb) fun o es ep ho hd => ?_
        obtain ⟨sl, h1⟩ := x.slots b o ho hb fun z => z.elim q fun ⟨n, hc⟩ => (E.cell n b hc).2.1 hb
        exact ⟨_, es, ep, h1, hd⟩
    depth := L.depth
    units := L.units
    priv := fun a ha => by obtain ⟨o, ho⟩ := L.priv a ha; exact x.alive a o ho
    poff := fun a ha => by obtain ⟨o, ho⟩ := L.priv a (.inl ha); exact x.step.not ho (L.poff a ha) }
theorem Exn.off (x : Exn C W s M e c s' M' H' B) : ¬ foot M' e := fun f => by
  obtain ⟨o, ho⟩ := x.rep.there f
  refine x1_2 (id x.flt) fun D _ fl => ?_
  rw [fl.new] at ho; cases ho
end
section
variable {M : Model} {A : Around} {E : Value → Shared → Prop} {s : Shared}
variable {nm q : Str} {D N : Addr} {bs bm : List Value} {hdct : Bool} {sn : List Str} {sub : List Value} {ab : Bool} {col : Option Bool} {dd : Option Addr} {k0 k1 k2 k3 k5 : Option Value} {newId : String}
end
section
variable {C : Cx} {G : Gm} {env : Env} {ns : List (Option Str)} {s : Shared} {M : Mp} {H : AH}
theorem EvP.map {K K' : (Flow → Shared → Prop) → (Value → Shared → Prop) → Prop} {o : OutS} (h : EvP C env ns s M K o) (e : ∀ {P : Flow → Shared → Prop} {E : Value → Shared → Prop}, K P E → K' P E) : EvP C env ns s M K' o := by
  cases o with
  | bad => trivial
  | next ρ' H' => exact e h
  | ret a H' => exact e h
  | exc c ρ' H' => exact e h
end
structure Dl where
  sc : List (Str × NameKind)
  ns : List (Option Str)
  mts : List (Nat × Nat × Nat)
noncomputable def mtAt (D : Dl) (p : Pos) : Bool := D.mts.any fun q => q.1 == p.line && q.2.1 == p.col && q.2.2 == p.endCol
noncomputable def glob (D : Dl) (x : Str) : Bool := D.sc.lookup x == some .globalImplicit && !(x == ("__debug__" : Str)) && !(x == ("__name__" : Str))
noncomputable def compOK (D : Dl) (x : Str) (sc : Scope) : Bool :=
  sc.kind == .function && sc.names.lookup x == some .local && (sc.names.all fun y => y.2 != .cell) && (sc.names.all fun y => y.2 != .local || sc.names.lookup y.1 == some .local) &&
  (sc.names.all fun y => y.2 != .free || D.sc.lookup y.1 == some .cell || D.sc.lookup y.1 == some .free)
noncomputable def ixOf {α : Type} [BEq α] (x : α) : List α → Nat → Option Nat
  | [], _ => none
  | o :: r, i => if o == x then some i else ixOf x r (i + 1)
noncomputable def orE {β : Type} (o : Option β) (f : β → DE) : DE := match o with
  | some b => f b
  | none => badE
noncomputable def nameE (T : Tb) (D : Dl) (x : Str) : DE := if x == ("__debug__" : Str) || x == ("__classdict__" : Str) then badE else match ixOf (some x) D.ns 0 with
  | some i => varE i
  | none => if glob D x then orE (T.gi.lookup x) fun i => cstE (.int i) else badE
noncomputable def biTab (mt : Bool) : List (Str × Bi) := [("len", .len), ("range", .range), ("list", .list mt), ("min", .min), ("max", .max), ("sorted", .sorted)]
noncomputable def bmTab : List (Str × Bm) := [("append", .append), ("get", .get), ("pop", .pop), ("join", .join)]
noncomputable def tyTab : List (Str × Ty) := [("int", .int), ("bool", .bool), ("str", .str), ("tuple", .tup), ("list", .lst)]
noncomputable def nameOf : Expr → Option (Str × Pos)
  | .Name x p => some (x, p)
  | _ => none
noncomputable def tyE (D : Dl) (e : Expr) : Option Ty := (nameOf e).bind fun x => if glob D x.1 then tyTab.lookup x.1 else none
noncomputable def nameCall (T : Tb) (G : Gm) (Φ : FT) (hot : Bool) (D : Dl) (x : Str) (p : Pos) (args : List Expr) (as : List DE) : DE :=
  if args.all notStar && glob D x then
    (if x == ("isinstance" : Str) then (match args, as with
      | [_, t], [a, _] => orE (tyE D t) fun t => isiE G a [t]
      | _, _ => badE)
    else match (biTab (mtAt D p)).lookup x with
      | some b => biE hot b as
      | none => match ixOf (some x) T.fns 0 with
        | some i => callE Φ i as
        | none => orE (ixOf x T.cls 0) fun c => newE G Φ c as) else badE
noncomputable def attrCall (T : Tb) (G : Gm) (Φ : FT) (o' : Expr) (o : DE) (m : Str) (line : Bool) (args : List Expr) (as : List DE) : DE :=
  if plainBase o' && args.all notStar && line && decide (args.length < 20) then (match ixOf m T.mn 0 with
    | some k => moE G Φ k o as
    | none => orE (bmTab.lookup m) fun b => mbE b o as) else badE
noncomputable def altE {β : Type} (o : Option β) (f : β → DE) (g : DE) : DE := match o with
  | some b => f b
  | none => g
noncomputable def attOf : Expr → Option (Expr × Str × Pos)
  | .Attribute o m p => some (o, m, p)
  | _ => none
noncomputable def slOf : Expr → Option (Option Expr × Option Expr × Option Expr × Pos)
  | .Slice a b c p => some (a, b, c, p)
  | _ => none
noncomputable def genOf : List Comprehension → Option ((Str × Pos) × Comprehension)
  | [g] => (nameOf g.target).map (·, g)
  | _ => none
noncomputable def plainT : Expr → Bool
  | .UnaryOp op _ _ => op != .Not
  | .BoolOp .. => false
  | .IfExp .. => false
  | .Compare .. => false
  | _ => true
noncomputable abbrev Dl.inner (D : Dl) (x : Str) (sc : Scope) : Dl := ⟨relN D.sc sc.names, nsC D.ns sc.names x, D.mts⟩
noncomputable def toE (T : Tb) (G : Gm) (Φ : FT) (hot : Bool) : Nat → Dl → Expr → DE
  | 0, _, _ => badE
  | n + 1, D, e => match e with
    | .Constant k _ _ => orE (constA k) cstE
    | .Name x _ => nameE T D x
    | .BinOp l op r p => binE (mtAt D p) op (toE T G Φ hot n D l) (toE T G Φ hot n D r)
    | .UnaryOp op x _ => (match op with
      | .USub => negE (toE T G Φ hot n D x)
      | .Not => ntE (toE T G Φ hot n D x)
      | _ => badE)
    | .BoolOp op es _ => bopE (op == .And) (es.map (toE T G Φ hot n D))
    | .Compare l ops rs _ => if rs.all notSet && decide (ops.length = rs.length) then cmpE (toE T G Φ hot n D l) ops (rs.map (toE T G Φ hot n D)) else badE
    | .Call f args ks p => if ks.isEmpty then altE (nameOf f) (fun x => nameCall T G Φ hot D x.1 p args (args.map (toE T G Φ hot n D)))
        (orE (attOf f) fun y => attrCall T G Φ y.1 (toE T G Φ hot n D y.1) y.2.1 (y.2.2.endLine == p.line) args (args.map (toE T G Φ hot n D))) else badE
    | .Attribute o x _ => if plainBase o then orE (ixOf x T.an 0) fun k => attrE k (toE T G Φ hot n D o) else badE
    | .Subscript o i p => altE (slOf i) (fun y => slcE (mtAt D p) (toE T G Φ hot n D o) ((y.1.map (toE T G Φ hot n D)).getD (cstE .none)) ((y.2.1.map (toE T G Φ hot n D)).getD (cstE .none)) ((y.2.2.1.map (toE T G Φ hot n D)).getD (cstE .none)))
      (subE (toE T G Φ hot n D o) (toE T G Φ hot n D i))
    | .List es p => if es.all notStar then lstE (mtAt D p) (es.map (toE T G Φ hot n D)) else badE
    | .Tuple es _ _ => if es.all notStar then tupE (es.map (toE T G Φ hot n D)) else badE
    | .Dict ks vs _ => (match ks, vs with
      | [], [] => dct0E
      | [some k], [v] => dct1E (toE T G Φ hot n D k) (toE T G Φ hot n D v)
      | _, _ => badE)
    | .ListComp elt gens sc p => orE (genOf gens) fun g => if decide (g.2.is_async = 0) && (notSet g.2.iter && compOK D g.1.1 sc && decide (g.2.ifs.length ≤ 1)) then
          compE hot (mtAt D p) (toE T G Φ hot n (D.inner g.1.1 sc) elt) (toE T G Φ hot n D g.2.iter) ((g.2.ifs.head?.map (toE T G Φ hot n (D.inner g.1.1 sc))).getD (cstE (.bool true))) else badE
    | _ => badE
theorem nameOf_eq {e : Expr} {x : Str × Pos} (h : nameOf e = some x) : e = .Name x.1 x.2 := by
  cases e with
  | Name x p => cases h; rfl
  | _ => exact no_some h
theorem attOf_eq {e : Expr} {x : Expr × Str × Pos} (h : attOf e = some x) : e = .Attribute x.1 x.2.1 x.2.2 := by
  cases e with
  | Attribute o m p => cases h; rfl
  | _ => exact no_some h
theorem slOf_eq {e : Expr} {x : Option Expr × Option Expr × Option Expr × Pos} (h : slOf e = some x) : e = .Slice x.1 x.2.1 x.2.2.1 x.2.2.2 := by
  cases e with
  | Slice a b c p => cases h; rfl
  | _ => exact no_some h
theorem slOf_no {e : Expr} (h : slOf e = none) : notSlice e = true := by
  cases e with
  | Slice a b c p => cases h
  | _ => rfl
theorem genOf_eq {l : List Comprehension} {g : (Str × Pos) × Comprehension} (h : genOf l = some g) : l = [⟨.Name g.1.1 g.1.2, g.2.iter, g.2.ifs, g.2.is_async⟩] := by
  match l, h with
  | [⟨t, it, ifs, a⟩], h =>
    refine x1_2 (Option.map_eq_some_iff.mp h) fun x h1 h => ?_
    cases h
    obtain rfl : t = _ := nameOf_eq h1
    rfl
theorem no_tf {P : Prop} (h : false = true) : P := nomatch h
theorem ixOf_at {α : Type} [BEq α] [LawfulBEq α] {x : α} : ∀ (l : List α) (i j : Nat), ixOf x l i = some j → ∃ k, j = i + k ∧ l[k]? = some x
  | [], _, _, h => nomatch h
  | o :: r, i, j, h => by
    unfold ixOf at h
    split at h
    · rename_i q; cases h; exact ⟨0, rfl, by simpa using q⟩
    · refine x1_2 (ixOf_at r (i + 1) j h) fun k e h => ?_
      exact ⟨k + 1, by lia, h⟩
theorem ixOf_ok {α : Type} [BEq α] [LawfulBEq α] {x : α} {l : List α} {j : Nat} (h : ixOf x l 0 = some j) : l[j]? = some x := by
  refine x1_2 (ixOf_at l 0 j h) fun k e h => ?_
  rw [e, Nat.zero_add]; exact h
theorem lookup_mem {β : Type} {x : Str} {b : β} : ∀ {l : List (Str × β)}, l.lookup x = some b → (x, b) ∈ l
  | [], h => nomatch h
  | y :: r, h => by
    rw [List.lookup_cons] at h
    split at h
    · rename_i q; rw [beq_iff_eq] at q; cases h; rw [q]; exact .head _
    · exact .tail _ (lookup_mem h)
section
variable {C : Cx} {G : Gm} {Φ : FT} {env : Env} {D : Dl}
theorem if_snd {ns : List (Option Str)} {b : Bool} {x : DE} {e : Expr} (h : b = true → Snd C env ns x e) : Snd C env ns (if b = true then x else badE) e := by
  split
  · exact h ‹_›
  · exact snd_bad
theorem alt_snd {β : Type} {ns : List (Option Str)} {o : Option β} {f : β → DE} {g : DE} {e : Expr} (h : ∀ b, o = some b → Snd C env ns (f b) e) (h' : o = none → Snd C env ns g e) : Snd C env ns (altE o f g) e := by
  cases o with
  | none => exact h' rfl
  | some b => exact h b rfl
theorem opt_snd {β : Type} {ns : List (Option Str)} {o : Option β} {f : β → DE} {e : Expr} (h : ∀ b, o = some b → Snd C env ns (f b) e) : Snd C env ns (orE o f) e := by
  cases o with
  | none => exact snd_bad
  | some b => exact h b rfl
theorem glob_env {x : Str} (he : env.scope.names = D.sc) (h : glob D x = true) : env.kindOf x = some .globalImplicit ∧ (x == ("__debug__" : Str)) = false ∧ x ≠ "__name__" := by
  unfold glob at h
  simp only [Bool.and_eq_true, Bool.not_eq_true', beq_iff_eq] at h
  obtain ⟨⟨a, b⟩, c⟩ := h
  exact ⟨by unfold Env.kindOf; rw [he]; exact a, b, by simpa using c⟩
theorem compAt_of {x : Str} {sc : Scope} (he : env.scope.names = D.sc) (h : compOK D x sc = true) : CompAt env x sc := by
  unfold compOK at h
  simp only [Bool.and_eq_true, beq_iff_eq, List.all_eq_true, bne_iff_ne, Bool.or_eq_true] at h
  refine w5 h fun h1 h3 h4 h5 h6 => ?_
  refine ⟨h1, h3, h4, fun y hy q => (h5 y hy).resolve_left fun z => z q, fun y hy q => ?_⟩
  unfold Env.kindOf
  rw [he]
  rcases h6 y hy with (z | z) | z
  · exact absurd q z
  · exact .inl z
  · exact .inr z
theorem name_snd (Y : Fit C.S G) {x : Str} {p : Pos} (he : env.scope.names = D.sc) : Snd C env D.ns (nameE C.S.T D x) (.Name x p) := by
  unfold nameE
  split
  · exact snd_bad
  · rename_i q
    simp only [Bool.or_eq_true, not_or, Bool.not_eq_true] at q
    split
    · rename_i i e; exact snd_var (ixOf_ok e) q.1 q.2
    · refine if_snd fun h => opt_snd fun i hi => ?_
      obtain ⟨g1, g2, g3⟩ := glob_env he h
      obtain ⟨t, e⟩ := Y.gi x i (lookup_mem hi)
      exact snd_gv g1 g2 e
theorem all_cons {α : Type} {p : α → Prop} {a : α} {l : List α} (h : p a) (t : ∀ x ∈ l, p x) : ∀ x ∈ a :: l, p x := fun x hx => by
  cases hx with
  | head => exact h
  | tail _ hx => exact t x hx
theorem all_nil {α : Type} {p : α → Prop} : ∀ x ∈ ([] : List α), p x := fun _ h => nomatch h
theorem bi_tab {mt : Bool} : ∀ y ∈ biTab mt, bootBuiltins y.1 = some (biV y.2) ∧ y.1 ∈ biNames :=
  all_cons ⟨by kernel_rfl, show ("len" : Str) ∈ biNames by decide⟩ (all_cons ⟨by kernel_rfl, show ("range" : Str) ∈ biNames by decide⟩ (all_cons ⟨by kernel_rfl, show ("list" : Str) ∈ biNames by decide⟩ (all_cons ⟨by kernel_rfl, show ("min" : Str) ∈ biNames by decide⟩ (all_cons ⟨by kernel_rfl, show ("max" : Str) ∈ biNames by decide⟩ (all_cons ⟨by kernel_rfl, show ("sorted" : Str) ∈ biNames by decide⟩ all_nil)))))
theorem bm_tab : ∀ y ∈ bmTab, y.2.name = y.1 := all_cons rfl (all_cons rfl (all_cons rfl (all_cons rfl all_nil)))
theorem ty_tab {T : Tb} : ∀ y ∈ tyTab, tyN T y.2 = some y.1 := all_cons rfl (all_cons rfl (all_cons rfl (all_cons rfl (all_cons rfl all_nil))))
theorem ty_ok {T : Tb} (he : env.scope.names = D.sc) {e : Expr} {ty : Ty} (h : tyE D e = some ty) : ∃ x p, e = .Name x p ∧ env.kindOf x = some .globalImplicit ∧ (x == ("__debug__" : Str)) = false ∧ x ≠ "__name__" ∧ tyN T ty = some x := by
  obtain ⟨y, h1, h⟩ := Option.bind_eq_some_iff.mp h
  split at h
  · rename_i q
    refine x0_3 (glob_env he q) fun g1 g2 g3 => ?_
    exact ⟨y.1, y.2, nameOf_eq h1, g1, g2, g3, ty_tab _ (lookup_mem h)⟩
  · cases h
variable {d : Nat}
theorem nameCall_snd (Y : Fit C.S G) (F : FOK C.S C.hot d Φ) (hd : d + 1 ≤ C.d) {f : Expr → DE} (h : ∀ e, Snd2 C env D.ns (f e) e) (he : env.scope.names = D.sc) {x : Str} {args : List Expr} {p p' : Pos} :
    Snd C env D.ns (nameCall C.S.T G Φ C.hot D x p args (args.map f)) (.Call (.Name x p') args [] p) := by
  unfold nameCall
  apply if_snd
  intro q
  rw [Bool.and_eq_true] at q
  obtain ⟨g1, g2, g3⟩ := glob_env he q.2
  split
  · rename_i q1
    rw [beq_iff_eq] at q1
    subst q1
    rcases args with _ | ⟨a, _ | ⟨t, _ | ⟨_, _⟩⟩⟩ <;> first | exact snd_bad | skip
    refine opt_snd fun ty hty => ?_
    refine x2_5 (ty_ok (T := C.S.T) he hty) fun y py e1 k1 k2 k3 k4 => ?_
    subst e1
    exact snd_isi Y g1 (h a).1 (by have := q.1; rw [List.all_cons, Bool.and_eq_true] at this; exact this.1) k1 k2 k3 k4
  · split
    · rename_i b hb
      obtain ⟨h1, h2⟩ : bootBuiltins x = some (biV b) ∧ x ∈ biNames := bi_tab _ (lookup_mem hb)
      exact snd_bi Y h g1 g2 g3 h2 h1 q.1
    · split
      · rename_i i hi; exact snd_call Y F (Nat.le_of_succ_le hd) h g1 g2 (ixOf_ok hi) q.1
      · exact opt_snd fun c hc => snd_new Y F hd h g1 g2 (ixOf_ok hc) q.1
theorem attrCall_snd (Y : Fit C.S G) (F : FOK C.S C.hot d Φ) (hd : d + 1 ≤ C.d) {f : Expr → DE} (h : ∀ e, Snd2 C env D.ns (f e) e) {o : Expr} {m : Str} {ap : Pos} {args : List Expr} {p : Pos} :
    Snd C env D.ns (attrCall C.S.T G Φ o (f o) m (ap.endLine == p.line) args (args.map f)) (.Call (.Attribute o m ap) args [] p) := by
  unfold attrCall
  refine if_snd fun q => ?_
  simp only [Bool.and_eq_true, decide_eq_true_eq] at q
  obtain ⟨⟨⟨q1, q2⟩, q3⟩, q4⟩ := q
  split
  · rename_i k hk; exact snd_mo Y F (Nat.le_of_succ_le hd) h (ixOf_ok hk) q1 q2 q4 q3
  · refine opt_snd fun b hb => ?_
    obtain rfl : b.name = m := bm_tab _ (lookup_mem hb)
    exact snd_mb h q1 q2 q4 q3
theorem val2 {ns : List (Option Str)} {f : DE} {e : Expr} (h : Snd C env ns f e) (hp : plainT e = true) : Snd2 C env ns f e :=
  ⟨h, sndT_value h (isTrue_value (fun _ _ q => by rw [q] at hp; cases hp) (fun _ _ _ q => by rw [q] at hp; cases hp) (fun _ _ _ _ q => by rw [q] at hp; cases hp) (fun _ _ _ _ q => by rw [q] at hp; cases hp))⟩
theorem toE_comp {T : Tb} {hot : Bool} {n : Nat} {elt : Expr} {gens : List Comprehension} {sc : Scope} {p : Pos} : toE T G Φ hot (n + 1) D (.ListComp elt gens sc p) = orE (genOf gens) fun g => if (decide (g.2.is_async = 0) && (notSet g.2.iter && compOK D g.1.1 sc && decide (g.2.ifs.length ≤ 1))) = true then
    compE hot (mtAt D p) (toE T G Φ hot n (D.inner g.1.1 sc) elt) (toE T G Φ hot n D g.2.iter) ((g.2.ifs.head?.map (toE T G Φ hot n (D.inner g.1.1 sc))).getD (cstE (.bool true))) else badE := rfl
structure CompSnd (C : Cx) (env : Env) (ns : List (Option Str)) (elt it cond : DE) (elt' it' : Expr) (ifs : List Expr) (x : Str) (sc : Scope) : Prop where
  itr : Snd C env ns it it'
  nset : notSet it' = true
  names : CompAt env x sc
  item : ∀ pv (env' : Env), env'.scope.names = relN env.scope.names sc.names → Snd (C.withPv pv) env' (nsC ns sc.names x) elt elt'
  tests : ∀ pv (env' : Env), env'.scope.names = relN env.scope.names sc.names → TestsOK (C.withPv pv) env' (nsC ns sc.names x) cond ifs
theorem comp_of {n : Nat} {x : Str} {sc : Scope} {it elt : Expr} {ifs : List Expr} (he : env.scope.names = D.sc) (ih : ∀ pv (D : Dl) (env : Env) (e : Expr), env.scope.names = D.sc → Snd2 (C.withPv pv) env D.ns (toE C.S.T G Φ C.hot n D e) e)
    (h : (notSet it && compOK D x sc && decide (ifs.length ≤ 1)) = true) : CompSnd C env D.ns (toE C.S.T G Φ C.hot n (D.inner x sc) elt) (toE C.S.T G Φ C.hot n D it) ((ifs.head?.map (toE C.S.T G Φ C.hot n (D.inner x sc))).getD (cstE (.bool true))) elt it ifs x sc := by
  rw [Bool.and_eq_true, Bool.and_eq_true, decide_eq_true_eq] at h
  refine ⟨(ih C.pv D env it he).1, h.1.1, compAt_of he h.1.2, fun pv env' he' => (ih pv (D.inner x sc) env' elt (by rw [he', he])).1, fun pv env' he' => ?_⟩
  rcases ifs with _ | ⟨c, _ | ⟨_, _⟩⟩
  · exact tests_nil
  · exact tests_one (ih pv (D.inner x sc) env' c (by rw [he', he])).2
  · have := h.2; simp at this
theorem toE_ok : ∀ (n : Nat) {C : Cx} (Y : Fit C.S G) (F : FOK C.S C.hot d Φ) (hd : d + 1 ≤ C.d) (D : Dl) (env : Env) (e : Expr), env.scope.names = D.sc → Snd2 C env D.ns (toE C.S.T G Φ C.hot n D e) e
  | 0, _, _, _, _, _, _, _, _ => bad_ok
  | n + 1, C, Y, F, hd, D, env, e, he => by
    have ih : ∀ e, Snd2 C env D.ns (toE C.S.T G Φ C.hot n D e) e := fun e => toE_ok n Y F hd D env e he
    have v : ∀ {y : DE} {e : Expr}, Snd C env D.ns y e → plainT e = true → Snd2 C env D.ns y e := val2
    cases e with
    | UnaryOp op x p =>
      cases op with
      | USub => exact v (snd_neg (ih x).1) rfl
      | Not => exact ⟨snd_nt (ih x).1, sndT_nt (ih x).2⟩
      | _ => exact bad_ok
    | BoolOp op es p =>
      have e : op = opOf (op == .And) := by cases op <;> rfl
      show Snd2 C env D.ns (bopE (op == .And) _) _
      rw [congrArg (fun o => Expr.BoolOp o es p) e]
      exact snd_bop ih
    | Compare l ops rs p =>
      show Snd2 C env D.ns (if (rs.all notSet && decide (ops.length = rs.length)) = true then cmpE (toE C.S.T G Φ C.hot n D l) ops (rs.map (toE C.S.T G Φ C.hot n D)) else badE) _
      split
      · rename_i q
        rw [Bool.and_eq_true, decide_eq_true_eq] at q
        exact snd_cmp ih q.1 q.2
      · exact bad_ok
    | Constant k kd p => exact v (opt_snd fun a ha => snd_cst ha) rfl
    | Name x p => exact v (name_snd Y he) rfl
    | BinOp l op r p => exact v (snd_bin (ih l).1 (ih r).1) rfl
    | Call f args ks p =>
      refine v ?_ rfl
      refine if_snd fun q => ?_
      rw [List.isEmpty_iff] at q
      subst q
      refine alt_snd (fun x hx => ?_) fun _ => opt_snd fun y hy => ?_
      · rw [nameOf_eq hx]; exact nameCall_snd Y F hd ih he
      · rw [attOf_eq hy]; exact attrCall_snd Y F hd ih
    | Attribute o x p =>
      refine v ?_ rfl
      exact if_snd fun q => opt_snd fun k hk => snd_attr Y (ih o).1 (ixOf_ok hk) q
    | Subscript o i p =>
      refine v ?_ rfl
      refine alt_snd (fun x hx => ?_) fun hn => snd_sub (ih o).1 (ih i).1 (slOf_no hn)
      rw [slOf_eq hx]; exact snd_slc (ih o).1 (snd_opt ih _) (snd_opt ih _) (snd_opt ih _)
    | List es p =>
      refine v ?_ rfl
      exact if_snd fun q => snd_lst ih q
    | Tuple es k p =>
      refine v ?_ rfl
      exact if_snd fun q => snd_tup ih q
    | Dict ks vs p =>
      refine v ?_ rfl
      rcases ks with _ | ⟨_ | k, _ | ⟨_, _⟩⟩ <;> rcases vs with _ | ⟨w, _ | ⟨_, _⟩⟩ <;> first | exact snd_bad | exact snd_dct0 | exact snd_dct1 (ih k).1 (ih w).1
    | ListComp elt gens sc p =>
      refine v ?_ rfl
      refine opt_snd fun g hg => if_snd fun q => ?_
      rw [Bool.and_eq_true, decide_eq_true_eq] at q
      rw [genOf_eq hg, q.1]
      have Z := comp_of (C := C) (G := G) (Φ := Φ) (elt := elt) he (fun pv D env e he => toE_ok n (C := C.withPv pv) Y F hd D env e he) q.2
      exact fun {ρ s M H} st => snd_comp Z.itr Z.nset Z.names Z.item Z.tests st
    | _ => exact bad_ok
end
noncomputable def notTup : Expr → Bool
  | .Tuple .. => false
  | _ => true
noncomputable def isLC : Expr → Bool
  | .ListComp .. => true
  | _ => false
noncomputable def asgE (t e : Expr) : Bool := notComp e && notTup e || (nameOf t).isSome && (notComp e || isLC e)
noncomputable def subOf : Expr → Option (Expr × Expr × Pos)
  | .Subscript o i p => some (o, i, p)
  | _ => none
noncomputable def callOf : Expr → Option (Expr × List Expr × List Keyword × Pos)
  | .Call f a k p => some (f, a, k, p)
  | _ => none
noncomputable def constOf : Expr → Option (Const × Nat × Pos)
  | .Constant k n p => some (k, n, p)
  | _ => none
noncomputable def isAdd : Operator → Bool
  | .Add => true
  | _ => false
noncomputable def stIx (D : Dl) (x : Str) : Option Nat := if D.sc.lookup x == some .local || D.sc.lookup x == some .cell then ixOf (some x) D.ns 0 else none
noncomputable def stIxs (D : Dl) : List Expr → Option (List (Str × Nat × Pos))
  | [] => some []
  | .Name x p :: r => (stIx D x).bind fun i => (stIxs D r).map ((x, i, p) :: ·)
  | _ => none
noncomputable def tgE (D : Dl) : Expr → Option Tg
  | .Name x _ => (stIx D x).map .one
  | .Tuple es _ _ => (stIxs D es).map fun xs => .many (xs.map (·.2.1))
  | _ => none
noncomputable def orS {β : Type} (o : Option β) (f : β → DS) : DS := match o with
  | some b => f b
  | none => badS
noncomputable def altS {β : Type} (o : Option β) (f : β → DS) (g : DS) : DS := match o with
  | some b => f b
  | none => g
noncomputable def raiseOf (e : Expr) : Option (Str × Const) := (callOf e).bind fun c => if c.2.2.1.isEmpty then (match c.2.1 with
  | [a] => (nameOf c.1).bind fun x => (constOf a).map fun k => (x.1, k.1)
  | _ => none) else none
noncomputable def raiseT (T : Tb) (hot : Bool) (D : Dl) (e c : Option Expr) : DS := match c with
  | some _ => badS
  | none => orS (e.bind raiseOf) fun y => if glob D y.1 && (constA y.2).isSome then orS (ixOf y.1 T.exs 0) fun i => raiseS hot i else badS
noncomputable def whileFuel : Nat := Classical.choose (⟨1000000, Nat.le_refl _⟩ : ∃ n : Nat, 1000000 ≤ n)
theorem whileFuel_le : 1000000 ≤ whileFuel := Classical.choose_spec (⟨1000000, Nat.le_refl _⟩ : ∃ n : Nat, 1000000 ≤ n)
noncomputable def toS (T : Tb) (G : Gm) (Φ : Bool → FT) : Nat → Bool → Dl → Stmt → DS
  | 0, _, _, _ => badS
  | n + 1, hot, D, t => match t with
    | .Expr e _ => if notComp e then exprS (toE T G (Φ hot) hot 60 D e) else badS
    | .Assign ts e _ => (match ts with
      | [t] => altS (subOf t) (fun y => setItemS (toE T G (Φ hot) hot 60 D y.1) (toE T G (Φ hot) hot 60 D y.2.1) (toE T G (Φ hot) hot 60 D e))
        (altS (attOf t) (fun y => orS (ixOf y.2.1 T.an 0) fun k => setAttrS k (toE T G (Φ hot) hot 60 D y.1) (toE T G (Φ hot) hot 60 D e))
        (if asgE t e then orS (tgE D t) fun g => assignS hot g (toE T G (Φ hot) hot 60 D e) else badS))
      | _ => badS)
    | .AugAssign t op e _ => orS (subOf t) fun y => if isAdd op && notSlice y.2.1 then augS (toE T G (Φ hot) hot 60 D y.1) (toE T G (Φ hot) hot 60 D y.2.1) (toE T G (Φ hot) hot 60 D e) else badS
    | .Return v _ => retS ((v.map (toE T G (Φ hot) hot 60 D)).getD (cstE .none))
    | .Pass _ => passS
    | .If t b o _ => ifS (toE T G (Φ hot) hot 60 D t) (seqS (b.map (toS T G Φ n hot D))) (seqS (o.map (toS T G Φ n hot D)))
    | .For t it b els _ => if notSet it && els.isEmpty then orS (tgE D t) fun g => forS hot g (toE T G (Φ hot) hot 60 D it) (seqS (b.map (toS T G Φ n hot D))) else badS
    | .Raise e c _ => raiseT T hot D e c
    | .While t b els _ => if els.isEmpty then whileS (toE T G (Φ hot) hot 60 D t) (seqS (b.map (toS T G Φ n hot D))) whileFuel else badS
    | _ => badS
section
variable {C : Cx} {G : Gm} {env : Env} {D : Dl}
theorem sndS_bad {ns : List (Option Str)} {t : Stmt} : SndS C env ns badS t := fun _ => trivial
theorem if_sndS {ns : List (Option Str)} {b : Bool} {x : DS} {t : Stmt} (h : b = true → SndS C env ns x t) : SndS C env ns (if b = true then x else badS) t := by
  split
  · exact h ‹_›
  · exact sndS_bad
theorem alt_sndS {β : Type} {ns : List (Option Str)} {o : Option β} {f : β → DS} {g : DS} {t : Stmt} (h : ∀ b, o = some b → SndS C env ns (f b) t) (h' : SndS C env ns g t) : SndS C env ns (altS o f g) t := by
  cases o with
  | none => exact h'
  | some b => exact h b rfl
theorem subOf_eq {e : Expr} {x : Expr × Expr × Pos} (h : subOf e = some x) : e = .Subscript x.1 x.2.1 x.2.2 := by
  cases e with
  | Subscript o m p => cases h; rfl
  | _ => exact no_some h
theorem callOf_eq {e : Expr} {x : Expr × List Expr × List Keyword × Pos} (h : callOf e = some x) : e = .Call x.1 x.2.1 x.2.2.1 x.2.2.2 := by
  cases e with
  | Call o m k p => cases h; rfl
  | _ => exact no_some h
theorem constOf_eq {e : Expr} {x : Const × Nat × Pos} (h : constOf e = some x) : e = .Constant x.1 x.2.1 x.2.2 := by
  cases e with
  | Constant o m p => cases h; rfl
  | _ => exact no_some h
theorem isLC_eq {e : Expr} (h : isLC e = true) : ∃ a b c d, e = .ListComp a b c d := by
  cases e with
  | ListComp a b c d => exact ⟨a, b, c, d, rfl⟩
  | _ => exact no_tf h
theorem isAdd_eq {e : Operator} (h : isAdd e = true) : e = .Add := by
  cases e with
  | Add => rfl
  | _ => exact no_tf h
theorem raiseOf_eq {e : Expr} {y : Str × Const} (h : raiseOf e = some y) : ∃ np kd kp cp, e = .Call (.Name y.1 np) [.Constant y.2 kd kp] [] cp := by
  obtain ⟨⟨f, as, ks, cp⟩, h1, h⟩ := Option.bind_eq_some_iff.mp h
  rw [callOf_eq h1]
  have h : (if ks.isEmpty = true then (match as with | [a] => (nameOf f).bind fun x => (constOf a).map fun k => (x.1, k.1) | _ => none) else none) = some y := h
  split at h
  · rename_i q
    rw [List.isEmpty_iff] at q
    subst q
    match as, h with
    | [a], h =>
      refine x1_2 (Option.bind_eq_some_iff.mp h) fun x h2 h => ?_
      refine x1_2 (Option.map_eq_some_iff.mp h) fun k h3 h => ?_
      cases h
      rw [nameOf_eq h2, constOf_eq h3]
      exact ⟨_, _, _, _, rfl⟩
  · cases h
theorem opt_sndS {β : Type} {ns : List (Option Str)} {o : Option β} {f : β → DS} {t : Stmt} (h : ∀ b, o = some b → SndS C env ns (f b) t) : SndS C env ns (orS o f) t := by
  cases o with
  | none => exact sndS_bad
  | some b => exact h b rfl
theorem stIx_env {i : Nat} {x : Str} (he : env.scope.names = D.sc) (h : stIx D x = some i) : TgOK env D.ns x i := by
  unfold stIx at h
  split at h
  · rename_i q
    rw [Bool.or_eq_true, beq_iff_eq, beq_iff_eq] at q
    refine ⟨ixOf_ok h, ?_⟩
    unfold Env.kindOf
    rw [he]; exact q
  · cases h
theorem stIxs_env (he : env.scope.names = D.sc) : ∀ {es : List Expr} {xs : List (Str × Nat × Pos)}, stIxs D es = some xs → es = xs.map (fun y => .Name y.1 y.2.2) ∧ ∀ y ∈ xs, TgOK env D.ns y.1 y.2.1
  | [], xs, h => by cases h; exact ⟨rfl, fun _ q => nomatch q⟩
  | e :: r, xs, h => by
    cases e with
    | Name x p =>
      refine x1_2 (Option.bind_eq_some_iff.mp h) fun i h1 h => ?_
      refine x1_2 (Option.map_eq_some_iff.mp h) fun l h2 h => ?_
      cases h
      obtain ⟨e1, e2⟩ := stIxs_env he h2
      refine ⟨by rw [e1]; rfl, fun y hy => ?_⟩
      cases hy with
      | head => exact stIx_env he h1
      | tail _ hy => exact e2 y hy
    | _ => exact no_some h
theorem tgE_env (he : env.scope.names = D.sc) {t : Expr} {g : Tg} (h : tgE D t = some g) : TgAt env D.ns g t := by
  cases t with
  | Name x p =>
    refine x1_2 (Option.map_eq_some_iff.mp h) fun i h1 h => ?_
    cases h
    exact .one (stIx_env he h1)
  | Tuple es k p =>
    refine x1_2 (Option.map_eq_some_iff.mp h) fun xs h1 h => ?_
    cases h
    obtain ⟨rfl, e2⟩ := stIxs_env he h1
    exact .many e2
  | _ => exact no_some h
theorem stores_no {es : List Expr} {k : Nat} {q : Pos} {e : Expr} {env : Env} (h : notTup e = true) : swappedStores [.Tuple es k q] e env = pure none := by
  cases e <;> first | rfl | exact no_tf h
theorem tg_shape {t : Expr} {g : Tg} (h : tgE D t = some g) : (∃ x p, t = .Name x p) ∨ ∃ es k p, t = .Tuple es k p := by
  cases t with
  | Name x p => exact .inl ⟨x, p, rfl⟩
  | Tuple es k p => exact .inr ⟨es, k, p, rfl⟩
  | _ => exact no_some h
theorem stores_name {x : Str} {p : Pos} {e : Expr} {env : Env} : swappedStores [.Name x p] e env = pure none := by
  cases e <;> rfl
variable {Φ : FT} {d : Nat}
theorem asg_comp (Y : Fit C.S G) (F : FOK C.S C.hot d Φ) (hd : d + 1 ≤ C.d) (he : env.scope.names = D.sc) {i : Nat} {x : Str} {px : Pos} {elt' : Expr} {gens : List Comprehension} {sc : Scope} {pos p : Pos} (T : TgOK env D.ns x i) (h2 : Snd2 C env D.ns (toE C.S.T G Φ C.hot 60 D (.ListComp elt' gens sc pos)) (.ListComp elt' gens sc pos)) : SndS C env D.ns (assignS C.hot (.one i) (toE C.S.T G Φ C.hot 60 D (.ListComp elt' gens sc pos))) (.Assign [.Name x px] (.ListComp elt' gens sc pos) p) := fun {ρ s M H} st => by
  cases hb : (env.blockKind == .function && env.kindOf x == some .local && px.line == pos.line && !(sc.names.any fun (n, k) => n == x && (k == .local || k == .cell))) with
  | false => exact sndS_assign h2.1 (.one T) (swaps_comp.trans (congrArg pure hb)) stores_name st
  | true =>
    cases hg : genOf gens with
    | none =>
      have e : toE C.S.T G Φ C.hot 60 D (.ListComp elt' gens sc pos) = badE := by rw [toE_comp, hg]; rfl
      rw [e]; trivial
    | some g =>
      have e : toE C.S.T G Φ C.hot 60 D (.ListComp elt' gens sc pos) = if (decide (g.2.is_async = 0) && (notSet g.2.iter && compOK D g.1.1 sc && decide (g.2.ifs.length ≤ 1))) = true then
          compE C.hot (mtAt D pos) (toE C.S.T G Φ C.hot 59 (D.inner g.1.1 sc) elt') (toE C.S.T G Φ C.hot 59 D g.2.iter) ((g.2.ifs.head?.map (toE C.S.T G Φ C.hot 59 (D.inner g.1.1 sc))).getD (cstE (.bool true))) else badE := by rw [toE_comp, hg]; rfl
      rw [e]
      split
      · rename_i q
        rw [Bool.and_eq_true, decide_eq_true_eq] at q
        have Z := comp_of (C := C) (G := G) (Φ := Φ) (elt := elt') he (fun pv D env e he => toE_ok 59 (C := C.withPv pv) Y F hd D env e he) q.2
        rw [genOf_eq hg, q.1]
        exact sndS_assignC Z.itr Z.nset Z.names Z.item Z.tests T (swaps_comp.trans (congrArg pure hb)) st
      · trivial
theorem asg_ok (Y : Fit C.S G) (F : FOK C.S C.hot d Φ) (hd : d + 1 ≤ C.d) (he : env.scope.names = D.sc) {g : Tg} {t e : Expr} {p : Pos} (ht : tgE D t = some g) (ha : asgE t e = true) : SndS C env D.ns (assignS C.hot g (toE C.S.T G Φ C.hot 60 D e)) (.Assign [t] e p) := fun {ρ s M H} st => by
  have T := tgE_env he ht
  have h2 := toE_ok 60 Y F hd D env e he
  unfold asgE at ha
  rcases tg_shape ht with ⟨x, px, rfl⟩ | ⟨es, k, q, rfl⟩
  · rcases Bool.eq_false_or_eq_true (notComp e) with hn | hn
    · exact sndS_assign h2.1 T (swaps_no hn) stores_name st
    · rw [hn, Bool.false_and, Bool.false_or, Bool.false_or, Bool.and_eq_true] at ha
      refine x4_1 (isLC_eq ha.2) fun elt' gens sc pos e4' => ?_; subst e4'
      cases T with
      | one T => exact asg_comp Y F hd he T h2 st
  · rw [show (nameOf (.Tuple es k q)).isSome = false from rfl, Bool.false_and, Bool.or_false, Bool.and_eq_true] at ha
    exact sndS_assign h2.1 T (swaps_no ha.1) (stores_no ha.2) st
theorem raise_S (Y : Fit C.S G) (he : env.scope.names = D.sc) {e c : Option Expr} {p : Pos} : SndS C env D.ns (raiseT C.S.T C.hot D e c) (.Raise e c p) := by
  cases c with
  | some c => exact sndS_bad
  | none =>
    refine opt_sndS fun y hy => if_sndS fun q => opt_sndS fun i hi => ?_
    refine x1_2 (Option.bind_eq_some_iff.mp hy) fun e e1' hy => ?_; subst e1'
    refine x4_1 (raiseOf_eq hy) fun np kd kp cp e4' => ?_; subst e4'
    rw [Bool.and_eq_true] at q
    refine x0_3 (glob_env he q.1) fun g1 g2 _ => ?_
    obtain ⟨a, ha⟩ := Option.isSome_iff_exists.mp q.2
    exact sndS_raise Y (ixOf_ok hi) (snd_cst ha) rfl g1 g2
theorem toS_ok {Φ : Bool → FT} (he : env.scope.names = D.sc) : ∀ (n : Nat) {C : Cx} (Y : Fit C.S G) (F : ∀ hot, FOK C.S hot d (Φ hot)) (hd : d + 1 ≤ C.d) (hh : HeadAt C env) (t : Stmt), SndS C env D.ns (toS C.S.T G Φ n C.hot D t) t
  | 0, _, _, _, _, _, _ => sndS_bad
  | n + 1, C, Y, F, hd, hh, t => by
    have ih : ∀ t, SndS C env D.ns (toS C.S.T G Φ n C.hot D t) t := fun t => toS_ok he n Y F hd hh t
    have eE : ∀ e, Snd2 C env D.ns (toE C.S.T G (Φ C.hot) C.hot 60 D e) e := fun e => toE_ok 60 Y (F C.hot) hd D env e he
    cases t with
    | Expr e p => exact if_sndS fun q => sndS_expr (eE e).1 q
    | Assign ts e p =>
      rcases ts with _ | ⟨t, _ | ⟨_, _⟩⟩
      · exact sndS_bad
      · refine alt_sndS (fun y hy => ?_) (alt_sndS (fun y hy => ?_) (if_sndS fun q => opt_sndS fun g hg => asg_ok Y (F C.hot) hd he hg q))
        · rw [subOf_eq hy]; exact sndS_setitem (eE _).1 (eE _).1 (eE e).1
        · rw [attOf_eq hy]; exact opt_sndS fun k hk => sndS_setattr Y (ixOf_ok hk) (eE _).1 (eE e).1
      · exact sndS_bad
    | AugAssign t op e p =>
      refine opt_sndS fun y hy => if_sndS fun q => ?_
      rw [Bool.and_eq_true] at q
      rw [subOf_eq hy, isAdd_eq q.1]
      exact sndS_aug (eE _).1 (eE _).1 (eE e).1 q.2
    | Return v p =>
      cases v with
      | none => exact sndS_ret0
      | some e => exact sndS_ret (eE e).1
    | Pass p => exact sndS_pass
    | If t b o p => exact sndS_if (eE t).2 (sndB_of ih b) (sndB_of ih o)
    | For t it b els p =>
      refine if_sndS fun q => opt_sndS fun g hg => ?_
      rw [Bool.and_eq_true, List.isEmpty_iff] at q
      obtain ⟨q1, rfl⟩ := q
      exact sndS_for hh (eE it).1 (tgE_env he hg) (fun pv => sndB_of (fun t => toS_ok he n (C := C.withPv pv) Y F hd hh t) b) q1
    | Raise e c p => exact raise_S Y he
    | While t b els p =>
      refine if_sndS fun q => ?_
      rw [List.isEmpty_iff] at q
      subst q
      exact sndS_while (eE t).2 (sndB_of ih b)
    | _ => exact sndS_bad
end
theorem lookup_zip : ∀ (ns : List Str) (vs : List Value), vs.length = ns.length → ∀ n ∈ ns, ((ns.zip vs).lookup n).isSome = true
  | [], _, _, n, h => nomatch h
  | a :: r, [], h, _, _ => by simp at h
  | a :: r, v :: vs, h, n, hn => by
    simp only [List.zip_cons_cons, List.lookup_cons]
    cases q : n == a with
    | true => rfl
    | false =>
      cases hn with
      | head => simp at q
      | tail _ hn => exact lookup_zip r vs (by simpa using h) n hn
theorem fm_congr {α β : Type} {f g : α → Option β} : ∀ (l : List α), (∀ x ∈ l, f x = g x) → l.filterMap f = l.filterMap g
  | [], _ => rfl
  | a :: r, h => by
    simp only [List.filterMap_cons]
    rw [h a (.head _), fm_congr r fun x hx => h x (.tail _ hx)]
theorem filterMap_zip : ∀ (ns : List Str) (vs : List Value), ns.Nodup → vs.length = ns.length → ns.filterMap (fun n => ((ns.zip vs).lookup n).map (n, ·)) = ns.zip vs
  | [], vs, _, h => by simp
  | a :: r, [], _, h => by simp at h
  | a :: r, v :: vs, hn, h => by
    obtain ⟨h1, h2⟩ := List.nodup_cons.mp hn
    simp only [List.zip_cons_cons, List.filterMap_cons, List.lookup_cons, beq_self_eq_true, Option.map_some]
    congr 1
    refine (fm_congr r fun n hn' => ?_).trans (filterMap_zip r vs h2 (by simpa using h))
    have : (n == a) = false := by
      cases q : n == a with
      | false => rfl
      | true => rw [beq_iff_eq] at q; subst q; exact absurd hn' h1
    rw [this]
theorem no_missing {names : List Str} {vals : List Value} {n : Nat} (hl : vals.length = names.length) : ((names.take n).filter fun x => ((names.zip vals).lookup x).isNone).isEmpty = true := by
  rw [List.isEmpty_iff, List.filter_eq_nil_iff]
  intro x hx
  have := lookup_zip names vals hl x (List.mem_of_mem_take hx)
  rw [Option.isNone_iff_eq_none]
  intro e
  rw [e] at this
  cases this
theorem bind_plain {fd : FuncData} {names : List Str} {vals : List Value} (h : plainPrm fd.params names = true) (hd : fd.defaults = .none) (hl : vals.length = names.length) : bindArgs fd ⟨vals, []⟩ = pure (names.zip vals) := by
  obtain ⟨nm, qn, ⟨po, ar, va, ko, kd, kw, df⟩, bo, sc, gl, cl, dfl, kwd⟩ := fd
  unfold plainPrm at h
  simp only [Bool.and_eq_true, decide_eq_true_eq, List.isEmpty_iff, Option.isNone_iff_eq_none] at h
  obtain ⟨⟨⟨⟨⟨rfl, rfl⟩, rfl⟩, rfl⟩, rfl⟩, h6⟩ := h
  obtain rfl : dfl = .none := hd
  have c1 : ¬ (decide (vals.length > (ar.map (·.arg)).length) && true) = true := by rw [hl]; simp
  refine (if_neg c1).trans ?_
  refine (if_neg (fun q => ?_)).trans ?_
  · rw [Bool.not_eq_true'] at q
    exact nomatch (no_missing hl).symm.trans q
  · have := filterMap_zip _ vals h6 hl
    simp only [List.drop_nil, List.map_nil, List.nil_append, List.append_nil]
    simp [-List.filterMap_map, this]
structure FdOK (K : Frag) (prm : List Str) (ns : List (Option Str)) (fd : FuncData) (body : List Stmt) : Prop where
  glob : fd.globals = mainGlobals
  bns : fd.builtins = builtinsNs
  clo : fd.closure = []
  code : codeIn K fd.code fd.qualname = true
  ppar : plainPrm fd.params prm = true
  dflt : fd.defaults = .none
  kind : fd.scope.kind = .function
  co : fd.scope.isCoroutine = false
  gen : fd.scope.isGenerator = false
  par : ∀ x ∈ prm, fd.scope.names.lookup x = some .local ∨ fd.scope.names.lookup x = some .cell
  free : ∀ y ∈ fd.scope.names, y.2 ≠ .free
  ns1 : ns.take prm.length = prm.map some
  ns2 : (ns.filterMap id).Nodup
  ns3 : prm.length ≤ ns.length
  bod : fd.body = .stmts body
theorem fdOK_of {K : Frag} {f : Addr} {prm : List Str} {ns : List (Option Str)} {r : List (Str × NameKind) × List Stmt} (h : fnAt K f prm ns = some r) : ∃ o fd, K.lookup f = some o ∧ o.data = .func fd ∧ fd.scope.names = r.1 ∧ FdOK K prm ns fd r.2 := by
  unfold fnAt at h
  split at h
  · rename_i c dd fd sl e
    split at h
    · rename_i q
      split at h
      · rename_i body eb
        cases h
        unfold fdOK scopeOK nsOK at q
        simp only [Bool.and_eq_true, decide_eq_true_eq, List.isEmpty_iff, beq_iff_eq, Bool.not_eq_true', List.all_eq_true, Bool.or_eq_true, bne_iff_ne] at q
        obtain ⟨⟨⟨⟨⟨⟨⟨a1, a2⟩, a3⟩, a4⟩, a5⟩, a6⟩, ⟨⟨⟨⟨b1, b2⟩, b3⟩, b4⟩, b5⟩⟩, ⟨⟨c1, c2⟩, c3⟩⟩ := q
        refine ⟨_, fd, e, rfl, rfl, a1, a2, a3, a4, a5, ?_, b1, b2, b3, b4, b5, c1, c2, c3, eb⟩
        cases q : fd.defaults <;> rw [q] at a6 <;> first | rfl | cases a6
      · cases h
    · cases h
  · cases h
theorem bindL_out {kindOf : Str → Option NameKind} {x : Str} : ∀ (ns : List Str) (vs : List Value) (m : Str → Option Value), x ∉ ns → bindL kindOf (ns.zip vs) m x = m x
  | [], _, _, _ => rfl
  | _ :: _, [], _, _ => rfl
  | n :: r, v :: vs, m, h => by
    simp only [List.zip_cons_cons, bindL]
    rw [bindL_out r vs _ fun q => h (.tail _ q)]
    split
    · have : x ≠ n := fun q => h (q ▸ .head _)
      simp [this]
    · rfl
theorem bindC_out {kindOf : Str → Option NameKind} {x : Str} : ∀ (ns : List Str) (vs : List Value) (m : Str → Option Value), x ∉ ns → bindC kindOf (ns.zip vs) m x = m x
  | [], _, _, _ => rfl
  | _ :: _, [], _, _ => rfl
  | n :: r, v :: vs, m, h => by
    simp only [List.zip_cons_cons, bindC]
    rw [bindC_out r vs _ fun q => h (.tail _ q)]
    split
    · rfl
    · have : x ≠ n := fun q => h (q ▸ .head _)
      simp [this]
theorem bindL_in {kindOf : Str → Option NameKind} {x : Str} {v : Value} (hk : kindOf x = some .local) : ∀ (ns : List Str) (vs : List Value) (m : Str → Option Value) (i : Nat), ns.Nodup → ns[i]? = some x → vs[i]? = some v → bindL kindOf (ns.zip vs) m x = some v
  | [], _, _, _, _, h, _ => by simp at h
  | _ :: _, [], _, _, _, _, h => by simp at h
  | n :: r, u :: vs, m, 0, hn, h1, h2 => by
    simp at h1 h2
    subst h1; subst h2
    simp only [List.zip_cons_cons, bindL]
    rw [bindL_out r vs _ (List.nodup_cons.mp hn).1, if_pos hk]
    simp
  | n :: r, u :: vs, m, i + 1, hn, h1, h2 => by
    simp at h1 h2
    simp only [List.zip_cons_cons, bindL]
    exact bindL_in hk r vs _ i (List.nodup_cons.mp hn).2 h1 h2
theorem bindC_in {kindOf : Str → Option NameKind} {x : Str} {v : Value} (hk : ¬ kindOf x = some .local) : ∀ (ns : List Str) (vs : List Value) (m : Str → Option Value) (i : Nat), ns.Nodup → ns[i]? = some x → vs[i]? = some v → bindC kindOf (ns.zip vs) m x = some v
  | [], _, _, _, _, h, _ => by simp at h
  | _ :: _, [], _, _, _, _, h => by simp at h
  | n :: r, u :: vs, m, 0, hn, h1, h2 => by
    simp at h1 h2
    subst h1; subst h2
    simp only [List.zip_cons_cons, bindC]
    rw [bindC_out r vs _ (List.nodup_cons.mp hn).1, if_neg hk]
    simp
  | n :: r, u :: vs, m, i + 1, hn, h1, h2 => by
    simp at h1 h2
    simp only [List.zip_cons_cons, bindC]
    exact bindC_in hk r vs _ i (List.nodup_cons.mp hn).2 h1 h2
theorem apart_of {cs : List (Str × Addr)} (h : cs.Pairwise fun x y => x.2 ≠ y.2) : ∀ n n' c, (n, c) ∈ cs → (n', c) ∈ cs → n = n' := by
  induction cs with
  | nil => intro n n' c h; cases h
  | cons a r ih =>
    obtain ⟨h1, h2⟩ := List.pairwise_cons.mp h
    intro n n' c m1 m2
    cases m1 with
    | head =>
      cases m2 with
      | head => rfl
      | tail _ m2 => exact absurd rfl (h1 (n', _) m2)
    | tail _ m1 =>
      cases m2 with
      | head => exact absurd rfl (h1 (n, _) m1)
      | tail _ m2 => exact ih h2 n n' c m1 m2
theorem nodup_inj : ∀ {ns : List (Option Str)}, (ns.filterMap id).Nodup → ∀ (i j : Nat) (x : Str), ns[i]? = some (some x) → ns[j]? = some (some x) → i = j
  | [], _, i, j, x, h, _ => by simp at h
  | a :: r, hn, i, j, x, h1, h2 => by
    have key : ∀ {k : Nat}, (a :: r)[k+1]? = some (some x) → a = some x → False := fun {k} h e => by
      subst e
      simp only [List.filterMap_cons, id] at hn
      refine (List.nodup_cons.mp hn).1 ?_
      simp at h
      exact List.mem_filterMap.mpr ⟨some x, List.mem_of_getElem? h, rfl⟩
    have hn' : (r.filterMap id).Nodup := by
      cases a with
      | none => simpa [List.filterMap_cons] using hn
      | some y => simp only [List.filterMap_cons, id] at hn; exact (List.nodup_cons.mp hn).2
    match i, j with
    | 0, 0 => rfl
    | 0, j + 1 => simp at h1; exact (key h2 h1).elim
    | i + 1, 0 => simp at h2; exact (key h1 h2).elim
    | i + 1, j + 1 => simp at h1 h2; rw [nodup_inj hn' i j x h1 h2]
noncomputable def rho0 (args : List AV) (n : Nat) : RE := args.map some ++ List.replicate (n - args.length) none
noncomputable abbrev Cx.within (C : Cx) (env : Env) : Cx := { S := C.S, A := C.A.deeper env, fe := env :: C.fe, d := C.d - 1, hot := C.hot, pv := C.pv }
section
variable {C : Cx} {s s₁ s' : Shared} {M M' : Mp} {H H' : AH} {f : Addr} {fd : FuncData}
theorem fs_within {env : Env} {L b : Addr} (hf : env.frame = some L) (hb : b ∈ (C.within env).fs) : b = L ∨ b ∈ C.fs := by
  unfold Cx.fs at hb
  rw [List.filterMap_cons, hf] at hb
  cases hb with
  | head => exact .inl rfl
  | tail _ hb => exact .inr hb
theorem fresh_from {h : Heap} {b : Addr} (hb : h.objs.size ≤ b) : h.get? b = none := by
  cases q : h.get? b with
  | none => rfl
  | some o => exact absurd (Heap.lt_size q) (Nat.not_lt.mpr hb)
theorem enter_ok {prm : List Str} {ns : List (Option Str)} {body : List Stmt} {args : List AV} {vals : List Value} (Y : FdOK C.S.K prm ns fd body) (L : Live C s.heap M) (R : Rep C.S C.pv s.heap M H) (rv : VRels (C.wd s.heap M) vals args) (hl : args.length = prm.length) (hd : 0 < C.d)
    (x : InCallC s (callEnvC fd s.heap.objs.size f).locals (bindL (callEnvC fd s.heap.objs.size f).kindOf (prm.zip vals) fun _ => none) (callEnvC fd s.heap.objs.size f).cells (bindC (callEnvC fd s.heap.objs.size f).kindOf (prm.zip vals) fun _ => none) s₁) :
    St (C.within (callEnvC fd s.heap.objs.size f)) (callEnvC fd s.heap.objs.size f) ns (rho0 args ns.length) s₁ M H := by
  refine x2_2 (x.done) fun h' tk e2' hk => ?_; subst e2'
  have hL0 := size_none s.heap
  have hc0 : ∀ n c, (n, c) ∈ (callEnvC fd s.heap.objs.size f).cells → s.heap.get? c = none := fun n c hm => fresh_from (Nat.le_of_lt (x.above n c hm))
  have hns := x.toInCall.ns
  refine ⟨⟨?_, ?_, fun b o e => hk b o (L.stays b o e), fun b hb f' => ?_, L.new, L.handled, fun b hb => ?_, ?_, ?_, fun a ha => ?_, L.poff⟩, R.ext hk, _, (bindC (callEnvC fd s.heap.objs.size f).kindOf (prm.zip vals) fun _ => none), Y.kind, Y.glob, Y.bns, hns, fun a ha => ?_, nodup_inj Y.ns2, ?_, ?_, fun n c hc => ?_, ?_, ?_⟩
  · show C.A.frames.map _ = _
    rw [L.frames]; rfl
  · refine Heap.FunFrames.cons (m := _) (L := s.heap.objs.size) ?_ rfl hns (L.base0 hL0) (L.funs.of_keeps fun b o hb _ => ⟨o, hk b o hb, rfl⟩)
    show fd.scope.kind ≠ .module
    rw [Y.kind]; exact fun q => nomatch q
  · rcases fs_within rfl hb with rfl | hb
    · exact R.off hL0 f'
    · exact L.off b hb f'
  · rcases fs_within rfl hb with rfl | hb
    · obtain ⟨o, es, ep, h1, h2, _⟩ := hns; exact ⟨o, es, ep, h1, h2⟩
    · obtain ⟨o, es, ep, h1, h2⟩ := L.dicts b hb; exact ⟨o, es, ep, hk b o h1, h2⟩
  · show C.A.depth + 1 + (C.d - 1) < recursionLimit
    have := L.depth; lia
  · show C.A.units + 3 + 20 * (C.d - 1) + 100 < cLine
    have := L.units; lia
  · obtain ⟨o, ho⟩ := L.priv a ha
    exact ⟨o, hk a o ho⟩
  · have h0 : s.heap.get? a = none := by
      rcases ha with rfl | ⟨n, hc⟩
      · exact hL0
      · exact hc0 n a (mem_of_lookup hc)
    exact ⟨R.off h0, L.base0 h0⟩
  · unfold rho0
    rw [List.length_append, List.length_map, List.length_replicate]
    have := Y.ns3; lia
  · rintro y (hy | hy)
    · have := cellsFrom_some fd.scope.names (s.heap.objs.size + 1) [] (.inl hy)
      exact Option.isSome_iff_exists.mp this
    · exact absurd rfl (Y.free _ (mem_of_lookup hy))
  · have hm := mem_of_lookup hc
    have h0 := hc0 n c hm
    refine ⟨x.cell n c hc, fun q => ?_, Nat.ne_of_gt (x.above n c hm)⟩
    rcases fs_within rfl q with rfl | q
    · exact absurd (x.above n _ hm) (Nat.lt_irrefl _)
    · exact L.fs0 h0 q
  · intro n n' c h1 h2
    exact apart_of x.apart n n' c (mem_of_lookup h1) (mem_of_lookup h2)
  · intro i y a h1 h2
    have hi : i < args.length := by
      unfold rho0 at h2
      rw [List.getElem?_append] at h2
      split at h2
      · rename_i q; simpa using q
      · rw [List.getElem?_replicate] at h2
        split at h2 <;> simp at h2
    have ha : args[i]? = some a := by
      unfold rho0 at h2
      rw [List.getElem?_append_left (by simpa using hi)] at h2
      simp at h2
      exact h2
    have hy : prm[i]? = some y := by
      have : (ns.take prm.length)[i]? = some (some y) := by rw [List.getElem?_take, if_pos (by lia)]; exact h1
      rw [Y.ns1] at this
      simp at this
      exact this
    refine x1_2 (rv.get i ha) fun v hv r => ?_
    have hnd : prm.Nodup := by
      have := Y.ppar
      unfold plainPrm at this
      simp only [Bool.and_eq_true, decide_eq_true_eq] at this
      exact this.2
    refine ⟨v, r.keep (kp_ext hk), ?_⟩
    rcases Y.par y (List.mem_of_getElem? hy) with q | q
    · exact .inl ⟨q, bindL_in q prm vals _ i hnd hy hv⟩
    · have := cellsFrom_some fd.scope.names (s.heap.objs.size + 1) [] (.inl q)
      refine .inr ⟨.inl q, Option.isSome_iff_exists.mp this, bindC_in ?_ prm vals _ i hnd hy hv⟩
      show ¬ fd.scope.names.lookup y = some .local
      rw [q]; exact fun z => nomatch z
variable {m cm : Str → Option Value}
theorem own_new (x : InCallC s (callEnvC fd s.heap.objs.size f).locals m (callEnvC fd s.heap.objs.size f).cells cm s₁) : ∀ b o, s.heap.get? b = some o → ¬ OwnW (callEnvC fd s.heap.objs.size f) b := by
  rintro b o e (rfl | ⟨n, hc⟩)
  · exact absurd (Heap.lt_size e) (Nat.lt_irrefl _)
  · exact absurd (Nat.lt_trans (Heap.lt_size e) (x.above n b (mem_of_lookup hc))) (Nat.lt_irrefl _)
theorem fs_out {b : Addr} {o : Obj} (e : s.heap.get? b = some o) (n : b ∉ C.fs) : b ∉ (C.within (callEnvC fd s.heap.objs.size f)).fs := fun q => by
  rcases fs_within rfl q with rfl | q
  · exact absurd (Heap.lt_size e) (Nat.lt_irrefl _)
  · exact n q
theorem fs_in {env : Env} {b : Addr} (h : b ∈ C.fs) : b ∈ (C.within env).fs := by
  unfold Cx.fs
  rw [List.filterMap_cons]
  split
  · exact h
  · exact .tail _ h
theorem leave_ok (x : InCallC s (callEnvC fd s.heap.objs.size f).locals m (callEnvC fd s.heap.objs.size f).cells cm s₁)
    (y : Step (C.within (callEnvC fd s.heap.objs.size f)) (OwnW (callEnvC fd s.heap.objs.size f)) s₁ M s' M') : Step C noW s M s' M' := by
  have nW := own_new x
  refine x2_2 (x.done) fun h' tk e2' hk => ?_; subst e2'
  exact ⟨fun b o e nf _ nfs => y.keep b o (hk b o e) nf (nW b o e) (fs_out e nfs), fun b o e hb _ => y.slots b o (hk b o e) (fs_in hb) (nW b o e), fun b o e => y.alive b o (hk b o e), y.pre, fun a fa => (y.grow a fa).imp id fun q => gone (fun b o e => ⟨o, hk b o e⟩) q, y.gens, y.os⟩
theorem leave_exn {e D : Addr} {c : Nat} {B : Heap} (x : InCallC s (callEnvC fd s.heap.objs.size f).locals m (callEnvC fd s.heap.objs.size f).cells cm s₁)
    (y : Exn (C.within (callEnvC fd s.heap.objs.size f)) (OwnW (callEnvC fd s.heap.objs.size f)) s₁ M e c s' M' H' B) (hX : C.S.X c = some D) (hf : Fly B s'.heap e D .none) : Exn C noW s M e c s' M' H' B := by
  have nW := own_new x
  have z := leave_ok x y.step
  refine x2_2 (x.done) fun h' tk e2' hk => ?_; subst e2'
  refine x1_2 (id y.flt) fun D' hX' fl => ?_
  exact ⟨fun b o e nf _ nfs => y.keepB b o (hk b o e) nf (nW b o e) (fs_out e nfs), y.base, y.rep, ⟨D, hX, fl.stays, fl.new, fl.funs.2.2, .inr ⟨_, hf, .inl rfl⟩⟩, z.slots, z.alive, z.pre, z.grow, z.gens, z.os, gone (fun b o e => ⟨o, hk b o e⟩) y.fresh⟩
theorem call_ok {G : Gm} {d n : Nat} {hot : Bool} {prm : List Str} {ns : List (Option Str)} {mts : List (Nat × Nat × Nat)} {r : List (Str × NameKind) × List Stmt} {Φ : Bool → FT} {S : Stat} {args : List AV} (h : fnAt S.K f prm ns = some r) (Y : Fit S G) (F : ∀ hot, FOK S hot d (Φ hot)) (hd : d + 2 ≤ n) (hl : args.length = prm.length) :
    CallOK S hot n f args H (seqS (r.2.map (toS S.T G Φ 60 hot ⟨r.1, ns, mts⟩)) (rho0 args ns.length) H).done := by
  intro C s M vals e1 e2 e3 L R rv
  subst e1 e2
  refine x2_4 (fdOK_of h) fun o fd ho hdata hnm Z => ?_
  have hroom : C.A.depth < recursionLimit := by have := L.depth; lia
  have go : ∀ {Rf : Result → Shared → Prop}, (∀ s₁, InCallC s (callEnvC fd s.heap.objs.size f).locals (bindL (callEnvC fd s.heap.objs.size f).kindOf (prm.zip vals) fun _ => none) (callEnvC fd s.heap.objs.size f).cells (bindC (callEnvC fd s.heap.objs.size f).kindOf (prm.zip vals) fun _ => none) s₁ →
      wpAny C.S.M (C.within (callEnvC fd s.heap.objs.size f)).A (execs r.2 (callEnvC fd s.heap.objs.size f)) (fun fl s' => Rf (.ok (.ret (match fl with | .ret v => v | _ => .none))) s')
        (fun e s' => wpAny C.S.M (C.A.deeper (callEnvC fd s.heap.objs.size f)) (leaving (callEnvC fd s.heap.objs.size f) e) (fun _ s'' => Rf (.error e) s'') (fun e' s'' => Rf (.error e') s'') s') s₁) → codeAny C.S.M C.A (.call (.ref f) ⟨vals, []⟩) Rf s := fun {Rf} k =>
    codeAny_call_cells (body := r.2) (binds := prm.zip vals) hroom (L.K f o ho) hdata (C.S.hT.nolimit.keeps L.stays) (codeRec_of L.K Z.code) Z.bod (bind_plain Z.ppar Z.dflt (by rw [rv.1, hl])) Z.clo (fun y hy => by
      rcases Z.par y.1 (List.of_mem_zip hy).1 with q | q
      · exact .inl q
      · exact .inr ⟨q, cellsFrom_some fd.scope.names (s.heap.objs.size + 1) [] (.inl q)⟩) k Z.co Z.gen Z.kind
  have B := fun s₁ (x : InCallC s (callEnvC fd s.heap.objs.size f).locals (bindL (callEnvC fd s.heap.objs.size f).kindOf (prm.zip vals) fun _ => none) (callEnvC fd s.heap.objs.size f).cells (bindC (callEnvC fd s.heap.objs.size f).kindOf (prm.zip vals) fun _ => none) s₁) =>
    sndB_of (fun t => toS_ok (D := ⟨r.1, ns, mts⟩) (env := callEnvC fd s.heap.objs.size f) (Φ := Φ) hnm 60 (C := C.within (callEnvC fd s.heap.objs.size f)) Y F (by show d + 1 ≤ C.d - 1; lia) ⟨⟨_, rfl⟩, _, rfl⟩ t) r.2 (enter_ok Z L R rv hl (by lia) x)
  generalize seqS (r.2.map (toS C.S.T G Φ 60 C.hot ⟨r.1, ns, mts⟩)) (rho0 args ns.length) H = ob at B
  cases ob with
  | bad => trivial
  | next ρ' H' => exact go fun s₁ x => wpAny_mono (B s₁ x) (fun fl s' ⟨e, M', y, st'⟩ => by subst e; exact ⟨.none, rfl, M', leave_ok x y, st'.rep, .none⟩) fun _ _ q => q.elim
  | ret a H' => exact go fun s₁ x => wpAny_mono (B s₁ x) (fun fl s' z_27 => x3_4 z_27 fun v ρ' M' e y st' rv => by subst e; exact ⟨v, rfl, M', leave_ok x y, st'.rep, rv⟩) fun _ _ q => q.elim
  | exc c ρ' H' =>
    refine go fun s₁ x => wpAny_mono (B s₁ x) (fun _ _ q => q.elim) fun ev s' z_28 => x3_3 z_28 fun e M' B' q y E => ?_
    subst q
    unfold leaving
    have fr : (C.within (callEnvC fd s.heap.objs.size f)).A.frames = some (C.within (callEnvC fd s.heap.objs.size f)).fe := by
      show C.A.frames.map _ = _
      rw [L.frames]; rfl
    refine wpAny_bind (Exn.noted (C := C.within (callEnvC fd s.heap.objs.size f)) ⟨⟨_, rfl⟩, _, rfl⟩ fr y fun h' D L' hX hn hf hst hh hL z f' y' => ?_)
    refine flight_ok (fr := none) hf hst f' fun h'' z' f'' => ?_
    exact ⟨_, rfl, e, M', B', rfl, leave_exn x (y'.stn hX hn hf z' f'' (.inl rfl)) hX f''⟩
end
theorem each_at {α : Type} {l : List α} {f : Nat → α → Bool} (h : each l f = true) {i : Nat} {a : α} (e : l[i]? = some a) : f i a = true := by
  unfold each at h
  rw [List.all_eq_true] at h
  exact h (a, i) (List.mem_zipIdx_iff_getElem?.mpr e)
theorem glRef_iff {K : Frag} {x : Str} {a : Addr} (h : glRef K x = some a) : nsIn K mainGlobals x = some (some (.ref a)) := by
  unfold glRef at h
  split at h
  · rename_i e; cases h; exact e
  · cases h
theorem kds_all : ∀ k : Kd, k ∈ kds
  | .none => .head _
  | .bool => .tail _ (.head _)
  | .int => .tail _ (.tail _ (.head _))
  | .str => .tail _ (.tail _ (.tail _ (.head _)))
  | .tup => .tail _ (.tail _ (.tail _ (.tail _ (.head _))))
  | .lst => .tail _ (.tail _ (.tail _ (.tail _ (.tail _ (.head _)))))
theorem tys_all : ∀ t : Ty, t ∈ tys
  | .int => .head _
  | .bool => .tail _ (.head _)
  | .str => .tail _ (.tail _ (.head _))
  | .tup => .tail _ (.tail _ (.tail _ (.head _)))
  | .lst => .tail _ (.tail _ (.tail _ (.tail _ (.head _))))
theorem fitK_at {K : Frag} {T : Tb} {t : Value} {f : Ty → Bool} (h : fitK K T t f = true) {ty : Ty} {v : Value} (e : tyA K T ty = some v) : kitOne K t v = some (f ty) := by
  unfold fitK at h
  rw [List.all_eq_true] at h
  have := h ty (tys_all ty)
  rw [e] at this
  simpa using this
theorem fitMth_at {K : Frag} {T : Tb} {src : List At} {c m f : Nat} {D : Addr} (h : fitMth K T src c m (some f) = true) (e : clA K T c = some D) : ∃ x fa, T.mn[m]? = some x ∧ x ∉ T.an ∧ faA K T src f = some fa ∧ findIn K (.ref D) x = some (some (.ref fa)) ∧ isFn K (.ref fa) = true ∧ fnIn K fa = true := by
  simp only [fitMth, e] at h
  cases q2 : T.mn[m]? with
  | none => rw [q2] at h; exact no_tf h
  | some x =>
    cases q3 : faA K T src f with
    | none => rw [q2, q3] at h; exact no_tf h
    | some fa =>
      rw [q2, q3] at h
      simp only [Bool.and_eq_true, Bool.not_eq_true', beq_iff_eq] at h
      refine w4 h fun t1 t2 t3 t4 => ?_
      refine ⟨x, fa, rfl, fun q => ?_, rfl, t2, t3, t4⟩
      rw [List.any_eq_false] at t1
      exact t1 x q (by simp)
theorem fitFn_at {K : Frag} {T : Tb} {src : List At} {f : Nat} {x : Str} (h : fitFn K T src f (some x) = true) : ∃ a, faA K T src f = some a ∧ nsIn K mainGlobals x = some (some (.ref a)) ∧ fnIn K a = true := by
  simp only [fitFn] at h
  cases q : faA K T src f with
  | none => rw [q] at h; exact no_tf h
  | some a =>
    rw [q] at h
    simp only [Bool.and_eq_true, beq_iff_eq] at h
    exact ⟨a, rfl, h.1, h.2⟩
theorem fit_of {S : Stat} {G : Gm} {src : List At} (hX : S.X = exA S.K S.T) (hC : S.cl = clA S.K S.T) (hF : S.fa = faA S.K S.T src) (h : fitB S.K S.T G src = true) : Fit S G := by
  unfold fitB at h
  simp only [Bool.and_eq_true, decide_eq_true_eq] at h
  refine w12 h fun h1 h2 h3 h4 h5 h6 h7 h8 h9 h10 h11 h12 => ?_
  clear h
  rw [List.all_eq_true] at h1 h7 h10 h11 h12
  have cls : ∀ c D, S.cl c = some D → clsOK S.K D = true ∧ keepIn S.K (.ref D) = true ∧ ∀ a ∈ S.T.an, findIn S.K (.ref D) a = some none := fun c D e => by
    rw [hC] at e
    refine x1_2 (Option.bind_eq_some_iff.mp e) fun x e1 e2 => ?_
    have := h1 x (List.mem_of_getElem? e1)
    unfold fitCls at this
    rw [e2] at this
    simp only [Bool.and_eq_true, List.all_eq_true, beq_iff_eq] at this
    exact ⟨this.1.1, this.1.2, this.2⟩
  have exc : ∀ c D, S.X c = some D → excIn S.K D veMro "ValueError.__new__" = true ∧ seesIn S.K D = true := fun c D e => by
    rw [hX] at e
    refine x1_2 (Option.bind_eq_some_iff.mp e) fun x e1 e2 => ?_
    have := h7 x (List.mem_of_getElem? e1)
    unfold fitExc at this
    rw [e2] at this
    simpa only [Bool.and_eq_true] using this
  have tyv : ∀ t v, S.tyV t = some v → tyA S.K S.T t = some v := fun t v e => by cases t <;> exact e
  exact
  { cls := fun c D e => clsOK_parts (cls c D e).1
    attr := fun c D x e hx => (cls c D e).2.2 x hx
    inj := fun i j x e1 e2 => by
      have a := List.getElem?_eq_some_iff.mp e1
      exact (List.getElem?_inj a.1 h2).mp (e1.trans e2.symm)
    na := h3
    few := h4
    mth := fun c D m f e hf => by
      refine x1_2 (Option.bind_eq_some_iff.mp (show (G.mth[c]?).bind (fun l => (l[m]?).bind id) = some f from hf)) fun l g1 hf => ?_
      refine x1_2 (Option.bind_eq_some_iff.mp hf) fun o g2 hf => ?_
      obtain rfl : o = some f := hf
      rw [hC] at e
      rw [hF]
      exact fitMth_at (each_at (each_at h5 g1) g2) e
    ini := h6
    exc := exc
    up := fun c d D E l e1 e2 e3 => by
      rw [hX] at e1 e2
      refine x1_2 (Option.bind_eq_some_iff.mp e2) fun x e4 _ => ?_
      have := each_at (each_at h8 e3) e4
      unfold fitUp at this
      rw [e1, e2] at this
      simpa using this
    fn := fun f x e => by
      rw [hF]
      exact fitFn_at (each_at h9 e)
    cn := fun c x e => by
      have := h1 x (List.mem_of_getElem? e)
      unfold fitCls at this
      split at this
      · rename_i D q
        have e' : S.cl c = some D := by rw [hC]; show (S.T.cls[c]?).bind _ = _; rw [e]; exact q
        exact ⟨D, e', glRef_iff q, (cls c D e').2.1⟩
      · cases this
    xn := fun c x e => by
      have := h7 x (List.mem_of_getElem? e)
      unfold fitExc at this
      split at this
      · rename_i D q
        exact ⟨D, by rw [hX]; show (S.T.exs[c]?).bind _ = _; rw [e]; exact q, glRef_iff q⟩
      · cases this
    gi := fun x i e => by
      have := h10 (x, i) e
      unfold fitGi at this
      split at this
      · rename_i j t q
        rw [beq_iff_eq] at this
        exact ⟨t, by rw [q, this]⟩
      · cases this
    bi := fun x hx => by simpa using h11 x hx
    kb := fun k t v e => fitK_at (h12 k (kds_all k)) (tyv t v e) }
structure FnD where
  np : Nat
  nn : Nat
  den : (Bool → FT) → Bool → DS
noncomputable def fnD (T : Tb) (G : Gm) (mts : List (Nat × Nat × Nat)) (f : Df) : FnD := ⟨f.prm.length, f.ns.length, fun Φ hot => seqS (f.body.map (toS T G Φ 60 hot ⟨f.names, f.ns, mts⟩))⟩
noncomputable def callD (f : FnD) (Φ : Bool → FT) (hot : Bool) (args : List AV) (H : AH) : Out AV := if args.length = f.np then (f.den Φ hot (rho0 args f.nn) H).done else .bad
theorem callD_eq {T : Tb} {G : Gm} {mts : List (Nat × Nat × Nat)} {f : Df} {Φ : Bool → FT} {hot : Bool} {args : List AV} {H : AH} : callD (fnD T G mts f) Φ hot args H = if args.length = f.prm.length then (seqS (f.body.map (toS T G Φ 60 hot ⟨f.names, f.ns, mts⟩)) (rho0 args f.ns.length) H).done else .bad := by
  unfold callD fnD; rfl
noncomputable def callF (tab : List (Option FnD)) : Nat → Bool → FT
  | 0, _, _, _, _ => .bad
  | k + 1, hot, i, args, H => match tab[i]? with
    | some (some f) => callD f (callF tab k) hot args H
    | _ => .bad
theorem callF_ok {S : Stat} {G : Gm} {src : List At} {mts : List (Nat × Nat × Nat)} {dfs : List (Option Df)} (hF : S.fa = faA S.K S.T src) (Y : Fit S G) (hb : ∀ (i : Nat) a f, src[i]? = some a → dfs[i]? = some (some f) → bodyK S.K S.T a (some f) = some (f.names, f.body)) :
    ∀ (k : Nat) (hot : Bool), FOK S hot (2 * k) (callF (dfs.map fun o => o.map (fnD S.T G mts)) k hot)
  | 0, _ => fun _ _ _ _ _ _ _ _ _ _ _ _ _ _ _ => trivial
  | k + 1, hot => fun i fa args H hi => by
    show CallOK S hot (2 * (k + 1)) fa args H (match (dfs.map fun o => o.map (fnD S.T G mts))[i]? with | some (some f) => callD f (callF (dfs.map fun o => o.map (fnD S.T G mts)) k) hot args H | _ => .bad)
    rw [hF] at hi
    refine x1_2 (Option.bind_eq_some_iff.mp hi) fun a h1 h2 => ?_
    rw [List.getElem?_map]
    cases q : dfs[i]? with
    | none => exact fun _ _ _ _ _ _ _ _ _ _ => trivial
    | some o =>
      cases o with
      | none => exact fun _ _ _ _ _ _ _ _ _ _ => trivial
      | some f =>
        simp only [Option.map_some, callD_eq]
        split
        · rename_i hl
          have := hb i a f h1 q
          refine x1_2 (Option.bind_eq_some_iff.mp (show (faAt S.K S.T a).bind (fun fa => fnAt S.K fa f.prm f.ns) = some (f.names, f.body) from this)) fun fa' h3 h4 => ?_
          rw [h2] at h3; cases h3
          exact call_ok (r := (f.names, f.body)) h4 Y (fun hot => callF_ok hF Y hb k hot) (by lia) hl
        · exact fun _ _ _ _ _ _ _ _ _ _ => trivial
theorem law_ok {l : OpenLaw} {w : World} {s₁ : Shared} {cl : Str → Option Addr} {mean : ExcName → Option Value} {mg : Str → Option Value} {args : List WData} {vs : List Value} {xs : List Int} {fa a : Addr} (S : Stat) (G : Gm) {i : Nat} {Φ : FT} (hp : S.prog = l.row.prog) (hw : S.w = w) (hb : S.base = s₁.heap) (hm : S.mg = mg) (hg : s₁.gens = #[])
    (hmg : mg l.name = some (.ref fa)) (Y : Fit S G) (hf : S.T.fns[i]? = some (some l.name)) (F : FOK S false 40 Φ) (hI : IntsAre vs xs) (hL : s₁.heap.IsList a vs.toArray) (hW : Well w.params s₁.heap (.ref a) (ofPy (.list (xs.map .int)))) (hn : ¬ (63 : Int) < xs.length)
    (h : ∀ xs : List Int, xs.length ≤ 63 → ∃ H', Φ i [.lst (xs.map .int)] [] = .ok (.bool true) H') :
    wpAny (model l.row.prog w) callerA (call (.ref fa) [.ref a]) (fun v s' => GoodWG l.row.claim cl mean args s₁ (.ok (.ret v)) s')
      (fun e s' => GoodWG l.row.claim cl mean args s₁ (.error e) s') s₁ := by
  refine x1_3 (Y.fn i _ hf) fun f e0 e1 _ => ?_
  have e2 : mg l.name = some (.ref f) := by rw [← hm]; exact mg_of S.hK S.hT.g e1
  rw [hmg] at e2
  cases e2
  have nof : ∀ b, ¬ foot [] b := fun b ⟨p, hp, _⟩ => nomatch hp
  have hargs : VRels (wdOf S ([], []) s₁.heap []) [.ref a] [.lst (xs.map .int)] := by
    obtain ⟨o, ho, hc, n, hd⟩ := hL
    have : ∃ us : List Value, s₁.heap.get? a = some { cls := .type "list", data := .seq us.toArray } := by
      generalize hv : Value.ref a = v at hW
      generalize hdd : ofPy (.list (xs.map .int)) = dd at hW
      cases hW with
      | list q _ => cases hv; exact ⟨_, q⟩
      | _ => cases hdd
    obtain ⟨us, hu⟩ := this
    rw [hu] at ho
    cases ho
    have : us.toArray = vs.toArray := by injection hd
    have hx : ¬ (wdOf S ([], []) s₁.heap []).F a := fun q => q.elim (nof a) fun q => nomatch q
    have hr : VRels (wdOf S ([], []) s₁.heap []) us.toArray.toList (xs.map .int) := by
      rw [this]
      simpa using ints_rel hI
    exact .cons (.lst (w := wdOf S ([], []) s₁.heap []) (vs := us.toArray) (n := 0) hu hx hr.1 hr.2) .nil
  rw [← hp, ← hw]
  have L : Live { S := S, A := callerA, fe := [], d := 40, hot := false, pv := ([], []) } s₁.heap [] := by
    refine ⟨rfl, trivial, ?_, ?_, ?_, fun _ => rfl, ?_, ?_, ?_, ?_, ?_⟩
    · intro b o e
      have e' : S.base.get? b = some o := e
      rw [hb] at e'; exact e'
    · intro b q; cases q
    · intro b q; exact (nof b q).elim
    · intro b q; cases q
    · show callerA.depth + 40 < recursionLimit
      decide +kernel
    · show callerA.units + 20 * 40 + 100 < cLine
      decide +kernel
    · rintro b (q | q) <;> cases q
    · intro b q; cases q
  have R : Rep S ([], []) s₁.heap [] [] := ⟨rfl, fun n p ao e => (nomatch e), fun i j p q e => (nomatch e), fun n p e => (nomatch e), fun n p es e => (nomatch e)⟩
  obtain ⟨H', hH⟩ := h xs (by lia)
  have A := F i fa [.lst (xs.map .int)] [] e0 { S := S, A := callerA, fe := [], d := 40, hot := false, pv := ([], []) } s₁ [] [.ref a] rfl rfl (Nat.le_refl _) L R hargs
  rw [hH] at A
  refine wpAny_call (codeAny_mono A fun r s' ⟨v, e, M', x, rp, r⟩ => ?_)
  subst e
  rw [show v = .bool true from r.inv]
  have keep : ∀ b o, s₁.heap.get? b = some o → s'.heap.get? b = some o := fun b o e => x.keep b o e (fun q => (nof b q).elim) (fun q => q) (fun q => by cases q)
  exact ⟨.inl ⟨_, .bool true, [], rfl, fun _ => rfl, .bool true, by first | with_unfolding_all rfl | kernel_rfl, fun _ => ⟨.nil, fun _ h => by cases h⟩⟩, .of_keep keep, x.os, .of_eq (x.gens.trans hg)⟩
theorem fragAt_in (n : Nat) (h : Heap) : (fragAt n h).In h := by
  unfold fragAt
  generalize List.range n = l
  intro a o e
  induction l with
  | nil => cases e
  | cons b r ih =>
    rw [List.filterMap_cons] at e
    cases e' : h.get? b with
    | none => rw [e'] at e; exact ih e
    | some o' =>
      rw [e'] at e
      simp only [Option.map_some, List.lookup_cons] at e
      cases q : a == b with
      | true => rw [q] at e; cases e; exact eq_of_beq q ▸ e'
      | false => rw [q] at e; exact ih e
noncomputable def hookOf {α : Type} (n : Nat) (f : Frag → α) (v : α) : Hook :=
  ⟨α, fun s => f (fragAt n s.heap), fun _ => v, fun _ h => ∃ K : Frag, K.In h ∧ f K = v, fun _ s e => ⟨_, fragAt_in n s.heap, e⟩, fun _ _ _ ⟨K, a, b⟩ k => ⟨K, a.keeps k, b⟩⟩
theorem head_of {l : OpenLaw} {q : Program} {α : Type} {n N : Nat} {f : Frag → α} {v : α} (said : l.wellSaid = true) (hd : (defOf q l.row.name).isSome = true)
    (left : LeftO l.row.prog q [] (xtOf l q) (fun s => f (fragAt n s.heap)) (fun _ => v) N)
    (hp : l.row.prog.theDef l.row.name = some (((defOf q l.row.name).get hd).1.params, ((defOf q l.row.name).get hd).1.body, ((defOf q l.row.name).get hd).1.scope))
    (hk : kwWritten? ((defOf q l.row.name).get hd).1.params.kwonlyargs ((defOf q l.row.name).get hd).1.params.kw_defaults = some ((defOf q l.row.name).get hd).2)
    (hwr : (!l.row.writes || l.row.records.isEmpty) = true) (ok : (chainsOk q && opensWell l.row.prog && (frees l.row.toRowW && l.row.within.isEmpty)) = true) (hb : l.row.prog.bare) (hw : l.row.toRowW.promised)
    (call : WalkO q [] (XL q []) (fun _ h => ∃ K : Frag, K.In h ∧ f K = v) l.row.toRowW ((defOf q l.row.name).get hd).1 ((defOf q l.row.name).get hd).2 fun f vs => PySem.call f vs) : l.Holds :=
  holds_law said fun said' =>
    holds_open (q := q) (loose := []) (Xt := xtOf l q) (XP := XL q []) (Yf := Hook.obs (hookOf n f v)) (Ya := Hook.val (hookOf n f v)) (YP := Hook.says (hookOf n f v)) (N := N) left (Hook.of (hookOf n f v)) (Hook.keeps (hookOf n f v))
      (fun s e => xl_of s (Bool.and_eq_true_iff.mp e).1) XL.keeps (Option.some_get hd).symm hp hk (fun s e => recFacts_of (Bool.and_eq_true_iff.mp e).2) hwr said' ok hb hw call
noncomputable def Tx.dfs (t : Tx) : List (Option Df) := t.src.map (dfAt t.prog t.T)
noncomputable def Tx.tab (t : Tx) : List (Option FnD) := t.dfs.map fun o => o.map (fnD t.T t.G t.mts)
noncomputable abbrev Tx.run (t : Tx) (k : Nat) (hot : Bool) : FT := callF t.tab k hot
theorem Tx.facts {t : Tx} {S : Stat} (hT : S.T = t.T) (hX : S.X = exA S.K S.T) (hC : S.cl = clA S.K S.T) (hF : S.fa = faA S.K S.T t.src) (h : t.ask S.K = t.said) : Fit S t.G ∧ ∀ k hot, FOK S hot (2 * k) (t.run k hot) := by
  obtain ⟨h1, h2⟩ := Prod.mk.inj h
  rw [← hT] at h1 h2
  have Y := fit_of hX hC hF h1
  refine ⟨Y, ?_⟩
  unfold Tx.run Tx.tab
  rw [← hT]
  refine callF_ok hF Y fun i a f e1 e2 => ?_
  have e3 : dfAt t.prog S.T a = some f := by
    unfold Tx.dfs at e2
    rw [List.getElem?_map, e1, hT.symm] at e2
    exact Option.some.inj e2
  have := congrArg (fun l => l[i]?) h2
  simp only [List.getElem?_map, e1, Option.map_some, e3] at this
  exact Option.some.inj this
theorem run_of {t : Tx} {k i np nn : Nat} {hot : Bool} {args : List AV} {H : AH} {d : (Bool → FT) → Bool → DS} (h : args.length = np) (e : t.tab[i]? = some (some ⟨np, nn, d⟩)) : t.run (k + 1) hot i args H = (d (t.run k) hot (rho0 args nn) H).done := by
  show (match t.tab[i]? with | some (some f) => callD f (callF t.tab k) hot args H | _ => .bad) = _
  rw [e]
  exact if_pos h
theorem left_and {p q : Program} {loose : List Str} {Xt : Shared → Bool} {α : Type} {Yf : Shared → α} {Ya : World → α} {N : Nat} (h : LeftO p q loose Xt (fun _ => ()) (fun _ => ()) N) (h2 : ∀ w, (openEnds treeTable p w N).map Yf = some (Ya w)) : LeftO p q loose Xt Yf Ya N := fun w => by
  have a := h w
  have b := h2 w
  generalize openEnds treeTable p w N = o at a b
  cases o with
  | none => cases b
  | some s =>
    simp only [Option.map_some, Option.some.injEq, Prod.mk.injEq, and_true] at a b ⊢
    exact ⟨a, b⟩
theorem map_and {α β : Type} {o : Option Shared} {f : Shared → α} {g : Shared → β} {a : α} {b : β} (h1 : o.map f = some a) (h2 : o.map g = some b) : o.map (fun s => (f s, g s)) = some (a, b) := by
  cases o with
  | none => cases h1
  | some s => cases h1; cases h2; rfl
theorem topN_run {tb : String → Option Builtin} {p : Program} {w : World} {n₀ : Nat} {ann : Option Value} {m : Nat} {s' : Shared} {t' : Thread} : ∀ (k : Nat) (s : Shared) (t : Thread), topN tb p w n₀ ann k s t = some (s', t') → topRun tb p w n₀ ann (k + m) s t = topRun tb p w n₀ ann m s' t'
  | 0, s, t, h => by
    cases h
    rw [Nat.zero_add]
  | k + 1, s, t, h => by
    rw [Nat.succ_add]
    unfold topN at h
    show (match through t with | true => some s | false => _) = _
    cases h1 : through t with
    | true => rw [h1] at h; cases h
    | false =>
      rw [h1] at h
      cases h2 : stepOk n₀ ann t with
      | false => rw [h2] at h; cases h
      | true =>
        rw [h2] at h
        cases h3 : step (denote tb) p w s t with
        | halt o s' => rw [h3] at h; cases h
        | go s1 t1 =>
          rw [h3] at h
          exact topN_run k s1 t1 h
theorem ends_cut {p : Program} {w : World} {N k m : Nat} {s : Shared} {t : Thread} (hN : N = k + m) (h0 : ((fencedOpening treeTable p w N).isSome && (s0 p w N).heap.isNs mainGlobals && (s0 p w N).gens.size == 0) = true)
    (h1 : (topN treeTable p w (s0 p w N).heap.objs.size (ann0 p w N) k (s0 p w N) (topStub p)).map (fun x => x.1) = some s) (h2 : (topN treeTable p w (s0 p w N).heap.objs.size (ann0 p w N) k (s0 p w N) (topStub p)).map (fun x => x.2) = some t) : openEnds treeTable p w N = ends p w N m s t := by
  have h : topN treeTable p w (s0 p w N).heap.objs.size (ann0 p w N) k (s0 p w N) (topStub p) = some (s, t) := by
    generalize topN treeTable p w (s0 p w N).heap.objs.size (ann0 p w N) k (s0 p w N) (topStub p) = o at h1 h2
    cases o with
    | none => cases h1
    | some x => cases h1; cases h2; rfl
  clear h1 h2
  unfold openEnds ends
  have h1 : fencedOpening treeTable p w N = some (s0 p w N) := by
    unfold s0
    cases e : fencedOpening treeTable p w N with
    | none => rw [e] at h0; simp at h0
    | some s => rfl
  rw [h1]
  simp only [Bool.and_eq_true] at h0
  show topFrom treeTable p w N (s0 p w N) = _
  unfold topFrom
  rw [show ((s0 p w N).heap.isNs mainGlobals && (s0 p w N).gens.size == 0) = true from Bool.and_eq_true_iff.mpr ⟨h0.1.2, h0.2⟩]
  show (topRun treeTable p w _ (ann0 p w N) N _ _).bind _ = _
  have e : topRun treeTable p w (s0 p w N).heap.objs.size (ann0 p w N) N (s0 p w N) (topStub p) = topRun treeTable p w (s0 p w N).heap.objs.size (ann0 p w N) (k + m) (s0 p w N) (topStub p) := congrArg (fun n => topRun treeTable p w (s0 p w N).heap.objs.size (ann0 p w N) n (s0 p w N) (topStub p)) hN
  rw [e, topN_run k _ _ h]
  rfl
noncomputable def dc_is_whole (Φ : Bool → FT) (hot : Bool) : DS := (seqS [retS (bopE true [(isiE gmC (varE 0) [.int]), (ntE (isiE gmC (varE 0) [.bool]))])])
noncomputable def dc_is_stretch (Φ : Bool → FT) (hot : Bool) : DS := (seqS [ifS (bopE false [(cmpE (biE hot .len [(varE 0)]) [.NotEq] [(cstE (.int 2))]), (ntE (callE (Φ hot) 0 [(subE (varE 0) (cstE (.int 0)))])), (ntE (callE (Φ hot) 0 [(subE (varE 0) (cstE (.int 1)))]))]) (seqS [retS (cstE (.bool false))]) (seqS []), retS (cmpE (cstE (.int 0)) [.LtE, .Lt, .LtE] [(subE (varE 0) (cstE (.int 0))), (subE (varE 0) (cstE (.int 1))), (cstE (.int 1000000))])])
noncomputable def dc_meets (Φ : Bool → FT) (hot : Bool) : DS := (seqS [retS (bopE true [(cmpE (subE (varE 0) (cstE (.int 0))) [.Lt] [(subE (varE 1) (cstE (.int 1)))]), (cmpE (subE (varE 1) (cstE (.int 0))) [.Lt] [(subE (varE 0) (cstE (.int 1)))])])])
noncomputable def dc_day_of (Φ : Bool → FT) (hot : Bool) : DS := (seqS [retS (binE false .FloorDiv (subE (varE 0) (cstE (.int 0))) (cstE (.int 24)))])
noncomputable def dc_in_one_day (Φ : Bool → FT) (hot : Bool) : DS := (seqS [retS (cmpE (callE (Φ hot) 3 [(varE 0)]) [.Eq] [(binE false .FloorDiv (binE false .Sub (subE (varE 0) (cstE (.int 1))) (cstE (.int 1))) (cstE (.int 24)))])])
noncomputable def dc_is_name (Φ : Bool → FT) (hot : Bool) : DS := (seqS [ifS (ntE (cmpE (cstE (.int 1)) [.LtE, .LtE] [(biE hot .len [(varE 0)]), (cstE (.int 20))])) (seqS [retS (cstE (.bool false))]) (seqS []), forS hot (.one 1) (varE 0) (seqS [ifS (ntE (cmpE (cstE (.str "!")) [.LtE, .LtE] [(varE 1), (cstE (.str "~"))])) (seqS [retS (cstE (.bool false))]) (seqS [])]), retS (cstE (.bool true))])
noncomputable def dc_checked_skills_b1 (Φ : Bool → FT) (hot : Bool) : DS := (seqS [ifS (ntE (callE (Φ hot) 5 [(varE 2)])) (seqS [raiseS hot 1]) (seqS []), ifS (cmpE (varE 2) [.In] [(varE 1)]) (seqS [raiseS hot 4]) (seqS []), exprS (mbE .append (varE 1) [(varE 2)])])
noncomputable def dc_checked_skills (Φ : Bool → FT) (hot : Bool) : DS := (seqS [assignS hot (.one 1) (lstE true []), forS hot (.one 2) (varE 0) (dc_checked_skills_b1 Φ hot), retS (varE 1)])
noncomputable def dc_checked_needs_b1 (Φ : Bool → FT) (hot : Bool) : DS := (seqS [ifS (ntE (callE (Φ hot) 5 [(varE 3)])) (seqS [raiseS hot 1]) (seqS []), ifS (cmpE (varE 3) [.In] [(varE 1)]) (seqS [raiseS hot 4]) (seqS []), ifS (bopE false [(ntE (callE (Φ hot) 0 [(varE 4)])), (ntE (cmpE (cstE (.int 1)) [.LtE, .LtE] [(varE 4), (cstE (.int 9))]))]) (seqS [raiseS hot 3]) (seqS []), exprS (mbE .append (varE 1) [(varE 3)]), exprS (mbE .append (varE 2) [(tupE [(varE 3), (varE 4)])])])
noncomputable def dc_checked_needs (Φ : Bool → FT) (hot : Bool) : DS := (seqS [assignS hot (.one 1) (lstE true []), assignS hot (.one 2) (lstE true []), forS hot (.many [3, 4]) (varE 0) (dc_checked_needs_b1 Φ hot), retS (varE 2)])
noncomputable def dc_l_cell (Φ : Bool → FT) (hot : Bool) : DS := (seqS [retS (subE (binE false .Add (slcE false (varE 0) (varE 1) (binE false .Add (varE 1) (cstE (.int 1))) (cstE .none)) (lstE false [(cstE (.int 0))])) (cstE (.int 0)))])
noncomputable def dc_l_sign (Φ : Bool → FT) (hot : Bool) : DS := (seqS [assignS hot (.one 1) (cstE (.str "abcdefghijklmnopqrstuvwxyz{|}~")), assignS hot (.one 2) (cstE (.str "@ABCDEFGHIJKLMNOPQRSTUVWXYZ[\\]^_`")), retS (subE (binE false .Add (binE false .Add (cstE (.str "!\"#$&'()*+,-./0123456789:;<=>?")) (varE 2)) (varE 1)) (binE false .Mod (varE 0) (cstE (.int 93))))])
noncomputable def dc_Person_init (Φ : Bool → FT) (hot : Bool) : DS := (seqS [setAttrS 0 (varE 0) (varE 1), setAttrS 1 (varE 0) (varE 2), setAttrS 2 (varE 0) (lstE true [])])
noncomputable def dc_Shift_init (Φ : Bool → FT) (hot : Bool) : DS := (seqS [setAttrS 3 (varE 0) (varE 1), setAttrS 4 (varE 0) (varE 2)])
noncomputable def dc_Book_init (Φ : Bool → FT) (hot : Bool) : DS := (seqS [setAttrS 5 (varE 0) dct0E, setAttrS 6 (varE 0) dct0E])
noncomputable def dc_Book_add_person (Φ : Bool → FT) (hot : Bool) : DS := (seqS [ifS (ntE (callE (Φ hot) 5 [(varE 1)])) (seqS [raiseS hot 1]) (seqS []), assignS hot (.one 4) (callE (Φ hot) 6 [(varE 2)]), ifS (bopE false [(ntE (callE (Φ hot) 0 [(varE 3)])), (ntE (cmpE (cstE (.int 1)) [.LtE, .LtE] [(varE 3), (cstE (.int 31))]))]) (seqS [raiseS hot 3]) (seqS []), ifS (cmpE (varE 1) [.In] [(attrE 5 (varE 0))]) (seqS [raiseS hot 4]) (seqS []), setItemS (attrE 5 (varE 0)) (varE 1) (newE gmC (Φ hot) 0 [(varE 4), (varE 3)])])
noncomputable def dc_Book_add_rest (Φ : Bool → FT) (hot : Bool) : DS := (seqS [assignS hot (.one 3) (moE gmC (Φ hot) 4 (varE 0) [(varE 1)]), ifS (ntE (callE (Φ hot) 1 [(varE 2)])) (seqS [raiseS hot 2]) (seqS []), exprS (mbE .append (attrE 2 (varE 3)) [(varE 2)])])
noncomputable def dc_Book_add_shift (Φ : Bool → FT) (hot : Bool) : DS := (seqS [ifS (ntE (callE (Φ hot) 5 [(varE 1)])) (seqS [raiseS hot 1]) (seqS []), ifS (bopE false [(ntE (callE (Φ hot) 1 [(varE 2)])), (ntE (callE (Φ hot) 4 [(varE 2)]))]) (seqS [raiseS hot 2]) (seqS []), assignS hot (.one 4) (callE (Φ hot) 7 [(varE 3)]), ifS (cmpE (varE 1) [.In] [(attrE 6 (varE 0))]) (seqS [raiseS hot 4]) (seqS []), setItemS (attrE 6 (varE 0)) (varE 1) (newE gmC (Φ hot) 1 [(varE 2), (varE 4)])])
noncomputable def dc_Book_person (Φ : Bool → FT) (hot : Bool) : DS := (seqS [ifS (cmpE (varE 1) [.NotIn] [(attrE 5 (varE 0))]) (seqS [raiseS hot 5]) (seqS []), retS (subE (attrE 5 (varE 0)) (varE 1))])
noncomputable def dc_Book_shift (Φ : Bool → FT) (hot : Bool) : DS := (seqS [ifS (cmpE (varE 1) [.NotIn] [(attrE 6 (varE 0))]) (seqS [raiseS hot 5]) (seqS []), retS (subE (attrE 6 (varE 0)) (varE 1))])
noncomputable def dc_Book_people (Φ : Bool → FT) (hot : Bool) : DS := (seqS [retS (biE hot (.list false) [(attrE 5 (varE 0))])])
noncomputable def dc_Book_posts (Φ : Bool → FT) (hot : Bool) : DS := (seqS [assignS hot (.one 1) (lstE true []), forS hot (.one 2) (attrE 6 (varE 0)) (seqS [forS hot (.many [3, 4]) (attrE 4 (subE (attrE 6 (varE 0)) (varE 2))) (seqS [exprS (mbE .append (varE 1) [(tupE [(varE 2), (varE 3)])])])]), retS (varE 1)])
noncomputable def dc_Book_limit_of (Φ : Bool → FT) (hot : Bool) : DS := (seqS [retS (attrE 1 (moE gmC (Φ hot) 4 (varE 0) [(varE 1)]))])
noncomputable def dc_Book_stretch_of (Φ : Bool → FT) (hot : Bool) : DS := (seqS [retS (attrE 3 (moE gmC (Φ hot) 5 (varE 0) [(varE 1)]))])
noncomputable def dc_Book_count_of (Φ : Bool → FT) (hot : Bool) : DS := (seqS [forS hot (.many [3, 4]) (attrE 4 (moE gmC (Φ hot) 5 (varE 0) [(varE 1)])) (seqS [ifS (cmpE (varE 3) [.Eq] [(varE 2)]) (seqS [retS (varE 4)]) (seqS [])]), raiseS hot 5])
noncomputable def dc_Book_may (Φ : Bool → FT) (hot : Bool) : DS := (seqS [assignS hot (.one 4) (moE gmC (Φ hot) 4 (varE 0) [(varE 1)]), assignS hot (.one 5) (attrE 3 (moE gmC (Φ hot) 5 (varE 0) [(varE 2)])), ifS (cmpE (varE 3) [.NotIn] [(attrE 0 (varE 4))]) (seqS [retS (cstE (.bool false))]) (seqS []), retS (cmpE (compE hot false (varE 6) (attrE 2 (varE 4)) (callE (Φ hot) 2 [(varE 6), (varE 5)])) [.Eq] [(lstE false [])])])
noncomputable def dc_day_at (Φ : Bool → FT) (hot : Bool) : DS := (seqS [retS (callE (Φ hot) 3 [(moE gmC (Φ hot) 12 (varE 0) [(varE 1)])])])
noncomputable def dc_Deal_init_b1 (Φ : Bool → FT) (hot : Bool) : DS := (seqS [setItemS (attrE 10 (varE 0)) (varE 4) dct0E, setItemS (attrE 11 (varE 0)) (varE 4) (moE gmC (Φ hot) 11 (varE 1) [(varE 4)])])
noncomputable def dc_Deal_init_b2 (Φ : Bool → FT) (hot : Bool) : DS := (seqS [exprS (mbE .append (attrE 9 (varE 0)) [(compE hot false (varE 5) (moE gmC (Φ hot) 6 (varE 1) []) (moE gmC (Φ hot) 14 (varE 1) [(varE 5), (varE 2), (varE 3)]))])])
noncomputable def dc_Deal_init (Φ : Bool → FT) (hot : Bool) : DS := (seqS [setAttrS 7 (varE 0) (moE gmC (Φ hot) 8 (varE 1) []), setAttrS 8 (varE 0) (compE hot false (callE (Φ hot) 27 [(varE 1), (subE (varE 5) (cstE (.int 0)))]) (attrE 7 (varE 0)) (cstE (.bool true))), setAttrS 9 (varE 0) (lstE true []), forS hot (.many [2, 3]) (attrE 7 (varE 0)) (dc_Deal_init_b2 Φ hot), setAttrS 10 (varE 0) dct0E, setAttrS 11 (varE 0) dct0E, forS hot (.one 4) (moE gmC (Φ hot) 6 (varE 1) []) (dc_Deal_init_b1 Φ hot)])
noncomputable def dc_Deal_left_by (Φ : Bool → FT) (hot : Bool) : DS := (seqS [assignS hot (.one 3) (subE (attrE 10 (varE 0)) (varE 1)), assignS hot (.one 4) (subE (attrE 8 (varE 0)) (varE 2)), ifS (cmpE (varE 4) [.In] [(varE 3)]) (seqS [retS (lstE false [(subE (varE 3) (varE 4))])]) (seqS []), ifS (cmpE (biE hot .len [(varE 3)]) [.Lt] [(subE (attrE 11 (varE 0)) (varE 1))]) (seqS [retS (cstE .none)]) (seqS []), retS (compE hot false (subE (varE 3) (varE 5)) (varE 3) (cstE (.bool true)))])
noncomputable def dc_Deal_sought_b1 (Φ : Bool → FT) (hot : Bool) : DS := (seqS [assignS hot (.one 7) (moE gmC (Φ hot) 15 (varE 0) [(varE 6), (varE 5)]), ifS (cmpE (varE 7) [.Is] [(cstE .none)]) (seqS [exprS (moE gmC (Φ hot) 17 (varE 0) [(varE 2), (varE 5), (varE 6)]), retS (cstE (.bool true))]) (seqS []), forS hot (.one 8) (varE 7) (seqS [ifS (cmpE (varE 8) [.NotIn] [(varE 2)]) (seqS [setItemS (varE 2) (varE 8) (tupE [(varE 5), (varE 6)]), exprS (mbE .append (varE 3) [(varE 8)])]) (seqS [])])])
noncomputable def dc_Deal_sought_b2 (Φ : Bool → FT) (hot : Bool) : DS := (seqS [ifS (cmpE (mbE .get (subE (attrE 10 (varE 0)) (varE 6)) [(subE (attrE 8 (varE 0)) (varE 5))]) [.NotEq] [(varE 5)]) (dc_Deal_sought_b1 Φ hot) (seqS [])])
noncomputable def dc_Deal_sought_b3 (Φ : Bool → FT) (hot : Bool) : DS := (seqS [assignS hot (.one 5) (subE (varE 3) (varE 4)), assignS hot (.one 4) (binE false .Add (varE 4) (cstE (.int 1))), forS hot (.one 6) (subE (attrE 9 (varE 0)) (varE 5)) (dc_Deal_sought_b2 Φ hot)])
noncomputable def dc_Deal_sought (Φ : Bool → FT) (hot : Bool) : DS := (seqS [assignS hot (.one 2) (dct1E (varE 1) (cstE .none)), assignS hot (.one 3) (lstE true [(varE 1)]), assignS hot (.one 4) (cstE (.int 0)), whileS (cmpE (varE 4) [.Lt] [(biE hot .len [(varE 3)])]) (dc_Deal_sought_b3 Φ hot) whileFuel, retS (varE 2)])
noncomputable def dc_Deal_done_b1 (Φ : Bool → FT) (hot : Bool) : DS := (seqS [assignS hot (.one 4) (subE (subE (varE 1) (varE 2)) (cstE (.int 0))), assignS hot (.one 5) (subE (subE (varE 1) (varE 2)) (cstE (.int 1))), exprS (moE gmC (Φ hot) 18 (varE 0) [(varE 5), (varE 2), (varE 4)]), assignS hot (.one 2) (varE 4)])
noncomputable def dc_Deal_done (Φ : Bool → FT) (hot : Bool) : DS := (seqS [setItemS (subE (attrE 10 (varE 0)) (varE 3)) (subE (attrE 8 (varE 0)) (varE 2)) (varE 2), whileS (cmpE (subE (varE 1) (varE 2)) [.IsNot] [(cstE .none)]) (dc_Deal_done_b1 Φ hot) whileFuel])
noncomputable def dc_Deal_shift_on (Φ : Bool → FT) (hot : Bool) : DS := (seqS [assignS hot (.one 4) (subE (attrE 10 (varE 0)) (varE 1)), ifS (cmpE (mbE .get (varE 4) [(subE (attrE 8 (varE 0)) (varE 2))]) [.Eq] [(varE 2)]) (seqS [exprS (mbE .pop (varE 4) [(subE (attrE 8 (varE 0)) (varE 2))])]) (seqS []), setItemS (varE 4) (subE (attrE 8 (varE 0)) (varE 3)) (varE 3)])
noncomputable def dc_dealt_b1 (Φ : Bool → FT) (hot : Bool) : DS := (seqS [assignS hot (.many [3, 4]) (subE (attrE 7 (varE 1)) (varE 2)), forS hot (.one 8) (moE gmC (Φ hot) 6 (varE 0) []) (seqS [ifS (cmpE (mbE .get (subE (attrE 10 (varE 1)) (varE 8)) [(subE (attrE 8 (varE 1)) (varE 2))]) [.Eq] [(varE 2)]) (seqS [exprS (mbE .append (varE 7) [(tupE [(varE 3), (varE 4), (varE 8)])])]) (seqS [])])])
noncomputable def dc_dealt_b2 (Φ : Bool → FT) (hot : Bool) : DS := (seqS [assignS hot (.one 6) (moE gmC (Φ hot) 16 (varE 1) [(varE 2)]), ifS (cmpE (varE 6) [.IsNot] [(cstE (.bool true))]) (seqS [retS (tupE [(cstE (.str "short")), (compE hot false (subE (attrE 7 (varE 1)) (varE 9)) (biE hot .sorted [(varE 6)]) (cstE (.bool true)))])]) (seqS [])])
noncomputable def dc_dealt_b3 (Φ : Bool → FT) (hot : Bool) : DS := (seqS [assignS hot (.many [3, 4]) (subE (attrE 7 (varE 1)) (varE 2)), forS hot (.one 5) (biE hot .range [(moE gmC (Φ hot) 13 (varE 0) [(varE 3), (varE 4)])]) (dc_dealt_b2 Φ hot)])
noncomputable def dc_dealt (Φ : Bool → FT) (hot : Bool) : DS := (seqS [assignS hot (.one 1) (newE gmC (Φ hot) 3 [(varE 0)]), forS hot (.one 2) (biE hot .range [(biE hot .len [(attrE 7 (varE 1))])]) (dc_dealt_b3 Φ hot), assignS hot (.one 7) (lstE true []), forS hot (.one 2) (biE hot .range [(biE hot .len [(attrE 7 (varE 1))])]) (dc_dealt_b1 Φ hot), retS (tupE [(cstE (.str "rota")), (varE 7)])])
section
variable {ρ : RE} {H H₁ H₂ H₃ H₄ : AH} {a b c v : AV} {as : List AV} {o : Out AV} {e l r t f : DE} {es : List DE} {hot mt : Bool} {Φ : FT} {G : Gm}
theorem in_at {n cl : Nat} {fs : List (Option AV)} (h : H[n]? = some (.inst cl fs)) : inOf H (.ref n) = some (n, cl, fs) := by show (match H[n]? with | some (.inst c fs) => some (n, c, fs) | _ => none) = _; rw [h]
theorem e_bin {op : Operator} (h1 : l ρ H = .ok a H₁) (h2 : r ρ H₁ = .ok b H₂) (h : binA mt op a b H₂ = o) : binE mt op l r ρ H = o := by unfold binE; rw [h1]; show (r ρ H₁).bind _ = o; rw [h2]; exact h
theorem e_sub (h1 : l ρ H = .ok a H₁) (h2 : r ρ H₁ = .ok b H₂) (h : subA a b H₂ = o) : subE l r ρ H = o := by unfold subE; rw [h1]; show (r ρ H₁).bind _ = o; rw [h2]; exact h
theorem e_slc {lo hi st : DE} {x y z : AV} (h1 : l ρ H = .ok a H₁) (h2 : lo ρ H₁ = .ok x H₂) (h3 : hi ρ H₂ = .ok y H₃) (h4 : st ρ H₃ = .ok z H₄) (h : slcA mt a x y z H₄ = o) : slcE mt l lo hi st ρ H = o := by
  unfold slcE; rw [h1]; show (lo ρ H₁).bind _ = o; rw [h2]; show (hi ρ H₂).bind _ = o; rw [h3]; show (st ρ H₃).bind _ = o; rw [h4]; exact h
theorem l_nil : evL [] ρ H = .ok [] H := rfl
theorem l_cons (h1 : e ρ H = .ok a H₁) (h2 : evL es ρ H₁ = .ok as H₂) : evL (e :: es) ρ H = .ok (a :: as) H₂ := by unfold evL; rw [h1]; show (evL es ρ H₁).bind _ = _; rw [h2]; rfl
theorem l_one (h1 : e ρ H = .ok a H₁) : evL [e] ρ H = .ok [a] H₁ := l_cons h1 rfl
theorem l_two {e' : DE} (h1 : e ρ H = .ok a H₁) (h2 : e' ρ H₁ = .ok b H₂) : evL [e, e'] ρ H = .ok [a, b] H₂ := l_cons h1 (l_one h2)
theorem l_three {e' e'' : DE} (h1 : e ρ H = .ok a H₁) (h2 : e' ρ H₁ = .ok b H₂) (h3 : e'' ρ H₂ = .ok c H₃) : evL [e, e', e''] ρ H = .ok [a, b, c] H₃ := l_cons h1 (l_two h2 h3)
theorem e_lst (h1 : evL es ρ H = .ok as H₁) (hl : as.length ≤ 1000) (h : newL mt as H₁ = o) : lstE mt es ρ H = o := by
  unfold lstE; rw [h1]; exact (if_pos (Nat.le_trans hl (by decide))).trans h
theorem e_tup (h1 : evL es ρ H = .ok as H₁) (hl : as.length ≤ 1000) : tupE es ρ H = .ok (.tup as) H₁ := by
  unfold tupE; rw [h1]; exact if_pos (Nat.le_trans hl (by decide))
theorem e_call {i : Nat} (h1 : evL es ρ H = .ok as H₁) (h : Φ i as H₁ = o) : callE Φ i es ρ H = o := by unfold callE; rw [h1]; exact h
theorem e_bi {x : Bi} (h1 : evL es ρ H = .ok as H₁) (h : biA hot x as H₁ = o) : biE hot x es ρ H = o := by unfold biE; rw [h1]; exact h
theorem e_mo {m n cl i : Nat} {fs : List (Option AV)} (h1 : e ρ H = .ok (.ref n) H₁) (h2 : H₁[n]? = some (.inst cl fs)) (h3 : G.fn cl m = some i) (h4 : evL es ρ H₁ = .ok as H₂) (h : Φ i (.ref n :: as) H₂ = o) : moE G Φ m e es ρ H = o := by
  unfold moE; rw [h1]; show (orBad (inOf H₁ (.ref n)) _) = o
  have : inOf H₁ (.ref n) = some (n, cl, fs) := in_at h2
  rw [this]; show orBad (G.fn cl m) _ = o; rw [h3]; show (evL es ρ H₁).bind _ = o; rw [h4]; exact h
theorem e_attr {k n cl : Nat} {fs : List (Option AV)} (h1 : e ρ H = .ok (.ref n) H₁) (h2 : H₁[n]? = some (.inst cl fs)) (h3 : fs[k]? = some (some v)) : attrE k e ρ H = .ok v H₁ := by
  unfold attrE; rw [h1]; show (orBad (inOf H₁ (.ref n)) _) = _
  have : inOf H₁ (.ref n) = some (n, cl, fs) := in_at h2
  rw [this]; show (match fs[k]? with | some (some v) => Out.ok v H₁ | _ => .bad) = _; rw [h3]
theorem e_new {cl i : Nat} (h1 : evL es ρ H = .ok as H₁) (h2 : G.fn cl 0 = some i) (h : Φ i (.ref H₁.length :: as) (H₁ ++ [.inst cl (List.replicate G.na none)]) = .ok .none H₂) : newE G Φ cl es ρ H = .ok (.ref H₁.length) H₂ := by
  unfold newE; rw [h1]; show orBad (G.fn cl 0) _ = _; rw [h2]; show (Φ i _ _).bind _ = _; rw [h]; rfl
theorem e_nt {x : Bool} (h : e ρ H = .ok (.bool x) H₁) : ntE e ρ H = .ok (.bool (!x)) H₁ := by unfold ntE; rw [h]; rfl
theorem e_cmp {op : CmpOp} {x : Bool} (h1 : l ρ H = .ok a H₁) (h2 : r ρ H₁ = .ok b H₂) (h : cmpA H₂ op a b = some x) : cmpE l [op] [r] ρ H = .ok (.bool x) H₂ := by
  unfold cmpE; rw [h1]; show (r ρ H₁).bind _ = _; rw [h2]; show orBad (cmpA H₂ op a b) _ = _; rw [h]; rfl
theorem e_cmp2 {op op' : CmpOp} {x y : Bool} {r' : DE} (h1 : l ρ H = .ok a H₁) (h2 : r ρ H₁ = .ok b H₂) (h : cmpA H₂ op a b = some x) (h3 : r' ρ H₂ = .ok c H₂) (h' : cmpA H₂ op' b c = some y) : cmpE l [op, op'] [r, r'] ρ H = .ok (.bool (x && y)) H₂ := by
  unfold cmpE; rw [h1]; show (r ρ H₁).bind _ = _; rw [h2]; show orBad (cmpA H₂ op a b) _ = _; rw [h]
  cases x with
  | false => rfl
  | true => show (r' ρ H₂).bind _ = _; rw [h3]; show orBad (cmpA H₂ op' b c) _ = _; rw [h']; rfl
theorem e_cmp3 {op op' op'' : CmpOp} {x y z : Bool} {r' r'' : DE} {d : AV} (h1 : l ρ H = .ok a H₁) (h2 : r ρ H₁ = .ok b H₂) (h : cmpA H₂ op a b = some x) (h3 : r' ρ H₂ = .ok c H₂) (h' : cmpA H₂ op' b c = some y) (h4 : r'' ρ H₂ = .ok d H₂) (h'' : cmpA H₂ op'' c d = some z) : cmpE l [op, op', op''] [r, r', r''] ρ H = .ok (.bool (x && (y && z))) H₂ := by
  unfold cmpE; rw [h1]; show (r ρ H₁).bind _ = _; rw [h2]; show orBad (cmpA H₂ op a b) _ = _; rw [h]
  cases x with
  | false => rfl
  | true =>
    show (r' ρ H₂).bind _ = _; rw [h3]; show orBad (cmpA H₂ op' b c) _ = _; rw [h']
    cases y with
    | false => rfl
    | true => show (r'' ρ H₂).bind _ = _; rw [h4]; show orBad (cmpA H₂ op'' c d) _ = _; rw [h'']; rfl
theorem e_and2 {x y : Bool} (h1 : l ρ H = .ok (.bool x) H₁) (h2 : r ρ H₁ = .ok (.bool y) H₁) : bopE true [l, r] ρ H = .ok (.bool (x && y)) H₁ := by
  unfold bopE; rw [h1]; show (if x = true then _ else _) = _
  cases x with
  | false => rfl
  | true => exact h2
theorem e_or2 {x y : Bool} (h1 : l ρ H = .ok (.bool x) H₁) (h2 : r ρ H₁ = .ok (.bool y) H₁) : bopE false [l, r] ρ H = .ok (.bool (x || y)) H₁ := by
  unfold bopE; rw [h1]; show (if x = false then _ else _) = _
  cases x with
  | true => rfl
  | false => exact h2
theorem e_or3 {x y z : Bool} {r' : DE} (h1 : l ρ H = .ok (.bool x) H₁) (h2 : r ρ H₁ = .ok (.bool y) H₁) (h3 : r' ρ H₁ = .ok (.bool z) H₁) : bopE false [l, r, r'] ρ H = .ok (.bool (x || y || z)) H₁ := by
  have := e_or2 h2 h3
  unfold bopE; rw [h1]; show (if x = false then _ else _) = _
  cases x with
  | true => rfl
  | false => exact this
end
section
variable {ρ ρ' : RE} {H H₁ H₂ : AH} {a : AV} {o : OutS} {e t : DE} {r : List DS} {s b c : DS} {hot : Bool}
theorem s_asg {i : Nat} (h : e ρ H = .ok a H₁) (h2 : seqS r (ρ.set i (some a)) H₁ = o) : seqS (assignS hot (.one i) e :: r) ρ H = o := by
  show (assignS hot (.one i) e ρ H).then _ = o; unfold assignS; rw [h]; exact h2
theorem s_expr (h : e ρ H = .ok a H₁) (h2 : seqS r ρ H₁ = o) : seqS (exprS e :: r) ρ H = o := by
  show (exprS e ρ H).then _ = o; unfold exprS; rw [h]; exact h2
theorem s_ret (h : e ρ H = .ok a H₁) : seqS (retS e :: r) ρ H = .ret a H₁ := by
  show (retS e ρ H).then _ = _; unfold retS; rw [h]; rfl
theorem s_step (h : s ρ H = .next ρ' H₁) (h2 : seqS r ρ' H₁ = o) : seqS (s :: r) ρ H = o := by
  show (s ρ H).then _ = o; rw [h]; exact h2
theorem s_if {x : Bool} (h : t ρ H = .ok (.bool x) H₁) (h1 : x = true → (b ρ H₁).then (seqS r) = o) (h2 : x = false → (c ρ H₁).then (seqS r) = o) : seqS (ifS t b c :: r) ρ H = o := by
  show (ifS t b c ρ H).then _ = o; unfold ifS; rw [h]
  cases x with
  | true => exact h1 rfl
  | false => exact h2 rfl
theorem s_skip (h : t ρ H = .ok (.bool false) H₁) (h2 : seqS r ρ H₁ = o) : seqS (ifS t b (seqS []) :: r) ρ H = o := by
  show (ifS t b (seqS []) ρ H).then _ = o; unfold ifS; rw [h]; exact h2
end
structure BookR (R : Nat → Bool → FT) : Prop where
  is_whole : ∀ k hot args H, args.length = 1 → R (k + 1) hot 0 args H = (dc_is_whole (R k) hot (rho0 args 1) H).done
  is_stretch : ∀ k hot args H, args.length = 1 → R (k + 1) hot 1 args H = (dc_is_stretch (R k) hot (rho0 args 1) H).done
  day_of : ∀ k hot args H, args.length = 1 → R (k + 1) hot 3 args H = (dc_day_of (R k) hot (rho0 args 1) H).done
  in_one_day : ∀ k hot args H, args.length = 1 → R (k + 1) hot 4 args H = (dc_in_one_day (R k) hot (rho0 args 1) H).done
  is_name : ∀ k hot args H, args.length = 1 → R (k + 1) hot 5 args H = (dc_is_name (R k) hot (rho0 args 2) H).done
  checked_skills : ∀ k hot args H, args.length = 1 → R (k + 1) hot 6 args H = (dc_checked_skills (R k) hot (rho0 args 3) H).done
  checked_needs : ∀ k hot args H, args.length = 1 → R (k + 1) hot 7 args H = (dc_checked_needs (R k) hot (rho0 args 5) H).done
  cell : ∀ k hot args H, args.length = 2 → R (k + 1) hot 8 args H = (dc_l_cell (R k) hot (rho0 args 2) H).done
  sign : ∀ k hot args H, args.length = 1 → R (k + 1) hot 9 args H = (dc_l_sign (R k) hot (rho0 args 3) H).done
  person_init : ∀ k hot args H, args.length = 3 → R (k + 1) hot 10 args H = (dc_Person_init (R k) hot (rho0 args 3) H).done
  shift_init : ∀ k hot args H, args.length = 3 → R (k + 1) hot 11 args H = (dc_Shift_init (R k) hot (rho0 args 3) H).done
  book_init : ∀ k hot args H, args.length = 1 → R (k + 1) hot 12 args H = (dc_Book_init (R k) hot (rho0 args 1) H).done
  add_person : ∀ k hot args H, args.length = 4 → R (k + 1) hot 13 args H = (dc_Book_add_person (R k) hot (rho0 args 5) H).done
  add_rest : ∀ k hot args H, args.length = 3 → R (k + 1) hot 14 args H = (dc_Book_add_rest (R k) hot (rho0 args 4) H).done
  add_shift : ∀ k hot args H, args.length = 4 → R (k + 1) hot 15 args H = (dc_Book_add_shift (R k) hot (rho0 args 5) H).done
  person : ∀ k hot args H, args.length = 2 → R (k + 1) hot 16 args H = (dc_Book_person (R k) hot (rho0 args 2) H).done
  shift : ∀ k hot args H, args.length = 2 → R (k + 1) hot 17 args H = (dc_Book_shift (R k) hot (rho0 args 2) H).done
structure MayR (R : Nat → Bool → FT) : Prop where
  meets : ∀ k hot args H, args.length = 2 → R (k + 1) hot 2 args H = (dc_meets (R k) hot (rho0 args 2) H).done
  may : ∀ k hot args H, args.length = 4 → R (k + 1) hot 26 args H = (dc_Book_may (R k) hot (rho0 args 6) H).done
variable {R : Nat → Bool → FT} {k : Nat} {hot : Bool} {H : AH}
theorem mod_ok {mt : Bool} {i j : Int} (h : 0 < j ∧ j < 1073741824) : binA mt .Mod (.int i) (.int j) H = .ok (.int (i % j)) H := by show (if 0 < j ∧ j < 1073741824 then _ else _) = _; exact if_pos h
theorem div_ok {mt : Bool} {i j : Int} (h : 0 < j ∧ j < 1073741824) : binA mt .FloorDiv (.int i) (.int j) H = .ok (.int (i / j)) H := by show (if 0 < j ∧ j < 1073741824 then _ else _) = _; exact if_pos h
theorem mulI {mt : Bool} {i j : Int} (h : (-(2 ^ 64) < i ∧ i < 2 ^ 64) ∨ (-(2 ^ 64) < j ∧ j < 2 ^ 64)) : binA mt .Mult (.int i) (.int j) H = .ok (.int (i * j)) H := by show (if (-(2 ^ 64) < i ∧ i < 2 ^ 64) ∨ (-(2 ^ 64) < j ∧ j < 2 ^ 64) then _ else _) = _; exact if_pos h
theorem addI {mt : Bool} {i j : Int} : binA mt .Add (.int i) (.int j) H = .ok (.int (i + j)) H := rfl
theorem addS {mt : Bool} {x y : Str} (h : x.length + y.length ≤ sizeLine) : binA mt .Add (.str x) (.str y) H = .ok (.str (x ++ y)) H := by show (if x.length + y.length ≤ sizeLine then _ else _) = _; exact if_pos h
theorem addL {mt : Bool} {xs ys : List AV} (h : xs.length + ys.length ≤ sizeLine) : binA mt .Add (.lst xs) (.lst ys) H = newL mt (xs ++ ys) H := by show (if xs.length + ys.length ≤ sizeLine then _ else _) = _; exact if_pos h
theorem ceq_int {i j : Int} : cmpA H .Eq (.int i) (.int j) = some (decide (i = j)) := rfl
theorem sub2_0 {a b : AV} : subA (.tup [a, b]) (.int 0) H = .ok a H := by rfl
theorem sub2_1 {a b : AV} : subA (.tup [a, b]) (.int 1) H = .ok b H := by rfl
theorem subL {xs : List AV} {i : Int} {v : AV} (h0 : 0 ≤ i) (h : xs[i.toNat]? = some v) (hl : xs.length ≤ 1000000) : subA (.lst xs) (.int i) H = .ok v H := by
  have hlt := (List.getElem?_eq_some_iff.mp h).1
  have hs : small i = true := by unfold small; simp; lia
  have hi : idxA i xs.length = some i.toNat := by unfold idxA; rw [if_pos h0, if_pos (by lia)]
  show (orBad (some xs) fun xs => orBad (atA i xs) fun v => .ok v H) = _
  unfold atA
  simp only [orBad, hs, if_true, hi, Option.bind_some, h]
theorem subS {x : Str} {i : Int} {c : Nat} (h0 : 0 ≤ i) (h : x.cps[i.toNat]? = some c) (hl : x.length ≤ 1000000) : subA (.str x) (.int i) H = .ok (AV.str ⟨#[c]⟩) H := by
  have hlt : i.toNat < x.length := (Array.getElem?_eq_some_iff.mp h).1
  have hs : small i = true := by unfold small; simp; lia
  have hi : idxA i x.length = some i.toNat := by unfold idxA; rw [if_pos h0, if_pos (by lia)]
  show (if small i = true then orBad ((idxA i x.length).bind fun n => x.cps[n]?) fun c => .ok (AV.str ⟨#[c]⟩) H else .bad) = _
  simp only [hs, if_true, hi, Option.bind_some, h, orBad]
theorem meets_run (C : MayR R) {a b c d : Int} : R (k + 1) hot 2 [.tup [.int a, .int b], .tup [.int c, .int d]] H = .ok (.bool (decide (a < d) && decide (c < b))) H := by
  rw [C.meets _ _ _ _ rfl]
  exact congrArg OutS.done (s_ret (e_and2 (e_cmp (e_sub rfl rfl sub2_0) (e_sub rfl rfl sub2_1) rfl) (e_cmp (e_sub rfl rfl sub2_0) (e_sub rfl rfl sub2_1) rfl)))
theorem whole_run (C : BookR R) {a : Int} : R (k + 1) hot 0 [.int a] H = .ok (.bool true) H := by
  rw [C.is_whole _ _ _ _ rfl]; rfl
theorem stretch_run (C : BookR R) {a b : Int} : R (k + 2) hot 1 [.tup [.int a, .int b]] H = .ok (.bool (decide (0 ≤ a) && (decide (a < b) && decide (b ≤ 1000000)))) H := by
  rw [C.is_stretch _ _ _ _ rfl]
  refine congrArg OutS.done (s_skip (e_or3 (x := false) (y := false) (z := false) (e_cmp (e_bi (l_one rfl) rfl) rfl rfl) (e_nt (e_call (l_one (e_sub rfl rfl sub2_0)) (whole_run C))) (e_nt (e_call (l_one (e_sub rfl rfl sub2_1)) (whole_run C)))) (s_ret ?_))
  exact e_cmp3 rfl (e_sub rfl rfl sub2_0) rfl (e_sub rfl rfl sub2_1) rfl rfl rfl
theorem day_run (C : BookR R) {a b : Int} : R (k + 1) hot 3 [.tup [.int a, .int b]] H = .ok (.int (a / 24)) H := by
  rw [C.day_of _ _ _ _ rfl]
  exact congrArg OutS.done (s_ret (e_bin (e_sub rfl rfl sub2_0) rfl (div_ok (by decide))))
theorem one_day_run (C : BookR R) {a b : Int} : R (k + 2) hot 4 [.tup [.int a, .int b]] H = .ok (.bool (decide (a / 24 = (b - 1) / 24))) H := by
  rw [C.in_one_day _ _ _ _ rfl]
  exact congrArg OutS.done (s_ret (e_cmp (e_call (l_one rfl) (day_run C)) (e_bin (e_bin (e_sub rfl rfl sub2_1) rfl rfl) rfl (div_ok (by decide))) ceq_int))
theorem cut1 {xs : List Int} {i : Int} (h0 : 0 ≤ i) : cut (xs.map AV.int) (some i) (some (i + 1)) = (xs[i.toNat]?).toList.map .int := by
  unfold cut clip
  simp only [List.length_map]
  rw [if_neg (show ¬ i < 0 by omega), if_neg (show ¬ i + 1 < 0 by omega)]
  by_cases h : i < xs.length
  · rw [if_pos h]
    have hk : i.toNat < xs.length := by omega
    have e : xs[i.toNat]? = some xs[i.toNat] := List.getElem?_eq_getElem hk
    have : (if i + 1 < xs.length then (i + 1).toNat else xs.length) - i.toNat = 1 := by
      have e1 : (i + 1).toNat = i.toNat + 1 := Int.toNat_add h0 (by decide)
      split
      · rw [e1]; exact Nat.add_sub_cancel_left ..
      · have e2 : xs.length = i.toNat + 1 := by lia
        rw [e2]; exact Nat.add_sub_cancel_left ..
    rw [this, e, ← List.map_drop, List.drop_eq_getElem_cons hk]
    rfl
  · rw [if_neg h]
    have e : xs[i.toNat]? = none := List.getElem?_eq_none (by omega)
    rw [e]
    simp
theorem cell_run (C : BookR R) {xs : List Int} {i : Int} (h0 : 0 ≤ i) (h1 : i < 1000) (hx : xs.length ≤ 63) : R (k + 1) hot 8 [.lst (xs.map .int), .int i] H = .ok (.int (cell xs i)) H := by
  rw [C.cell _ _ _ _ rfl]
  have hs : 1000 ≤ sizeLine := by decide
  have e1 : slcA false (.lst (xs.map .int)) (.int i) (.int (i + 1)) .none H = .ok (.lst ((xs[i.toNat]?).toList.map .int)) H := by
    have s1 : optI (.int i) = some (some i) := if_pos (by unfold small; simp; lia)
    have s2 : optI (.int (i + 1)) = some (some (i + 1)) := if_pos (by unfold small; simp; lia)
    unfold slcA
    rw [s1, s2, ← cut1 h0]
    exact if_pos ⟨by simp; lia, fun q => nomatch q⟩
  have e2 : binA false .Add (.lst ((xs[i.toNat]?).toList.map .int)) (.lst [.int 0]) H = .ok (.lst ((xs[i.toNat]?).toList.map .int ++ [.int 0])) H := addL (by cases xs[i.toNat]? <;> simp <;> lia)
  have e3 : subA (.lst ((xs[i.toNat]?).toList.map .int ++ [.int 0])) (.int 0) H = .ok (.int (cell xs i)) H := by
    refine subL (by decide) ?_ (by cases xs[i.toNat]? <;> simp)
    unfold cell
    rw [List.getD_eq_getElem?_getD]
    cases xs[i.toNat]? <;> rfl
  exact congrArg OutS.done (s_ret (e_sub (e_bin (e_slc rfl rfl (e_bin rfl rfl rfl) rfl e1) (e_lst (l_one rfl) (by decide) rfl) e2) rfl e3))
noncomputable def okc (c : Nat) : Bool := decide (33 ≤ c) && decide (c ≤ 126)
noncomputable def nameOK (x : Str) : Bool := decide (1 ≤ x.length) && decide (x.length ≤ 20) && x.cps.toList.all okc
noncomputable def one (c : Nat) : AV := .str ⟨#[c]⟩
noncomputable def sgc (i : Int) : Nat := if (i % 93).toNat < 4 then (i % 93).toNat + 33 else (i % 93).toNat + 34
theorem sgc_ok (i : Int) : okc (sgc i) = true := by
  unfold okc sgc
  split <;> simp <;> lia
theorem alpha_at : ∀ n < 93, ((("!\"#$&'()*+,-./0123456789:;<=>?" : Str) ++ ("@ABCDEFGHIJKLMNOPQRSTUVWXYZ[\\]^_`" : Str)) ++ ("abcdefghijklmnopqrstuvwxyz{|}~" : Str)).cps[n]? = some (if n < 4 then n + 33 else n + 34) := by
  decide +kernel
theorem sign_run (C : BookR R) {i : Int} : R (k + 1) hot 9 [.int i] H = .ok (one (sgc i)) H := by
  rw [C.sign _ _ _ _ rfl]
  have hlt : (i % 93).toNat < 93 := by lia
  have e4 := subS (H := H) (i := i % 93) (by lia) (alpha_at _ hlt) (by decide +kernel)
  exact congrArg OutS.done (s_asg rfl (s_asg rfl (s_ret (e_sub (e_bin (e_bin rfl rfl (addS (by decide +kernel))) rfl (addS (by decide +kernel))) (e_bin rfl rfl (mod_ok (by decide))) e4))))
section
variable {ρ : RE} {H H₁ : AH} {a : AV} {xs : List AV} {hot mt : Bool}
theorem loop_any {B : AV → DS} {P : OutS → Prop} (Inv : Nat → RE → AH → Prop)
    (step : ∀ (k : Nat) v ρ H, xs[k]? = some v → Inv k ρ H → (∃ ρ' H', B v ρ H = .next ρ' H' ∧ Inv (k + 1) ρ' H') ∨ (∃ a H', B v ρ H = .ret a H' ∧ P (.ret a H')) ∨ ∃ c ρ' H', B v ρ H = .exc c ρ' H' ∧ P (.exc c ρ' H'))
    (fin : ∀ ρ H, Inv xs.length ρ H → P (.next ρ H)) : ∀ (n k : Nat) (ρ : RE) (H : AH), n + k = xs.length → Inv k ρ H → P (loopS B (.seq xs) n k ρ H)
  | 0, k, ρ, H, e, i => by
    have : xs[k]? = none := List.getElem?_eq_none (by lia)
    unfold loopS
    simp only [itemAt, this]
    exact fin ρ H (by rw [show xs.length = k by lia]; exact i)
  | n + 1, k, ρ, H, e, i => by
    have hk : xs[k]? = some xs[k] := List.getElem?_eq_getElem (by lia)
    unfold loopS
    simp only [itemAt, hk]
    rcases step k _ ρ H hk i with ⟨ρ', H', e1, i'⟩ | ⟨a, H', e1, p⟩ | ⟨c, ρ', H', e1, p⟩
    · rw [e1]; exact loop_any Inv step fin n (k + 1) ρ' H' (by lia) i'
    · rw [e1]; exact p
    · rw [e1]; exact p
theorem free_none (o : OutS) : o.free none = o := by cases o <;> rfl
theorem for_seq {i n : Nat} {it : DE} {b : DS} (h : it ρ H = .ok a H₁) (hs : srcOf H₁ a = some (.seq xs, n, none)) : forS false (.one i) it b ρ H = loopS (fun v ρ H => b (ρ.set i (some v)) H) (.seq xs) n 0 ρ H₁ := by
  unfold forS
  rw [h]
  show orBadS (srcOf H₁ a) _ = _
  rw [hs]
  exact free_none _
theorem for_many {is : List Nat} {n : Nat} {it : DE} {b : DS} (h : it ρ H = .ok a H₁) (hs : srcOf H₁ a = some (.seq xs, n, none)) : forS false (.many is) it b ρ H = loopS (fun v ρ H => orBadS (bindT false (.many is) v ρ) fun ρ₁ => b ρ₁ H) (.seq xs) n 0 ρ H₁ := by
  unfold forS
  rw [h]
  show orBadS (srcOf H₁ a) _ = _
  rw [hs]
  exact free_none _
theorem compL_pure {T E : AV → AH → Out AV} {p : AV → Bool} {g : AV → AV} (hT : ∀ v ∈ xs, T v H = .ok (.bool (p v)) H) (hE : ∀ v ∈ xs, p v = true → E v H = .ok (g v) H) : ∀ (n k : Nat) (acc : List AV), n + k = xs.length → compL T E (.seq xs) n k acc H = .ok (acc ++ ((xs.drop k).filter p).map g) H
  | 0, k, acc, e => by
    have : xs[k]? = none := List.getElem?_eq_none (by lia)
    unfold compL
    simp only [itemAt, this]
    rw [List.drop_eq_nil_of_le (by lia)]
    simp
  | n + 1, k, acc, e => by
    have hk : xs[k]? = some xs[k] := List.getElem?_eq_getElem (by lia)
    have hm : xs[k] ∈ xs := List.getElem_mem _
    unfold compL
    simp only [itemAt, hk]
    rw [hT _ hm, List.drop_eq_getElem_cons (show k < xs.length by lia)]
    show (if p xs[k] = true then _ else _) = _
    cases hp : p xs[k] with
    | false =>
      rw [if_neg (by decide), List.filter_cons_of_neg (by rw [hp]; decide)]
      exact compL_pure hT hE n (k + 1) acc (by lia)
    | true =>
      rw [if_pos rfl, List.filter_cons_of_pos hp, hE _ hm hp]
      show compL T E (.seq xs) n (k + 1) (acc ++ [g xs[k]]) H = _
      rw [compL_pure hT hE n (k + 1) _ (by lia)]
      simp
theorem e_comp {elt it cond : DE} {n : Nat} {p : AV → Bool} {g : AV → AV} {o : Out AV} (h : it ρ H = .ok a H₁) (hs : srcOf H₁ a = some (.seq xs, n, none)) (hn : n = xs.length) (hl : xs.length ≤ 1000000) (hT : ∀ v ∈ xs, cond (ρ ++ [some v]) H₁ = .ok (.bool (p v)) H₁) (hE : ∀ v ∈ xs, p v = true → elt (ρ ++ [some v]) H₁ = .ok (g v) H₁)
    (ho : newL mt ((xs.filter p).map g) H₁ = o) : compE false mt elt it cond ρ H = o := by
  subst hn
  unfold compE
  rw [h]
  show orBad (srcOf H₁ a) _ = _
  rw [hs]
  show (if false = false ∧ xs.length ≤ 1000000 then _ else _) = _
  rw [if_pos ⟨rfl, hl⟩]
  show (Out.calm (compL _ _ (.seq xs) xs.length 0 [] H₁)).bind _ = _
  rw [compL_pure hT hE _ _ _ (by simp)]
  exact ho
theorem e_map {elt it : DE} {n : Nat} {g : AV → AV} {o : Out AV} (h : it ρ H = .ok a H₁) (hs : srcOf H₁ a = some (.seq xs, n, none)) (hn : n = xs.length) (hl : xs.length ≤ 1000000) (hE : ∀ v ∈ xs, elt (ρ ++ [some v]) H₁ = .ok (g v) H₁) (ho : newL mt (xs.map g) H₁ = o) : compE false mt elt it (cstE (.bool true)) ρ H = o :=
  e_comp (p := fun _ => true) h hs hn hl (fun _ _ => rfl) (fun v hv _ => hE v hv) (by rw [List.filter_eq_self.mpr fun _ _ => rfl]; exact ho)
theorem span_mem {x : Int} {v : AV} (h : v ∈ span 0 x) : ∃ i : Int, 0 ≤ i ∧ i < x ∧ v = .int i := by
  unfold span at h
  simp only [List.mem_map, List.mem_range] at h
  refine x1_2 (h) fun i hi e2' => ?_; try clear h; subst e2'
  exact ⟨i, by lia, by lia, by simp⟩
theorem range_src {x : Int} (h0 : 0 ≤ x) (h : x < 1000000) : srcOf H (.rng 0 x) = some (.seq (span 0 x), x.toNat, none) := by
  have : small x = true := by unfold small; simp; lia
  have h1 : small 0 = true := by decide
  unfold srcOf
  simp only [this, h1, Bool.and_self, if_true, Int.sub_zero]
end
section
variable {R : Nat → Bool → FT} {k : Nat} {H : AH}
theorem one_le {c : Nat} : cmpA H .LtE (.str "!") (one c) = some (decide (33 ≤ c)) := by
  show some (!decide (([c] : List Nat) < [33])) = _
  congr 1
  by_cases h : c < 33
  · have : ([c] : List Nat) < [33] := List.Lex.rel h
    simp [this]; omega
  · have : ¬ ([c] : List Nat) < [33] := fun q => by
      cases q with
      | rel q => exact h q
      | cons q => cases q
    simp [this]; omega
theorem le_one {c : Nat} : cmpA H .LtE (one c) (.str "~") = some (decide (c ≤ 126)) := by
  show some (!decide (([126] : List Nat) < [c])) = _
  congr 1
  by_cases h : 126 < c
  · have : ([126] : List Nat) < [c] := List.Lex.rel h
    simp [this]; lia
  · have : ¬ ([126] : List Nat) < [c] := fun q => by
      cases q with
      | rel q => exact h q
      | cons q => cases q
    simp [this]; lia
theorem isname_run (C : BookR R) {x : Str} (hx : x.length ≤ 100000) : R (k + 1) false 5 [.str x] H = .ok (.bool (nameOK x)) H := by
  rw [C.is_name _ _ _ _ rfl]
  have hl : biA false .len [.str x] H = .ok (.int x.length) H := by
    show (if x.length < 2 ^ 62 then _ else _) = _
    exact if_pos (by lia)
  have c1 : cmpA H .LtE (.int 1) (.int x.length) = some (decide ((1 : Int) ≤ x.length)) := rfl
  have c2 : cmpA H .LtE (.int x.length) (.int 20) = some (decide ((x.length : Int) ≤ 20)) := rfl
  suffices h : dc_is_name (R k) false (rho0 [.str x] 2) H = .ret (.bool (nameOK x)) H by rw [h]; rfl
  refine s_if (e_nt (e_cmp2 (c := .int 20) rfl (e_bi (l_one rfl) hl) c1 rfl c2)) (fun h => ?_) fun h => ?_
  · have : nameOK x = false := by
      simp only [Bool.not_eq_true', Bool.and_eq_false_iff, decide_eq_false_iff_not] at h
      unfold nameOK
      rcases h with h | h
      · rw [decide_eq_false (show ¬ 1 ≤ x.length by lia)]; rfl
      · rw [decide_eq_false (show ¬ x.length ≤ 20 by lia)]; simp
    rw [this]; rfl
  · simp only [Bool.not_eq_false', Bool.and_eq_true, decide_eq_true_eq] at h
    show (forS false (.one 1) (varE 0) _ [some (.str x), none] H).then _ = _
    rw [for_seq (a := .str x) (xs := signs x) (n := x.length) rfl rfl]
    refine loop_any (P := fun o => o.then _ = .ret (.bool (nameOK x)) H) (fun k ρ H' => H' = H ∧ (∃ o, ρ = [some (.str x), o]) ∧ (x.cps.toList.take k).all okc = true) ?_ ?_ _ _ _ _ (by simp [signs]; rfl) ⟨rfl, ⟨_, rfl⟩, rfl⟩
    · rintro k v ρ H' hv ⟨rfl, ⟨o, rfl⟩, ha⟩
      obtain ⟨c, hc, rfl⟩ : ∃ c, x.cps.toList[k]? = some c ∧ v = one c := by
        unfold signs at hv
        rw [List.getElem?_map] at hv
        refine x1_2 (Option.map_eq_some_iff.mp hv) fun c hc e => ?_
        exact ⟨c, hc, e.symm⟩
      have hr : seqS [ifS (ntE (cmpE (cstE (.str "!")) [.LtE, .LtE] [(varE 1), (cstE (.str "~"))])) (seqS [retS (cstE (.bool false))]) (seqS [])] [some (.str x), some (one c)] H' = if okc c then .next [some (.str x), some (one c)] H' else .ret (.bool false) H' := by
        refine s_if (e_nt (e_cmp2 (c := .str "~") rfl rfl one_le rfl le_one)) (fun h => ?_) fun h => ?_
        · rw [show okc c = false from (Bool.not_eq_true' _).mp h]; rfl
        · rw [show okc c = true from (Bool.not_eq_false' _).mp h]; rfl
      cases ho : okc c with
      | true =>
        rw [ho] at hr
        refine .inl ⟨_, H', hr, rfl, ⟨_, rfl⟩, ?_⟩
        rw [List.take_add_one, List.all_append, ha, hc]
        simp [ho]
      | false =>
        rw [ho] at hr
        refine .inr (.inl ⟨.bool false, H', hr, ?_⟩)
        have : nameOK x = false := by
          unfold nameOK
          have : x.cps.toList.all okc = false := by
            rw [List.all_eq_false]
            exact ⟨c, List.mem_of_getElem? hc, by rw [ho]; decide⟩
          rw [this]; simp
        rw [this]; rfl
    · rintro ρ H' ⟨rfl, ⟨o, rfl⟩, ha⟩
      have : nameOK x = true := by
        unfold nameOK
        rw [decide_eq_true (show 1 ≤ x.length by lia), decide_eq_true (show x.length ≤ 20 by lia)]
        have hl' : (signs x).length = x.cps.toList.length := by simp [signs]
        rw [hl', List.take_length] at ha
        rw [ha]; rfl
      rw [this]; rfl
end
section
variable {R : Nat → Bool → FT} {k : Nat} {H : AH}
theorem eqv_str {x y : Str} : PyData.eqv (.str x) (.str y) = decide (x = y) := by
  show (x == y) = decide (x = y)
  by_cases q : x = y
  · subst q; simp
  · simp [q]
theorem den_strs {xs : List Str} : denL (den deep H) (xs.map .str) = some (xs.map .str) := by
  induction xs with
  | nil => rfl
  | cons x r ih => show ((some (PyData.str x)).bind fun d => (denL (den deep H) (r.map .str)).map (d :: ·)) = _; rw [ih]; rfl
theorem any_str {x : Str} {xs : List Str} : ((xs.map PyData.str).any fun y => PyData.eqv y (.str x)) = decide (x ∈ xs) := by
  rw [Bool.eq_iff_iff]
  simp only [List.any_eq_true, List.mem_map, decide_eq_true_eq]
  constructor
  · rintro ⟨_, ⟨y, hy, rfl⟩, e⟩
    rw [eqv_str, decide_eq_true_eq] at e
    exact e ▸ hy
  · intro h
    exact ⟨_, ⟨x, h, rfl⟩, by rw [eqv_str]; simp⟩
theorem in_strs {a : AV} {x : Str} {xs : List Str} (hd : dcOf H a = none) (h : lsOf H a = some (xs.map .str)) : cmpA H .In (.str x) a = some (decide (x ∈ xs)) := by
  show inA H (.str x) a = _
  unfold inA
  rw [hd, h]
  show ((some (PyData.str x)).bind fun d => (denL (den deep H) (xs.map .str)).map fun ds => ds.any fun y => PyData.eqv y d) = _
  rw [den_strs]
  show some (((xs.map PyData.str).any fun y => PyData.eqv y (.str x))) = _
  rw [any_str]
theorem e_append {ρ : RE} {H H₁ H₂ : AH} {e : DE} {es : List DE} {v : AV} {n : Nat} {xs ys : List AV} (h1 : e ρ H = .ok (.ref n) H₁) (h3 : H₁[n]? = some (.lst ys)) (h2 : evL es ρ H₁ = .ok [v] H₂) (h4 : H₂[n]? = some (.lst xs)) (hl : xs.length ≤ 1000000) : mbE .append e es ρ H = .ok .none (H₂.set n (.lst (xs ++ [v]))) := by
  have k1 : kindM (.ref n) H₁ = 2 := by show (match H₁[n]? with | some (.lst _) => 2 | some (.dict _) => 3 | some (.ldict _) => 3 | _ => 0) = 2; rw [h3]
  have k2 : kindM (.ref n) H₂ = 2 := by show (match H₂[n]? with | some (.lst _) => 2 | some (.dict _) => 3 | some (.ldict _) => 3 | _ => 0) = 2; rw [h4]
  unfold mbE
  rw [h1]
  show orBad (bmId (kindM (.ref n) H₁) .append) _ = _
  rw [k1]
  show (evL es ρ H₁).bind _ = _
  rw [h2]
  show (if 2 = kindM (.ref n) H₂ then mbA .append (.ref n) [v] H₂ else .bad) = _
  rw [k2, if_pos rfl]
  rw [mb_lst h4]
  exact if_pos hl
theorem get_last {H : AH} {o : AO} : (H ++ [o])[H.length]? = some o := by simp
theorem set_last {H : AH} {o o' : AO} : (H ++ [o]).set H.length o' = H ++ [o'] := by simp
theorem skills_run (C : BookR R) {xs : List Str} (hn : ∀ x ∈ xs, nameOK x = true) (hd : xs.Nodup) (hl : xs.length ≤ 1000) (hx : ∀ x ∈ xs, x.length ≤ 100000) : R (k + 2) false 6 [.lst (xs.map .str)] H = .ok (.ref H.length) (H ++ [.lst (xs.map .str)]) := by
  rw [C.checked_skills _ _ _ _ rfl]
  suffices h : dc_checked_skills (R (k + 1)) false (rho0 [.lst (xs.map .str)] 3) H = .ret (.ref H.length) (H ++ [.lst (xs.map .str)]) by rw [h]; rfl
  refine s_asg (a := .ref H.length) (H₁ := H ++ [.lst []]) rfl ?_
  show (forS false (.one 2) (varE 0) _ [some (.lst (xs.map .str)), some (.ref H.length), none] (H ++ [.lst []])).then _ = _
  rw [for_seq (a := .lst (xs.map .str)) (xs := xs.map .str) (n := (xs.map AV.str).length) rfl rfl]
  refine loop_any (P := fun o => o.then _ = .ret (.ref H.length) (H ++ [.lst (xs.map .str)])) (fun k ρ H' => (∃ o, ρ = [some (.lst (xs.map .str)), some (.ref H.length), o]) ∧ H' = H ++ [.lst ((xs.take k).map .str)]) ?_ ?_ _ 0 _ _ (Nat.add_zero _) ⟨⟨_, rfl⟩, rfl⟩
  · rintro j v ρ H' hv ⟨⟨o, rfl⟩, rfl⟩
    rw [List.getElem?_map] at hv
    refine x1_2 (Option.map_eq_some_iff.mp hv) fun x hj e2' => ?_; subst e2'
    have hm := List.mem_of_getElem? hj
    have hlt := (List.getElem?_eq_some_iff.mp hj).1
    have hnot : x ∉ xs.take j := fun q => by
      obtain ⟨i, hi, e⟩ := List.mem_iff_getElem.mp q
      rw [List.length_take] at hi
      rw [List.getElem_take] at e
      have e2 := (List.getElem?_eq_some_iff.mp hj).2
      have := (List.getElem_inj hd).mp (e.trans e2.symm)
      lia
    have hls : lsOf (H ++ [.lst ((xs.take j).map .str)]) (.ref H.length) = some ((xs.take j).map .str) := by
      show (match (H ++ [AO.lst ((xs.take j).map .str)])[H.length]? with | some (.lst xs) => some xs | _ => none) = _; rw [get_last]
    have hdc : dcOf (H ++ [.lst ((xs.take j).map .str)]) (.ref H.length) = none := by
      show (match (H ++ [AO.lst ((xs.take j).map .str)])[H.length]? with | some (.dict es) => some (H.length, es) | some (.ldict es) => some (H.length, es) | _ => none) = _; rw [get_last]
    refine .inl ⟨[some (.lst (xs.map .str)), some (.ref H.length), some (.str x)], H ++ [.lst ((xs.take (j + 1)).map .str)], ?_, ⟨_, rfl⟩, rfl⟩
    refine s_skip (e_nt (x := true) (e_call (l_one rfl) ((isname_run C (hx x hm)).trans (by rw [hn x hm])))) ?_
    refine s_skip (e_cmp rfl rfl ((in_strs hdc hls).trans (by rw [decide_eq_false hnot]))) ?_
    refine s_expr (a := .none) (H₁ := H ++ [.lst ((xs.take (j + 1)).map .str)]) ?_ rfl
    refine (e_append rfl get_last (l_one rfl) get_last (by simp; lia)).trans ?_
    rw [set_last, List.take_add_one, hj]
    simp
  · rintro ρ H' ⟨⟨o, rfl⟩, rfl⟩
    rw [List.length_map, List.take_length]; rfl
end
structure Pm where
  name : Str
  skills : List Str
  limit : Int
  rests : List (Int × Int)
structure Sm where
  name : Str
  hours : Int × Int
  needs : List (Str × Int)
noncomputable def stAV (p : Int × Int) : AV := .tup [.int p.1, .int p.2]
noncomputable def needAV (n : Str × Int) : AV := .tup [.str n.1, .int n.2]
noncomputable def pfs (sk aw : Nat) (lim : Int) : List (Option AV) := [some (.ref sk), some (.int lim), some (.ref aw), none, none, none, none, none, none, none, none, none]
noncomputable def sfs (h : Int × Int) (nd : Nat) : List (Option AV) := [none, none, none, some (stAV h), some (.ref nd), none, none, none, none, none, none, none]
noncomputable def bfs (fd wd : Nat) : List (Option AV) := [none, none, none, none, none, some (.ref fd), some (.ref wd), none, none, none, none, none]
noncomputable abbrev PR := (Nat × Nat × Nat) × Pm
noncomputable abbrev SR := (Nat × Nat) × Sm
structure PAt (H : AH) (p : PR) : Prop where
  ob : H[p.1.1]? = some (.inst 0 (pfs p.1.2.1 p.1.2.2 p.2.limit))
  sk : H[p.1.2.1]? = some (.lst (p.2.skills.map .str))
  aw : H[p.1.2.2]? = some (.lst (p.2.rests.map stAV))
structure SAt (H : AH) (s : SR) : Prop where
  ob : H[s.1.1]? = some (.inst 1 (sfs s.2.hours s.1.2))
  nd : H[s.1.2]? = some (.lst (s.2.needs.map needAV))
noncomputable def pRefs (p : PR) : List Nat := [p.1.1, p.1.2.1, p.1.2.2]
noncomputable def sRefs (s : SR) : List Nat := [s.1.1, s.1.2]
noncomputable def bRefs (b fd wd : Nat) (ps : List PR) (ss : List SR) : List Nat := b :: fd :: wd :: (ps.flatMap pRefs ++ ss.flatMap sRefs)
noncomputable def folkD (ps : List PR) : List (Key × AV) := ps.map fun p => (.str p.2.name, .ref p.1.1)
noncomputable def workD (ss : List SR) : List (Key × AV) := ss.map fun s => (.str s.2.name, .ref s.1.1)
structure BookAt (H : AH) (b fd wd : Nat) (ps : List PR) (ss : List SR) : Prop where
  book : H[b]? = some (.inst 2 (bfs fd wd))
  folk : H[fd]? = some (.dict (folkD ps))
  work : H[wd]? = some (.dict (workD ss))
  pat : ∀ p ∈ ps, PAt H p
  sat : ∀ s ∈ ss, SAt H s
  nodup : (bRefs b fd wd ps ss).Nodup
  few : ps.length + ss.length ≤ 1000
section
variable {H H' : AH} {b fd wd : Nat} {ps : List PR} {ss : List SR}
theorem BookAt.lt (B : BookAt H b fd wd ps ss) : ∀ n ∈ bRefs b fd wd ps ss, n < H.length := by
  have g : ∀ {n : Nat} {o : AO}, H[n]? = some o → n < H.length := fun h => (List.getElem?_eq_some_iff.mp h).1
  intro n hn
  unfold bRefs at hn
  rcases List.mem_cons.mp hn with rfl | hn
  · exact g B.book
  rcases List.mem_cons.mp hn with rfl | hn
  · exact g B.folk
  rcases List.mem_cons.mp hn with rfl | hn
  · exact g B.work
  rcases List.mem_append.mp hn with hn | hn
  · refine x1_2 (List.mem_flatMap.mp hn) fun p hp hn => ?_
    have := B.pat p hp
    simp only [pRefs, List.mem_cons, List.not_mem_nil, or_false] at hn
    rcases hn with rfl | rfl | rfl
    · exact g this.ob
    · exact g this.sk
    · exact g this.aw
  · refine x1_2 (List.mem_flatMap.mp hn) fun p hp hn => ?_
    have := B.sat p hp
    simp only [sRefs, List.mem_cons, List.not_mem_nil, or_false] at hn
    rcases hn with rfl | rfl
    · exact g this.ob
    · exact g this.nd
theorem mem_p {p : PR} (hp : p ∈ ps) : p.1.1 ∈ bRefs b fd wd ps ss ∧ p.1.2.1 ∈ bRefs b fd wd ps ss ∧ p.1.2.2 ∈ bRefs b fd wd ps ss := by
  have h : ∀ n ∈ pRefs p, n ∈ bRefs b fd wd ps ss := fun n hn => .tail _ (.tail _ (.tail _ (List.mem_append.mpr (.inl (List.mem_flatMap.mpr ⟨p, hp, hn⟩)))))
  exact ⟨h _ (.head _), h _ (.tail _ (.head _)), h _ (.tail _ (.tail _ (.head _)))⟩
theorem mem_s {s : SR} (hs : s ∈ ss) : s.1.1 ∈ bRefs b fd wd ps ss ∧ s.1.2 ∈ bRefs b fd wd ps ss := by
  have h : ∀ n ∈ sRefs s, n ∈ bRefs b fd wd ps ss := fun n hn => .tail _ (.tail _ (.tail _ (List.mem_append.mpr (.inr (List.mem_flatMap.mpr ⟨s, hs, hn⟩)))))
  exact ⟨h _ (.head _), h _ (.tail _ (.head _))⟩
theorem BookAt.frame (B : BookAt H b fd wd ps ss) (h : ∀ n ∈ bRefs b fd wd ps ss, H'[n]? = H[n]?) : BookAt H' b fd wd ps ss :=
  ⟨(h _ (.head _)).trans B.book, (h _ (.tail _ (.head _))).trans B.folk, (h _ (.tail _ (.tail _ (.head _)))).trans B.work,
    fun p hp => let m := mem_p (b := b) (fd := fd) (wd := wd) (ss := ss) hp; ⟨(h _ m.1).trans (B.pat p hp).ob, (h _ m.2.1).trans (B.pat p hp).sk, (h _ m.2.2).trans (B.pat p hp).aw⟩,
    fun s hs => let m := mem_s (b := b) (fd := fd) (wd := wd) (ps := ps) hs; ⟨(h _ m.1).trans (B.sat s hs).ob, (h _ m.2).trans (B.sat s hs).nd⟩, B.nodup, B.few⟩
theorem BookAt.grow {l : AH} (B : BookAt H b fd wd ps ss) : BookAt (H ++ l) b fd wd ps ss := B.frame fun n hn => List.getElem?_append_left (B.lt n hn)
theorem in_keys {α : Type} {f : α → Str} {g : α → Nat} {l : List α} {x : Str} : ((l.map fun p => ((Key.str (f p), AV.ref (g p)) : Key × AV)).any fun e => decide (e.1 = Key.str x)) = decide (x ∈ l.map f) := by
  rw [Bool.eq_iff_iff]
  simp only [List.any_eq_true, List.mem_map, decide_eq_true_eq]
  constructor
  · rintro ⟨_, ⟨p, hp, rfl⟩, e⟩
    exact ⟨p, hp, by simpa using e⟩
  · rintro ⟨p, hp, rfl⟩
    exact ⟨_, ⟨p, hp, rfl⟩, rfl⟩
theorem dc_at {n : Nat} {es : List (Key × AV)} (h : H[n]? = some (.dict es)) : dcOf H (.ref n) = some (n, es) := by
  show (match H[n]? with | some (.dict es) => some (n, es) | some (.ldict es) => some (n, es) | _ => none) = _; rw [h]
theorem in_dict {n : Nat} {es : List (Key × AV)} {x : Str} {y : Bool} (h : H[n]? = some (.dict es)) (hy : (es.any fun e => decide (e.1 = Key.str x)) = y) : cmpA H .In (.str x) (.ref n) = some y := by
  show inA H (.str x) (.ref n) = _
  unfold inA
  rw [dc_at h]
  exact congrArg some hy
theorem nin_dict {n : Nat} {es : List (Key × AV)} {x : Str} {y : Bool} (h : H[n]? = some (.dict es)) (hy : (es.any fun e => decide (e.1 = Key.str x)) = y) : cmpA H .NotIn (.str x) (.ref n) = some (!y) := by
  show (inA H (.str x) (.ref n)).map (!·) = _
  have := in_dict h hy
  rw [show inA H (.str x) (.ref n) = some y from this]; rfl
end
section
variable {ρ : RE} {H H₁ H₂ H₃ H₄ : AH} {o : OutS} {e e' e'' : DE} {r : List DS} {hot : Bool} {v a k : AV}
theorem s_attr {i n c : Nat} {fs : List (Option AV)} (h1 : e ρ H = .ok v H₁) (h2 : e' ρ H₁ = .ok (.ref n) H₂) (h3 : H₂[n]? = some (.inst c fs)) (h4 : i < fs.length) (h : seqS r ρ (H₂.set n (.inst c (fs.set i (some v)))) = o) : seqS (setAttrS i e' e :: r) ρ H = o := by
  show (setAttrS i e' e ρ H).then _ = o
  unfold setAttrS
  rw [h1]
  show ((e' ρ H₁).inS ρ _).then _ = o
  rw [h2]
  show (orBadS (inOf H₂ (.ref n)) _).then _ = o
  rw [in_at h3]
  show (if i < fs.length then OutS.next ρ (H₂.set n (.inst c (fs.set i (some v)))) else .bad).then _ = o
  rw [if_pos h4]
  exact h
theorem s_item (h1 : e'' ρ H = .ok v H₁) (h2 : e ρ H₁ = .ok a H₂) (h3 : e' ρ H₂ = .ok k H₃) (h4 : setItemA a k v H₃ = some H₄) (h : seqS r ρ H₄ = o) : seqS (setItemS e e' e'' :: r) ρ H = o := by
  show (setItemS e e' e'' ρ H).then _ = o
  unfold setItemS
  rw [h1]
  show ((e ρ H₁).inS ρ _).then _ = o
  rw [h2]
  show ((e' ρ H₂).inS ρ _).then _ = o
  rw [h3]
  show (orBadS (setItemA a k v H₃) _).then _ = o
  rw [h4]
  exact h
theorem set_key {n : Nat} {es : List (Key × AV)} {x : Str} (h : H[n]? = some (.dict es)) (hl : es.length ≤ 1000000) (hx : (es.any fun e => decide (e.1 = Key.str x)) = false) : setItemA (.ref n) (.str x) v H = some (H.set n (.dict (es ++ [(.str x, v)]))) := by
  show (match H[n]? with | some (.lst xs) => _ | some (.dict es) => _ | _ => none) = _
  rw [h]
  show (if es.length ≤ 1000000 then some (H.set n (.dict (setD es (.str x) v))) else none) = _
  rw [if_pos hl]
  unfold setD
  rw [hx]
  rfl
end
section
variable {R : Nat → Bool → FT} {k : Nat} {hot : Bool} {H : AH} {b fd wd : Nat} {ps : List PR} {ss : List SR}
theorem look_p {p : PR} (hp : p ∈ ps) (hn : (ps.map (·.2.name)).Nodup) : (folkD ps).lookup (.str p.2.name) = some (.ref p.1.1) := by
  unfold folkD
  induction ps with
  | nil => cases hp
  | cons q r ih =>
    rw [List.map_cons, List.lookup_cons]
    rw [List.map_cons, List.nodup_cons] at hn
    cases hp with
    | head => simp
    | tail _ hp =>
      have : (Key.str p.2.name == Key.str q.2.name) = false := by
        rw [beq_eq_false_iff_ne]
        intro e
        exact hn.1 (List.mem_map.mpr ⟨p, hp, by simpa using e⟩)
      rw [this]
      exact ih hp hn.2
theorem sub_key {n : Nat} {es : List (Key × AV)} {x : Str} {v : AV} (h : H[n]? = some (.dict es)) (hx : es.lookup (.str x) = some v) : subA (.ref n) (.str x) H = .ok v H := by
  unfold subA
  rw [dc_at h]
  show (orBad (es.lookup (.str x)) fun v => .ok v H) = _
  rw [hx]; rfl
theorem person_run (C : BookR R) (B : BookAt H b fd wd ps ss) (hn : (ps.map (·.2.name)).Nodup) {p : PR} (hp : p ∈ ps) : R (k + 1) hot 16 [.ref b, .str p.2.name] H = .ok (.ref p.1.1) H := by
  rw [C.person _ _ _ _ rfl]
  have hin : ((folkD ps).any fun e => decide (e.1 = Key.str p.2.name)) = true := by
    unfold folkD; rw [in_keys]; exact decide_eq_true (List.mem_map.mpr ⟨p, hp, rfl⟩)
  exact congrArg OutS.done (s_skip (e_cmp rfl (e_attr rfl B.book rfl) (nin_dict B.folk hin)) (s_ret (e_sub (e_attr rfl B.book rfl) rfl (sub_key B.folk (look_p hp hn)))))
theorem look_s {s : SR} (hs : s ∈ ss) (hn : (ss.map (·.2.name)).Nodup) : (workD ss).lookup (.str s.2.name) = some (.ref s.1.1) := by
  unfold workD
  induction ss with
  | nil => cases hs
  | cons q r ih =>
    rw [List.map_cons, List.lookup_cons]
    rw [List.map_cons, List.nodup_cons] at hn
    cases hs with
    | head => simp
    | tail _ hs =>
      have : (Key.str s.2.name == Key.str q.2.name) = false := by
        rw [beq_eq_false_iff_ne]
        intro e
        exact hn.1 (List.mem_map.mpr ⟨s, hs, by simpa using e⟩)
      rw [this]
      exact ih hs hn.2
theorem shift_run (C : BookR R) (B : BookAt H b fd wd ps ss) (hn : (ss.map (·.2.name)).Nodup) {s : SR} (hs : s ∈ ss) : R (k + 1) hot 17 [.ref b, .str s.2.name] H = .ok (.ref s.1.1) H := by
  rw [C.shift _ _ _ _ rfl]
  have hin : ((workD ss).any fun e => decide (e.1 = Key.str s.2.name)) = true := by
    unfold workD; rw [in_keys]; exact decide_eq_true (List.mem_map.mpr ⟨s, hs, rfl⟩)
  exact congrArg OutS.done (s_skip (e_cmp rfl (e_attr rfl B.book rfl) (nin_dict B.work hin)) (s_ret (e_sub (e_attr rfl B.book rfl) rfl (sub_key B.work (look_s hs hn)))))
theorem get_l0 {o : AO} {l : AH} : (H ++ o :: l)[H.length]? = some o := by simp
theorem set_l0 {o o' : AO} {l : AH} : (H ++ o :: l).set H.length o' = H ++ o' :: l := by simp
theorem person_new (C : BookR R) {sk : Nat} {lim : Int} {ρ : RE} {H₁ : AH} {es : List DE} (h : evL es ρ H = .ok [.ref sk, .int lim] H₁) : newE gmC (R (k + 1) hot) 0 es ρ H = .ok (.ref H₁.length) (H₁ ++ [.inst 0 (pfs sk (H₁.length + 1) lim), .lst []]) := by
  refine e_new (i := 10) h rfl ?_
  rw [C.person_init _ _ _ _ rfl]
  suffices q : dc_Person_init (R k) hot (rho0 [.ref H₁.length, .ref sk, .int lim] 3) (H₁ ++ [.inst 0 (List.replicate gmC.na none)]) = .next [some (.ref H₁.length), some (.ref sk), some (.int lim)] (H₁ ++ [.inst 0 (pfs sk (H₁.length + 1) lim), .lst []]) by rw [q]; rfl
  refine s_attr rfl rfl get_l0 (Nat.le_of_ble_eq_true rfl) ?_
  rw [set_l0]
  refine s_attr rfl rfl get_l0 (Nat.le_of_ble_eq_true rfl) ?_
  rw [set_l0]
  refine s_attr (e_lst rfl (by decide) rfl) rfl (by rw [List.append_assoc]; exact get_l0) (Nat.le_of_ble_eq_true rfl) ?_
  rw [List.append_assoc]
  show OutS.next _ ((H₁ ++ AO.inst 0 _ :: [AO.lst []]).set H₁.length _) = _
  rw [set_l0]
  rw [List.length_append]
  rfl
theorem shift_new (C : BookR R) {h : Int × Int} {nd : Nat} {ρ : RE} {H₁ : AH} {es : List DE} (hh : evL es ρ H = .ok [stAV h, .ref nd] H₁) : newE gmC (R (k + 1) hot) 1 es ρ H = .ok (.ref H₁.length) (H₁ ++ [.inst 1 (sfs h nd)]) := by
  refine e_new (i := 11) hh rfl ?_
  rw [C.shift_init _ _ _ _ rfl]
  suffices q : dc_Shift_init (R k) hot (rho0 [.ref H₁.length, stAV h, .ref nd] 3) (H₁ ++ [.inst 1 (List.replicate gmC.na none)]) = .next [some (.ref H₁.length), some (stAV h), some (.ref nd)] (H₁ ++ [.inst 1 (sfs h nd)]) by rw [q]; rfl
  refine s_attr rfl rfl get_l0 (Nat.le_of_ble_eq_true rfl) ?_
  rw [set_l0]
  refine s_attr rfl rfl get_l0 (Nat.le_of_ble_eq_true rfl) ?_
  rw [set_l0]
  rfl
theorem book_new (C : BookR R) {ρ : RE} : newE gmC (R (k + 1) hot) 2 [] ρ H = .ok (.ref H.length) (H ++ [.inst 2 (bfs (H.length + 1) (H.length + 2)), .dict [], .dict []]) := by
  refine e_new (i := 12) (H₁ := H) rfl rfl ?_
  rw [C.book_init _ _ _ _ rfl]
  suffices q : dc_Book_init (R k) hot (rho0 [.ref H.length] 1) (H ++ [.inst 2 (List.replicate gmC.na none)]) = .next [some (.ref H.length)] (H ++ [.inst 2 (bfs (H.length + 1) (H.length + 2)), .dict [], .dict []]) by rw [q]; rfl
  refine s_attr rfl rfl (by rw [List.append_assoc]; exact get_l0) (Nat.le_of_ble_eq_true rfl) ?_
  rw [List.append_assoc]
  show seqS _ _ ((H ++ AO.inst 2 _ :: [AO.dict []]).set H.length _) = _
  rw [set_l0]
  refine s_attr rfl rfl (by rw [List.append_assoc]; exact get_l0) (Nat.le_of_ble_eq_true rfl) ?_
  rw [List.append_assoc]
  show OutS.next _ ((H ++ AO.inst 2 _ :: [AO.dict [], AO.dict []]).set H.length _) = _
  rw [set_l0]
  rw [List.length_append, List.length_append]
  rfl
end
section
variable {R : Nat → Bool → FT} {k : Nat} {hot : Bool} {H : AH} {b fd wd : Nat} {ps : List PR} {ss : List SR}
theorem get_l1 {o o' : AO} {l : AH} : (H ++ o :: o' :: l)[H.length + 1]? = some o' := by simp
theorem set_l1 {o o' o'' : AO} {l : AH} : (H ++ o :: o' :: l).set (H.length + 1) o'' = H ++ o :: o'' :: l := by
  rw [List.set_append_right _ _ (by lia), Nat.add_sub_cancel_left]; rfl
theorem ls_at {n : Nat} {xs : List AV} (h : H[n]? = some (.lst xs)) : lsOf H (.ref n) = some xs := by
  show (match H[n]? with | some (.lst xs) => some xs | _ => none) = _; rw [h]
theorem ndc_at {n : Nat} {xs : List AV} (h : H[n]? = some (.lst xs)) : dcOf H (.ref n) = none := by
  show (match H[n]? with | some (.dict es) => some (n, es) | some (.ldict es) => some (n, es) | _ => none) = _; rw [h]
theorem not_before {α : Type} {xs : List α} {j : Nat} {x : α} (hd : xs.Nodup) (hj : xs[j]? = some x) : x ∉ xs.take j := fun q => by
  obtain ⟨i, hi, e⟩ := List.mem_iff_getElem.mp q
  rw [List.length_take] at hi
  rw [List.getElem_take] at e
  have hlt := (List.getElem?_eq_some_iff.mp hj).1
  have e2 := (List.getElem?_eq_some_iff.mp hj).2
  have := (List.getElem_inj hd).mp (e.trans e2.symm)
  lia
theorem take_snoc {α β : Type} {f : α → β} {xs : List α} {j : Nat} {x : α} (hj : xs[j]? = some x) : (xs.take j).map f ++ [f x] = (xs.take (j + 1)).map f := by
  rw [List.take_add_one, hj]; simp
theorem name_len {x : Str} (h : nameOK x = true) : x.length ≤ 100000 := by
  unfold nameOK at h
  simp only [Bool.and_eq_true, decide_eq_true_eq] at h
  lia
structure NeedsOK (ns : List (Str × Int)) : Prop where
  names : ∀ n ∈ ns, nameOK n.1 = true
  nodup : (ns.map (·.1)).Nodup
  counts : ∀ n ∈ ns, 1 ≤ n.2 ∧ n.2 ≤ 9
  few : ns.length ≤ 1000
theorem needs_run (C : BookR R) {ns : List (Str × Int)} (hn : NeedsOK ns) : R (k + 2) false 7 [.lst (ns.map needAV)] H = .ok (.ref (H.length + 1)) (H ++ [.lst ((ns.map (·.1)).map .str), .lst (ns.map needAV)]) := by
  rw [C.checked_needs _ _ _ _ rfl]
  suffices h : dc_checked_needs (R (k + 1)) false (rho0 [.lst (ns.map needAV)] 5) H = .ret (.ref (H.length + 1)) (H ++ [.lst ((ns.map (·.1)).map .str), .lst (ns.map needAV)]) by rw [h]; rfl
  refine s_asg (a := .ref H.length) (H₁ := H ++ [.lst []]) rfl (s_asg (a := .ref (H.length + 1)) (H₁ := H ++ [.lst [], .lst []]) ?_ ?_)
  · refine (e_lst l_nil (by decide) rfl).trans ?_
    show Out.ok (AV.ref (H ++ [AO.lst []]).length) ((H ++ [AO.lst []]) ++ [AO.lst []]) = _
    rw [List.length_append, List.append_assoc]; rfl
  show (forS false (.many [3, 4]) (varE 0) _ [some (.lst (ns.map needAV)), some (.ref H.length), some (.ref (H.length + 1)), none, none] (H ++ [.lst [], .lst []])).then _ = _
  rw [for_many (a := .lst (ns.map needAV)) (xs := ns.map needAV) (n := (ns.map needAV).length) rfl rfl]
  refine loop_any (P := fun o => o.then _ = .ret (.ref (H.length + 1)) (H ++ [.lst ((ns.map (·.1)).map .str), .lst (ns.map needAV)])) (fun k ρ H' => (∃ o o', ρ = [some (.lst (ns.map needAV)), some (.ref H.length), some (.ref (H.length + 1)), o, o']) ∧ H' = H ++ [.lst (((ns.map (·.1)).take k).map .str), .lst ((ns.take k).map needAV)]) ?_ ?_ _ 0 _ _ (Nat.add_zero _) ⟨⟨_, _, rfl⟩, rfl⟩
  · rintro j v ρ H' hv ⟨⟨o, o', rfl⟩, rfl⟩
    rw [List.getElem?_map] at hv
    obtain ⟨⟨x, c⟩, hj, rfl⟩ := Option.map_eq_some_iff.mp hv
    have hm := List.mem_of_getElem? hj
    have hj1 : (ns.map (·.1))[j]? = some x := by rw [List.getElem?_map, hj]; rfl
    have hlt := (List.getElem?_eq_some_iff.mp hj).1
    have hx := hn.names _ hm
    have hc := hn.counts _ hm
    have hf := hn.few
    have hnot := not_before hn.nodup hj1
    refine .inl ⟨[some (.lst (ns.map needAV)), some (.ref H.length), some (.ref (H.length + 1)), some (.str x), some (.int c)], H ++ [.lst (((ns.map (·.1)).take (j + 1)).map .str), .lst ((ns.take (j + 1)).map needAV)], ?_, ⟨_, _, rfl⟩, rfl⟩
    show seqS _ [some (.lst (ns.map needAV)), some (.ref H.length), some (.ref (H.length + 1)), some (.str x), some (.int c)] _ = _
    refine s_skip (e_nt (x := true) (e_call (l_one rfl) ((isname_run C (name_len hx)).trans (by rw [hx])))) ?_
    refine s_skip (e_cmp rfl rfl ((in_strs (ndc_at get_l0) (ls_at get_l0)).trans (by rw [decide_eq_false hnot]))) ?_
    refine s_skip (e_or2 (x := false) (y := false) (e_nt (x := true) (e_call (l_one rfl) (whole_run C))) (e_nt (x := true) ((e_cmp2 (c := .int 9) (x := decide (1 ≤ c)) (y := decide (c ≤ 9)) rfl rfl rfl rfl rfl).trans (by rw [decide_eq_true hc.1, decide_eq_true hc.2]; rfl)))) ?_
    refine s_expr (e_append rfl get_l0 (l_one rfl) get_l0 (by simp; lia)) ?_
    rw [set_l0, take_snoc (f := AV.str) hj1]
    refine s_expr (e_append rfl get_l1 (l_one (e_tup (l_two rfl rfl) (by simp))) get_l1 (by simp; lia)) ?_
    rw [set_l1]
    show OutS.next _ (H ++ [_, AO.lst (List.map needAV (ns.take j) ++ [needAV (x, c)])]) = _
    rw [take_snoc (f := needAV) hj]
  · rintro ρ H' ⟨⟨o, o', rfl⟩, rfl⟩
    rw [List.length_map]
    have e1 : (ns.map (·.1)).take ns.length = ns.map (·.1) := List.take_of_length_le (by simp)
    rw [e1, List.take_length]; rfl
end
section
variable {R : Nat → Bool → FT} {k : Nat} {hot : Bool} {H : AH} {b fd wd : Nat} {ps : List PR} {ss : List SR}
structure SkillsOK (xs : List Str) : Prop where
  names : ∀ x ∈ xs, nameOK x = true
  nodup : xs.Nodup
  few : xs.length ≤ 1000
theorem folk_len {ps : List PR} : (folkD ps).length = ps.length := by unfold folkD; simp
theorem work_len {ss : List SR} : (workD ss).length = ss.length := by unfold workD; simp
noncomputable def addP (H : AH) (fd : Nat) (ps : List PR) (nm : Str) (sk : List Str) (lim : Int) : AH := (H ++ [AO.lst (sk.map .str), AO.inst 0 (pfs H.length (H.length + 2) lim), AO.lst []] : AH).set fd (.dict (folkD ps ++ [(.str nm, .ref (H.length + 1))]))
theorem add_person_run (C : BookR R) (B : BookAt H b fd wd ps ss) {nm : Str} {sk : List Str} {lim : Int} (hn : nameOK nm = true) (hs : SkillsOK sk) (hl : 1 ≤ lim ∧ lim ≤ 31) (hx : nm ∉ ps.map (·.2.name)) :
    R (k + 3) false 13 [.ref b, .str nm, .lst (sk.map .str), .int lim] H = .ok .none (addP H fd ps nm sk lim) := by
  rw [C.add_person _ _ _ _ rfl]
  have hin : ((folkD ps).any fun e => decide (e.1 = Key.str nm)) = false := by
    unfold folkD; rw [in_keys]; exact decide_eq_false hx
  suffices q : dc_Book_add_person (R (k + 2)) false (rho0 [.ref b, .str nm, .lst (sk.map .str), .int lim] 5) H = .next [some (.ref b), some (.str nm), some (.lst (sk.map .str)), some (.int lim), some (.ref H.length)] (addP H fd ps nm sk lim) by rw [q]; rfl
  have B1 : BookAt (H ++ [.lst (sk.map .str)]) b fd wd ps ss := B.grow
  have B2 : BookAt ((H ++ [.lst (sk.map .str)]) ++ [.inst 0 (pfs H.length ((H ++ [AO.lst (sk.map .str)]).length + 1) lim), .lst []]) b fd wd ps ss := B1.grow
  refine s_skip (e_nt (x := true) (e_call (l_one rfl) ((isname_run C (name_len hn)).trans (by rw [hn])))) ?_
  refine s_asg (e_call (l_one rfl) (skills_run C hs.names hs.nodup hs.few fun x hx => name_len (hs.names x hx))) ?_
  refine s_skip (e_or2 (x := false) (y := false) (e_nt (x := true) (e_call (l_one rfl) (whole_run C))) (e_nt (x := true) ((e_cmp2 (c := .int 31) (x := decide (1 ≤ lim)) (y := decide (lim ≤ 31)) rfl rfl rfl rfl rfl).trans (by rw [decide_eq_true hl.1, decide_eq_true hl.2]; rfl)))) ?_
  refine s_skip (e_cmp rfl (e_attr rfl B1.book rfl) (in_dict B1.folk hin)) ?_
  refine s_item (person_new C (l_two rfl rfl)) (e_attr rfl B2.book rfl) rfl (set_key B2.folk (by rw [folk_len]; have := B.few; lia) hin) ?_
  show OutS.next _ _ = _
  unfold addP
  rw [List.append_assoc, List.length_append]
  rfl
theorem get_ap {H : AH} {l : AH} {n : Nat} (h : n < H.length) : (H ++ l)[n]? = H[n]? := List.getElem?_append_left h
theorem get_set_ne {H : AH} {n m : Nat} {o : AO} (h : n ≠ m) : (H.set n o)[m]? = H[m]? := by rw [List.getElem?_set, if_neg h]
theorem get_set_eq {H : AH} {n : Nat} {o : AO} (h : n < H.length) : (H.set n o)[n]? = some o := by rw [List.getElem?_set, if_pos rfl, if_pos h]
theorem addP_keep {nm : Str} {sk : List Str} {lim : Int} {n : Nat} (hn : n < H.length) (h : n ≠ fd) : (addP H fd ps nm sk lim)[n]? = H[n]? := by
  unfold addP
  rw [get_set_ne (Ne.symm h), get_ap hn]
theorem nodup_more {l m : List Nat} {N : Nat} (h : l.Nodup) (hl : ∀ n ∈ l, n < N) (hm : m.Nodup) (hm2 : ∀ n ∈ m, N ≤ n) : (l ++ m).Nodup := by
  rw [List.nodup_append]
  exact ⟨h, hm, fun a ha b hb e => by have := hl a ha; have := hm2 b hb; lia⟩
theorem nodup_perm_p {q : PR} (h : (bRefs b fd wd ps ss ++ pRefs q).Nodup) : (bRefs b fd wd (ps ++ [q]) ss).Nodup := by
  refine List.Perm.nodup ?_ h
  unfold bRefs
  rw [List.flatMap_append]
  show (b :: fd :: wd :: (ps.flatMap pRefs ++ ss.flatMap sRefs) ++ pRefs q).Perm (b :: fd :: wd :: ((ps.flatMap pRefs ++ (pRefs q ++ [])) ++ ss.flatMap sRefs))
  rw [List.append_nil]
  refine List.Perm.cons _ (List.Perm.cons _ (List.Perm.cons _ ?_))
  show ((ps.flatMap pRefs ++ ss.flatMap sRefs) ++ pRefs q).Perm _
  rw [List.append_assoc, List.append_assoc]
  exact List.Perm.append_left _ List.perm_append_comm
theorem BookAt.addP (B : BookAt H b fd wd ps ss) {nm : Str} {sk : List Str} {lim : Int} (hf : ps.length + ss.length < 1000) : BookAt (addP H fd ps nm sk lim) b fd wd (ps ++ [((H.length + 1, H.length, H.length + 2), ⟨nm, sk, lim, []⟩)]) ss := by
  have nd := B.nodup
  have hfd : fd < H.length := B.lt _ (.tail _ (.head _))
  unfold bRefs at nd
  have hb : b ≠ fd := fun e => (List.nodup_cons.mp nd).1 (e ▸ .head _)
  have hw : wd ≠ fd := fun e => (List.nodup_cons.mp (List.nodup_cons.mp nd).2).1 (e ▸ .head _)
  have hr : ∀ n ∈ ps.flatMap pRefs ++ ss.flatMap sRefs, n ≠ fd := fun n hn e => (List.nodup_cons.mp (List.nodup_cons.mp nd).2).1 (e ▸ .tail _ hn)
  have kp : ∀ n ∈ bRefs b fd wd ps ss, n ≠ fd → (Mine.addP H fd ps nm sk lim)[n]? = H[n]? := fun n hn h => addP_keep (B.lt n hn) h
  have new : ∀ (j : Nat) (o : AO), ([AO.lst (sk.map .str), .inst 0 (pfs H.length (H.length + 2) lim), .lst []] : AH)[j]? = some o → (Mine.addP H fd ps nm sk lim)[H.length + j]? = some o := fun j o h => by
    unfold Mine.addP
    rw [get_set_ne (by lia), List.getElem?_append_right (by lia), Nat.add_sub_cancel_left]
    exact h
  refine ⟨(kp _ (.head _) hb).trans B.book, ?_, (kp _ (.tail _ (.tail _ (.head _))) hw).trans B.work, fun p hp => ?_, fun s hs => ?_, nodup_perm_p (nodup_more B.nodup B.lt ?_ ?_), by rw [List.length_append]; simp; lia⟩
  · unfold Mine.addP
    rw [get_set_eq (by rw [List.length_append]; lia)]
    unfold folkD
    rw [List.map_append]; rfl
  · rcases List.mem_append.mp hp with hp | hp
    · have m := mem_p (b := b) (fd := fd) (wd := wd) (ss := ss) hp
      have hh : ∀ n ∈ pRefs p, n ≠ fd := fun n hn => hr n (List.mem_append.mpr (.inl (List.mem_flatMap.mpr ⟨p, hp, hn⟩)))
      exact ⟨(kp _ m.1 (hh _ (.head _))).trans (B.pat p hp).ob, (kp _ m.2.1 (hh _ (.tail _ (.head _)))).trans (B.pat p hp).sk, (kp _ m.2.2 (hh _ (.tail _ (.tail _ (.head _))))).trans (B.pat p hp).aw⟩
    · cases List.mem_singleton.mp hp
      exact ⟨new 1 _ rfl, new 0 _ rfl, new 2 _ rfl⟩
  · have m := mem_s (b := b) (fd := fd) (wd := wd) (ps := ps) hs
    have hh : ∀ n ∈ sRefs s, n ≠ fd := fun n hn => hr n (List.mem_append.mpr (.inr (List.mem_flatMap.mpr ⟨s, hs, hn⟩)))
    exact ⟨(kp _ m.1 (hh _ (.head _))).trans (B.sat s hs).ob, (kp _ m.2 (hh _ (.tail _ (.head _)))).trans (B.sat s hs).nd⟩
  · simp [pRefs]
  · intro n hn
    simp only [pRefs, List.mem_cons, List.not_mem_nil, or_false] at hn
    lia
end
section
variable {ρ : RE} {H H₁ : AH} {a : AV} {xs : List AV} {mt : Bool}
theorem compL_ref {T E : AV → AH → Out AV} {p : AV → Bool} {g : AV → AV} {r : Nat} (hr : H[r]? = some (.lst xs)) (hT : ∀ v ∈ xs, T v H = .ok (.bool (p v)) H) (hE : ∀ v ∈ xs, p v = true → E v H = .ok (g v) H) : ∀ (n k : Nat) (acc : List AV), compL T E (.lref r) n k acc H = compL T E (.seq xs) n k acc H
  | 0, k, acc => by unfold compL; simp only [itemAt, hr]
  | n + 1, k, acc => by
    have ih := fun k acc => compL_ref hr hT hE n k acc
    unfold compL
    simp only [itemAt, hr]
    cases hk : xs[k]? with
    | none => rfl
    | some v =>
      have hm := List.mem_of_getElem? hk
      simp only [hT v hm, Out.bind, asBool]
      cases hp : p v with
      | false => exact ih _ _
      | true => simp only [if_true, hE v hm hp]; exact ih _ _
theorem e_compR {elt it cond : DE} {r : Nat} {p : AV → Bool} {g : AV → AV} {o : Out AV} (h : it ρ H = .ok (.ref r) H₁) (hr : H₁[r]? = some (.lst xs)) (hl : xs.length ≤ 1000000) (hT : ∀ v ∈ xs, cond (ρ ++ [some v]) H₁ = .ok (.bool (p v)) H₁) (hE : ∀ v ∈ xs, p v = true → elt (ρ ++ [some v]) H₁ = .ok (g v) H₁)
    (ho : newL mt ((xs.filter p).map g) H₁ = o) : compE false mt elt it cond ρ H = o := by
  unfold compE
  rw [h]
  have hs : srcOf H₁ (.ref r) = some (.lref r, xs.length, none) := by
    show (match H₁[r]? with | some (.lst xs) => some (Src.lref r, xs.length, none) | some (.dict es) => some (.seq (es.map fun e => e.1.av), es.length, some r) | some (.ldict es) => some (.seq (es.map fun e => e.1.av), es.length, none) | _ => none : Option (Src × Nat × Option Nat)) = _
    rw [hr]
  show orBad (srcOf H₁ (.ref r)) _ = _
  rw [hs]
  show (if false = false ∧ xs.length ≤ 1000000 then _ else _) = _
  rw [if_pos ⟨rfl, hl⟩]
  show (Out.calm (compL _ _ (.lref r) xs.length 0 [] H₁)).bind _ = _
  rw [compL_ref hr hT hE, compL_pure hT hE _ _ _ (by simp)]
  exact ho
end
section
variable {R : Nat → Bool → FT} {k : Nat} {hot : Bool} {H : AH} {b fd wd : Nat} {ps : List PR} {ss : List SR}
noncomputable def meet (r h : Int × Int) : Bool := decide (r.1 < h.2) && decide (h.1 < r.2)
theorem eq_nil {xs : List AV} {ds : List PyData} (h : denL (den 19 H) xs = some ds) : cmpA H .Eq (.lst xs) (.lst []) = some xs.isEmpty := by
  show ((denL (den 19 H) xs).map PyData.list).bind (fun x => (some (PyData.list [])).map fun y => PyData.eqv x y) = _
  rw [h]
  cases xs with
  | nil => cases h; rfl
  | cons v r =>
    refine x1_2 (Option.bind_eq_some_iff.mp h) fun d h1 h => ?_
    refine x1_2 (Option.map_eq_some_iff.mp h) fun l h2 h => ?_
    cases h
    rfl
theorem den_sts {rs : List (Int × Int)} : denL (den 19 H) (rs.map stAV) = some (rs.map fun r => .tuple [.int r.1, .int r.2]) := by
  induction rs with
  | nil => rfl
  | cons r l ih => show ((den 19 H (stAV r)).bind fun d => (denL (den 19 H) (l.map stAV)).map (d :: ·)) = _; rw [ih]; rfl
noncomputable def mayM (p : Pm) (s : Sm) (skill : Str) : Bool := decide (skill ∈ p.skills) && p.rests.all fun r => !meet r s.hours
theorem may_run (C : BookR R) (D : MayR R) (B : BookAt H b fd wd ps ss) (hp : (ps.map (·.2.name)).Nodup) (hs : (ss.map (·.2.name)).Nodup) {p : PR} (mp : p ∈ ps) {s : SR} (ms : s ∈ ss) {skill : Str} (hr : p.2.rests.length ≤ 1000000) :
    R (k + 2) false 26 [.ref b, .str p.2.name, .str s.2.name, .str skill] H = .ok (.bool (mayM p.2 s.2 skill)) H := by
  rw [D.may _ _ _ _ rfl]
  suffices q : dc_Book_may (R (k + 1)) false (rho0 [.ref b, .str p.2.name, .str s.2.name, .str skill] 6) H = .ret (.bool (mayM p.2 s.2 skill)) H by rw [q]; rfl
  have P := B.pat p mp
  have S := B.sat s ms
  refine s_asg (e_mo rfl B.book (i := 16) rfl (l_one rfl) (person_run C B hp mp)) ?_
  refine s_asg (e_attr (e_mo rfl B.book (i := 17) rfl (l_one rfl) (shift_run C B hs ms)) S.ob rfl) ?_
  have nin : cmpA H .NotIn (.str skill) (.ref p.1.2.1) = some (!decide (skill ∈ p.2.skills)) := by
    show (inA H (.str skill) (.ref p.1.2.1)).map (!·) = _
    have : inA H (.str skill) (.ref p.1.2.1) = some (decide (skill ∈ p.2.skills)) := in_strs (ndc_at P.sk) (ls_at P.sk)
    rw [this]; rfl
  refine s_if (e_cmp rfl (e_attr rfl P.ob rfl) nin) (fun h => ?_) fun h => ?_
  · rw [Bool.not_eq_true'] at h
    unfold mayM
    rw [h]; rfl
  · rw [Bool.not_eq_false'] at h
    have hm : mayM p.2 s.2 skill = p.2.rests.all fun r => !meet r s.2.hours := by unfold mayM; rw [h]; rfl
    rw [hm]
    refine s_ret (e_cmp (e_compR (xs := p.2.rests.map stAV) (p := fun v => match v with | .tup [.int x, .int y] => meet (x, y) s.2.hours | _ => false) (g := id) (e_attr rfl P.ob rfl) P.aw (by simpa using hr) (fun v hv => ?_) (fun v hv _ => rfl) rfl) rfl ?_)
    · refine x1_2 (List.mem_map.mp hv) fun r _ e2' => ?_; subst e2'
      exact e_call (l_two rfl rfl) (meets_run D)
    · rw [List.map_id]
      have e : (p.2.rests.map stAV).filter (fun v => match v with | .tup [.int x, .int y] => meet (x, y) s.2.hours | _ => false) = (p.2.rests.filter fun r => meet r s.2.hours).map stAV := by
        rw [List.filter_map]; rfl
      rw [e]
      refine (eq_nil den_sts).trans (congrArg some ?_)
      rw [Bool.eq_iff_iff]
      simp [List.filter_eq_nil_iff]
end
section
variable {R : Nat → Bool → FT} {k : Nat} {hot : Bool} {H : AH} {b fd wd : Nat} {ps : List PR} {ss : List SR}
noncomputable def stOK (st : Int × Int) : Bool := decide (0 ≤ st.1) && (decide (st.1 < st.2) && decide (st.2 ≤ 1000000))
noncomputable def restH (H : AH) (p : PR) (st : Int × Int) : AH := H.set p.1.2.2 (.lst ((p.2.rests ++ [st]).map stAV))
theorem add_rest_run (C : BookR R) (B : BookAt H b fd wd ps ss) (hn : (ps.map (·.2.name)).Nodup) {p : PR} (hp : p ∈ ps) {st : Int × Int} (hs : stOK st = true) (hl : p.2.rests.length ≤ 1000000) :
    R (k + 3) false 14 [.ref b, .str p.2.name, stAV st] H = .ok .none (restH H p st) := by
  rw [C.add_rest _ _ _ _ rfl]
  have P := B.pat p hp
  suffices q : dc_Book_add_rest (R (k + 2)) false (rho0 [.ref b, .str p.2.name, stAV st] 4) H = .next [some (.ref b), some (.str p.2.name), some (stAV st), some (.ref p.1.1)] (restH H p st) by rw [q]; rfl
  refine s_asg (e_mo rfl B.book (i := 16) rfl (l_one rfl) (person_run C B hn hp)) ?_
  refine s_skip (e_nt (x := true) (e_call (l_one rfl) ((stretch_run C).trans (by rw [show (decide (0 ≤ st.1) && (decide (st.1 < st.2) && decide (st.2 ≤ 1000000))) = true from hs])))) ?_
  refine s_expr (e_append (e_attr rfl P.ob rfl) P.aw (l_one rfl) P.aw (by simpa using hl)) ?_
  show OutS.next _ (H.set p.1.2.2 (.lst (p.2.rests.map stAV ++ [stAV st]))) = _
  unfold restH
  rw [List.map_append]; rfl
noncomputable def restP (p : PR) (st : Int × Int) : PR := (p.1, { p.2 with rests := p.2.rests ++ [st] })
theorem map_set_same {α β : Type} {f : α → β} {l : List α} {i : Nat} {a a' : α} (h : l[i]? = some a) (e : f a' = f a) : (l.set i a').map f = l.map f := by
  rw [List.map_set, e]
  refine List.ext_getElem? fun j => ?_
  rw [List.getElem?_set]
  split
  · rename_i q
    subst q
    rw [List.length_map, List.getElem?_map, h, if_pos (List.getElem?_eq_some_iff.mp h).1]; rfl
  · rfl
theorem flat_own {α : Type} {f : α → List Nat} : ∀ {l : List α}, (l.flatMap f).Nodup → ∀ a ∈ l, (f a).Nodup
  | [], _, a, h => nomatch h
  | b :: r, hn, a, h => by
    rw [List.flatMap_cons, List.nodup_append] at hn
    cases h with
    | head => exact hn.1
    | tail _ h => exact flat_own hn.2.1 a h
theorem flat_apart {α : Type} {f : α → List Nat} : ∀ {l : List α}, (l.flatMap f).Nodup → ∀ (i j : Nat) a b x, i < j → l[i]? = some a → l[j]? = some b → x ∈ f a → x ∉ f b
  | [], _, i, j, a, b, x, _, h, _ => nomatch h
  | c :: r, hn, 0, j + 1, a, b, x, _, h1, h2 => by
    rw [List.flatMap_cons, List.nodup_append] at hn
    cases h1
    intro hx hy
    exact hn.2.2 x hx x (List.mem_flatMap.mpr ⟨b, List.mem_of_getElem? h2, hy⟩) rfl
  | c :: r, hn, i + 1, j + 1, a, b, x, hl, h1, h2 => by
    rw [List.flatMap_cons, List.nodup_append] at hn
    exact flat_apart hn.2.1 i j a b x (by lia) h1 h2
theorem BookAt.rest (B : BookAt H b fd wd ps ss) {i : Nat} {p : PR} (hi : ps[i]? = some p) {st : Int × Int} : BookAt (restH H p st) b fd wd (ps.set i (restP p st)) ss := by
  have hp := List.mem_of_getElem? hi
  have nd := B.nodup
  have hlt := B.lt _ (mem_p (b := b) (fd := fd) (wd := wd) (ss := ss) hp).2.2
  have e1 : (ps.set i (restP p st)).map pRefs = ps.map pRefs := map_set_same hi rfl
  have er : bRefs b fd wd (ps.set i (restP p st)) ss = bRefs b fd wd ps ss := by
    unfold bRefs
    rw [List.flatMap_def, e1, ← List.flatMap_def]
  -- the list of rests is no other's
  have key : ∀ j q, ps[j]? = some q → j ≠ i → ∀ n ∈ pRefs q, n ≠ p.1.2.2 := by
    intro j q hj ne n hn e
    have h2 : (ps.flatMap pRefs).Nodup := by
      unfold bRefs at nd
      have := (List.nodup_cons.mp (List.nodup_cons.mp (List.nodup_cons.mp nd).2).2).2
      rw [List.nodup_append] at this
      exact this.1
    have m2 : p.1.2.2 ∈ pRefs p := .tail _ (.tail _ (.head _))
    rcases Nat.lt_or_gt_of_ne ne with l | l
    · exact flat_apart h2 j i q p _ l hj hi (e ▸ hn) m2
    · exact flat_apart h2 i j p q _ l hi hj m2 (e ▸ hn)
  have own : p.1.1 ≠ p.1.2.2 ∧ p.1.2.1 ≠ p.1.2.2 := by
    unfold bRefs at nd
    have := (List.nodup_cons.mp (List.nodup_cons.mp (List.nodup_cons.mp nd).2).2).2
    rw [List.nodup_append] at this
    have := flat_own this.1 p hp
    simp only [pRefs, List.nodup_cons, List.mem_cons, List.not_mem_nil, or_false, not_or] at this
    exact ⟨this.1.2, this.2.1⟩
  have ho : ∀ n, n ≠ p.1.2.2 → (restH H p st)[n]? = H[n]? := fun n h => get_set_ne (Ne.symm h)
  have m := (mem_p (b := b) (fd := fd) (wd := wd) (ss := ss) hp).2.2
  unfold bRefs at nd
  obtain ⟨n1, nd⟩ := List.nodup_cons.mp nd
  obtain ⟨n2, nd⟩ := List.nodup_cons.mp nd
  obtain ⟨n3, nd⟩ := List.nodup_cons.mp nd
  have inP : p.1.2.2 ∈ ps.flatMap pRefs := List.mem_flatMap.mpr ⟨p, hp, .tail _ (.tail _ (.head _))⟩
  have inA : p.1.2.2 ∈ ps.flatMap pRefs ++ ss.flatMap sRefs := List.mem_append.mpr (.inl inP)
  refine ⟨(ho b fun e => n1 (e ▸ .tail _ (.tail _ inA))).trans B.book, ?_, (ho wd fun e => n3 (e ▸ inA)).trans B.work, fun q hq => ?_, fun s hs => ?_, er ▸ B.nodup, by rw [List.length_set]; exact B.few⟩
  · rw [ho fd fun e => n2 (e ▸ .tail _ inA), B.folk]
    exact congrArg (fun l => some (AO.dict l)) (map_set_same (f := fun p : PR => ((Key.str p.2.name, AV.ref p.1.1) : Key × AV)) (a' := restP p st) hi rfl).symm
  · obtain ⟨j, hj⟩ := List.mem_iff_getElem?.mp hq
    rw [List.getElem?_set] at hj
    split at hj
    · rename_i e
      subst e
      split at hj <;> cases hj
      have P := B.pat p hp
      exact ⟨(ho _ own.1).trans P.ob, (ho _ own.2).trans P.sk, get_set_eq hlt⟩
    · rename_i ne
      have P := B.pat q (List.mem_of_getElem? hj)
      have kk := key j q hj (Ne.symm ne)
      exact ⟨(ho _ (kk _ (.head _))).trans P.ob, (ho _ (kk _ (.tail _ (.head _)))).trans P.sk, (ho _ (kk _ (.tail _ (.tail _ (.head _))))).trans P.aw⟩
  · have S := B.sat s hs
    have dis : ∀ n ∈ sRefs s, n ≠ p.1.2.2 := fun n hn e => by
      rw [List.nodup_append] at nd
      exact nd.2.2 p.1.2.2 inP n (List.mem_flatMap.mpr ⟨s, hs, hn⟩) e.symm
    exact ⟨(ho _ (dis _ (.head _))).trans S.ob, (ho _ (dis _ (.tail _ (.head _)))).trans S.nd⟩
end
section
variable {R : Nat → Bool → FT} {k : Nat} {hot : Bool} {H : AH} {b fd wd : Nat} {ps : List PR} {ss : List SR}
noncomputable def dayOK (st : Int × Int) : Bool := decide (st.1 / 24 = (st.2 - 1) / 24)
noncomputable def addS' (H : AH) (wd : Nat) (ss : List SR) (nm : Str) (h : Int × Int) (ns : List (Str × Int)) : AH := (H ++ [AO.lst ((ns.map (·.1)).map .str), AO.lst (ns.map needAV), AO.inst 1 (sfs h (H.length + 1))] : AH).set wd (.dict (workD ss ++ [(.str nm, .ref (H.length + 2))]))
theorem add_shift_run (C : BookR R) (B : BookAt H b fd wd ps ss) {nm : Str} {h : Int × Int} {ns : List (Str × Int)} (hn : nameOK nm = true) (hs : stOK h = true) (hd : dayOK h = true) (hns : NeedsOK ns) (hx : nm ∉ ss.map (·.2.name)) :
    R (k + 3) false 15 [.ref b, .str nm, stAV h, .lst (ns.map needAV)] H = .ok .none (addS' H wd ss nm h ns) := by
  rw [C.add_shift _ _ _ _ rfl]
  have hin : ((workD ss).any fun e => decide (e.1 = Key.str nm)) = false := by
    unfold workD; rw [in_keys]; exact decide_eq_false hx
  suffices q : dc_Book_add_shift (R (k + 2)) false (rho0 [.ref b, .str nm, stAV h, .lst (ns.map needAV)] 5) H = .next [some (.ref b), some (.str nm), some (stAV h), some (.lst (ns.map needAV)), some (.ref (H.length + 1))] (addS' H wd ss nm h ns) by rw [q]; rfl
  have B1 : BookAt (H ++ [.lst ((ns.map (·.1)).map .str), .lst (ns.map needAV)]) b fd wd ps ss := B.grow
  have B2 : BookAt ((H ++ [.lst ((ns.map (·.1)).map .str), .lst (ns.map needAV)]) ++ [.inst 1 (sfs h (H.length + 1))]) b fd wd ps ss := B1.grow
  refine s_skip (e_nt (x := true) (e_call (l_one rfl) ((isname_run C (name_len hn)).trans (by rw [hn])))) ?_
  refine s_skip (e_or2 (x := false) (y := false) (e_nt (x := true) (e_call (l_one rfl) ((stretch_run C).trans (by rw [show (decide (0 ≤ h.1) && (decide (h.1 < h.2) && decide (h.2 ≤ 1000000))) = true from hs])))) (e_nt (x := true) (e_call (l_one rfl) ((one_day_run C).trans (by rw [show decide (h.1 / 24 = (h.2 - 1) / 24) = true from hd]))))) ?_
  refine s_asg (e_call (l_one rfl) (needs_run C hns)) ?_
  refine s_skip (e_cmp rfl (e_attr rfl B1.book rfl) (in_dict B1.work hin)) ?_
  refine s_item (shift_new C (l_two rfl rfl)) (e_attr rfl B2.book rfl) rfl (set_key B2.work (by rw [work_len]; have := B.few; lia) hin) ?_
  show OutS.next _ _ = _
  unfold addS'
  rw [List.append_assoc, List.length_append]
  rfl
theorem nodup_perm_s {q : SR} (h : (bRefs b fd wd ps ss ++ sRefs q).Nodup) : (bRefs b fd wd ps (ss ++ [q])).Nodup := by
  unfold bRefs at h ⊢
  rw [List.flatMap_append, ← List.append_assoc]
  show (b :: fd :: wd :: (ps.flatMap pRefs ++ ss.flatMap sRefs ++ (sRefs q ++ []))).Nodup
  rw [List.append_nil]
  exact h
theorem addS_keep {nm : Str} {h : Int × Int} {ns : List (Str × Int)} {n : Nat} (hn : n < H.length) (hw : n ≠ wd) : (addS' H wd ss nm h ns)[n]? = H[n]? := by
  unfold addS'
  rw [get_set_ne (Ne.symm hw), get_ap hn]
theorem BookAt.addS (B : BookAt H b fd wd ps ss) {nm : Str} {h : Int × Int} {ns : List (Str × Int)} (hf : ps.length + ss.length < 1000) : BookAt (addS' H wd ss nm h ns) b fd wd ps (ss ++ [((H.length + 2, H.length + 1), ⟨nm, h, ns⟩)]) := by
  have nd := B.nodup
  have hwd : wd < H.length := B.lt _ (.tail _ (.tail _ (.head _)))
  unfold bRefs at nd
  obtain ⟨n1, nd⟩ := List.nodup_cons.mp nd
  obtain ⟨n2, nd⟩ := List.nodup_cons.mp nd
  obtain ⟨n3, nd⟩ := List.nodup_cons.mp nd
  have kp : ∀ n ∈ bRefs b fd wd ps ss, n ≠ wd → (addS' H wd ss nm h ns)[n]? = H[n]? := fun n hn h => addS_keep (B.lt n hn) h
  have new : ∀ (j : Nat) (o : AO), ([AO.lst ((ns.map (·.1)).map .str), AO.lst (ns.map needAV), AO.inst 1 (sfs h (H.length + 1))] : AH)[j]? = some o → (addS' H wd ss nm h ns)[H.length + j]? = some o := fun j o e => by
    unfold addS'
    rw [get_set_ne (by lia), List.getElem?_append_right (by lia), Nat.add_sub_cancel_left]
    exact e
  refine ⟨(kp _ (.head _) fun e => n1 (e ▸ .tail _ (.head _))).trans B.book, (kp _ (.tail _ (.head _)) fun e => n2 (e ▸ .head _)).trans B.folk, ?_, fun p hp => ?_, fun s hs => ?_, nodup_perm_s (nodup_more B.nodup B.lt ?_ ?_), by rw [List.length_append]; simp; lia⟩
  · unfold addS'
    rw [get_set_eq (by rw [List.length_append]; lia)]
    unfold workD
    rw [List.map_append]; rfl
  · have m := mem_p (b := b) (fd := fd) (wd := wd) (ss := ss) hp
    have hh : ∀ n ∈ pRefs p, n ≠ wd := fun n hn e => n3 (e ▸ List.mem_append.mpr (.inl (List.mem_flatMap.mpr ⟨p, hp, hn⟩)))
    exact ⟨(kp _ m.1 (hh _ (.head _))).trans (B.pat p hp).ob, (kp _ m.2.1 (hh _ (.tail _ (.head _)))).trans (B.pat p hp).sk, (kp _ m.2.2 (hh _ (.tail _ (.tail _ (.head _))))).trans (B.pat p hp).aw⟩
  · rcases List.mem_append.mp hs with hs | hs
    · have m := mem_s (b := b) (fd := fd) (wd := wd) (ps := ps) hs
      have hh : ∀ n ∈ sRefs s, n ≠ wd := fun n hn e => n3 (e ▸ List.mem_append.mpr (.inr (List.mem_flatMap.mpr ⟨s, hs, hn⟩)))
      exact ⟨(kp _ m.1 (hh _ (.head _))).trans (B.sat s hs).ob, (kp _ m.2 (hh _ (.tail _ (.head _)))).trans (B.sat s hs).nd⟩
    · cases List.mem_singleton.mp hs
      exact ⟨new 2 _ rfl, new 1 _ rfl⟩
  · simp [sRefs]
  · intro n hn
    simp only [sRefs, List.mem_cons, List.not_mem_nil, or_false] at hn
    lia
theorem BookAt.new : BookAt (H ++ [.inst 2 (bfs (H.length + 1) (H.length + 2)), .dict [], .dict []]) H.length (H.length + 1) (H.length + 2) [] [] :=
  ⟨get_l0, get_l1, by simp [workD], (fun _ q => nomatch q), (fun _ q => nomatch q), by simp [bRefs], by simp⟩
end
theorem strsOf_one : ∀ cs : List Nat, strsOf (cs.map one) = some (cs.map fun c => (⟨#[c]⟩ : Str))
  | [] => rfl
  | c :: cs => by
    show (strsOf (cs.map one)).map (_ :: ·) = _
    rw [strsOf_one cs]; rfl
theorem fold_ones : ∀ (cs : List Nat) (a : Array Nat), (cs.map fun c => (⟨#[c]⟩ : Str)).foldl (fun acc p => acc ++ (Str.ofString "").cps ++ p.cps) a = a ++ cs.toArray
  | [], a => by simp
  | c :: cs, a => by
    have e : (Str.ofString "").cps = #[] := by decide
    rw [List.map_cons, List.foldl_cons, fold_ones cs, e]
    simp
theorem join_one (cs : List Nat) : Txt.join (Str.ofString "") (cs.map fun c => (⟨#[c]⟩ : Str)) = ⟨cs.toArray⟩ := by
  unfold Txt.join Builtin.Str.glued
  congr 1
  cases cs with
  | nil => decide
  | cons c cs =>
    show ((cs.map fun c => (⟨#[c]⟩ : Str)).foldl (fun acc p => acc ++ (Str.ofString "").cps ++ p.cps) #[c]) = _
    rw [fold_ones]
    simp
theorem joinOk_one {cs : List Nat} (h : cs.length ≤ 100000) : JoinOk (Str.ofString "") (cs.map fun c => (⟨#[c]⟩ : Str)) = true := by
  refine joinOk_of_weight ?_ (by decide)
  have : ∀ cs : List Nat, ((cs.map fun c => (⟨#[c]⟩ : Str)).map (·.length)).sum = cs.length := by
    intro cs
    induction cs with
    | nil => rfl
    | cons c cs ih => rw [List.map_cons, List.map_cons, List.sum_cons, ih, List.length_cons]; show 1 + _ = _; lia
  rw [this, List.length_map]; lia
theorem str_ext {x y : Str} (h : x.cps.toList = y.cps.toList) : x = y := by
  cases x; cases y; congr 1; exact Array.toList_inj.mp h
theorem app_list (x y : Str) : (x ++ y).cps.toList = x.cps.toList ++ y.cps.toList := by
  rw [Str.cps_append, Array.toList_append]
noncomputable def tlL (c : Int) : List Nat := (List.range (c % 20).toNat).map fun (k : Nat) => sgc (c / 20 + 5 * k * (c % 7))
noncomputable def nmL (p c : Int) : List Nat := tlL c ++ [sgc p]
noncomputable def nm (p c : Int) : Str := ⟨(nmL p c).toArray⟩
theorem nm_ok (p c : Int) : nameOK (nm p c) = true := by
  unfold nameOK
  have h1 : (nm p c).length = (c % 20).toNat + 1 := by
    show (nmL p c).toArray.size = _
    simp [nmL, tlL]
  have h2 : (nm p c).cps.toList.all okc = true := by
    show (nmL p c).all okc = true
    rw [List.all_eq_true]
    intro x hx
    unfold nmL tlL at hx
    simp only [List.mem_append, List.mem_map, List.mem_singleton] at hx
    rcases hx with ⟨k, _, rfl⟩ | rfl <;> exact sgc_ok _
  rw [h1, h2]
  simp
  lia
section
variable {R : Nat → Bool → FT} {k : Nat} {H : AH} {ρ : RE}
theorem tail_comp (C : BookR R) {c : Int} {i n : Nat} (hi : ρ[i]? = some (some (.int c))) (hn : ρ.length = n) : compE false false (callE (R (k + 1) false) 9 [(binE false .Add (binE false .FloorDiv (varE i) (cstE (.int 20))) (binE false .Mult (binE false .Mult (cstE (.int 5)) (varE n)) (binE false .Mod (varE i) (cstE (.int 7)))))]) (biE false .range [(binE false .Mod (varE i) (cstE (.int 20)))]) (cstE (.bool true)) ρ H = .ok (.lst ((tlL c).map one)) H := by
  have hv : varE i ρ H = .ok (.int c) H := by show (match ρ[i]? with | some (some a) => Out.ok a H | _ => .bad) = _; rw [hi]
  refine e_map (xs := span 0 (c % 20)) (g := fun a => match a with | .int k => one (sgc (c / 20 + 5 * k * (c % 7))) | a => a) (e_bi (l_one (e_bin hv rfl (mod_ok (by decide)))) rfl) (range_src (by lia) (by lia)) (by rw [span_len, Int.sub_zero]) (by rw [span_len]; lia) (fun v hm => ?_) ?_
  · refine x1_3 (span_mem hm) fun j j0 j1 e3' => ?_; subst e3'
    have hi' : (ρ ++ [some (.int j)])[i]? = some (some (.int c)) := by rw [List.getElem?_append_left (List.getElem?_eq_some_iff.mp hi).1]; exact hi
    have v1 : varE i (ρ ++ [some (.int j)]) H = .ok (.int c) H := by show (match (ρ ++ [some (AV.int j)])[i]? with | some (some a) => Out.ok a H | _ => .bad) = _; rw [hi']
    have v2 : varE n (ρ ++ [some (.int j)]) H = .ok (.int j) H := by show (match (ρ ++ [some (AV.int j)])[n]? with | some (some a) => Out.ok a H | _ => .bad) = _; rw [← hn, List.getElem?_append_right (Nat.le_refl _), Nat.sub_self]; rfl
    exact e_call (l_one (e_bin (e_bin v1 rfl (div_ok (by decide))) (e_bin (e_bin rfl v2 (mulI (.inl (by decide)))) (e_bin v1 rfl (mod_ok (by decide))) (mulI (.inr (by lia)))) addI)) (sign_run C)
  · show Out.ok (AV.lst _) H = _
    unfold span tlL
    simp [List.map_map, Function.comp_def]
theorem e_join {cs : List Nat} {e : DE} {es : List DE} {H₁ H₂ : AH} (hl : cs.length ≤ 100000) (h1 : e ρ H = .ok (.str "") H₁) (h2 : evL es ρ H₁ = .ok [.lst (cs.map one)] H₂) : mbE .join e es ρ H = .ok (AV.str ⟨cs.toArray⟩) H₂ := by
  unfold mbE
  rw [h1]
  show (evL es ρ H₁).bind _ = _
  rw [h2]
  show (orBad ((some (cs.map one)).bind strsOf) fun ys => if JoinOk "" ys then Out.ok (AV.str (Txt.join "" ys)) H₂ else .bad) = _
  rw [Option.bind_some, strsOf_one]
  show (if JoinOk "" (cs.map fun c => (⟨#[c]⟩ : Str)) = true then _ else _) = _
  rw [if_pos (joinOk_one hl), join_one]
theorem tl_len (c : Int) : (tlL c).length < 20 := by unfold tlL; simp; lia
theorem nm_app (p c : Int) : (⟨(tlL c).toArray⟩ : Str) ++ (⟨#[sgc p]⟩ : Str) = nm p c := by
  refine str_ext ?_
  rw [app_list]; rfl
end
section
variable {ρ : RE} {H H₁ : AH} {a : AV} {xs : List AV} {mt : Bool}
theorem loop_ref {B : AV → DS} {P : OutS → Prop} {r : Nat} (Inv : Nat → RE → AH → Prop) (hr : ∀ k ρ H, Inv k ρ H → H[r]? = some (.lst xs))
    (step : ∀ (k : Nat) v ρ H, xs[k]? = some v → Inv k ρ H → (∃ ρ' H', B v ρ H = .next ρ' H' ∧ Inv (k + 1) ρ' H') ∨ (∃ a H', B v ρ H = .ret a H' ∧ P (.ret a H')) ∨ ∃ c ρ' H', B v ρ H = .exc c ρ' H' ∧ P (.exc c ρ' H'))
    (fin : ∀ ρ H, Inv xs.length ρ H → P (.next ρ H)) : ∀ (n k : Nat) (ρ : RE) (H : AH), n + k = xs.length → Inv k ρ H → P (loopS B (.lref r) n k ρ H)
  | 0, k, ρ, H, e, i => by
    have : xs[k]? = none := List.getElem?_eq_none (by lia)
    unfold loopS
    simp only [itemAt, hr k ρ H i, this]
    exact fin ρ H (by rw [show xs.length = k by lia]; exact i)
  | n + 1, k, ρ, H, e, i => by
    have hk : xs[k]? = some xs[k] := List.getElem?_eq_getElem (by lia)
    unfold loopS
    simp only [itemAt, hr k ρ H i, hk]
    rcases step k _ ρ H hk i with ⟨ρ', H', e1, i'⟩ | ⟨a, H', e1, p⟩ | ⟨c, ρ', H', e1, p⟩
    · rw [e1]; exact loop_ref Inv hr step fin n (k + 1) ρ' H' (by lia) i'
    · rw [e1]; exact p
    · rw [e1]; exact p
theorem for_ref {i r : Nat} {it : DE} {b : DS} (h : it ρ H = .ok (.ref r) H₁) (hr : H₁[r]? = some (.lst xs)) : forS false (.one i) it b ρ H = loopS (fun v ρ H => b (ρ.set i (some v)) H) (.lref r) xs.length 0 ρ H₁ := by
  unfold forS
  rw [h]
  have hs : srcOf H₁ (.ref r) = some (.lref r, xs.length, none) := by
    show (match H₁[r]? with | some (.lst xs) => some (Src.lref r, xs.length, none) | some (.dict es) => some (.seq (es.map fun e => e.1.av), es.length, some r) | some (.ldict es) => some (.seq (es.map fun e => e.1.av), es.length, none) | _ => none : Option (Src × Nat × Option Nat)) = _
    rw [hr]
  show orBadS (srcOf H₁ (.ref r)) _ = _
  rw [hs]
  exact free_none _
theorem sub_ref {r : Nat} {i : Int} {v : AV} (hr : H[r]? = some (.lst xs)) (h0 : 0 ≤ i) (h : xs[i.toNat]? = some v) (hl : xs.length ≤ 1000000) : subA (.ref r) (.int i) H = .ok v H := by
  have hlt := (List.getElem?_eq_some_iff.mp h).1
  have hs : small i = true := by unfold small; simp; lia
  have hi : idxA i xs.length = some i.toNat := by unfold idxA; rw [if_pos h0, if_pos (by lia)]
  have ha : atA i xs = some v := by
    unfold atA
    rw [hs, hi]
    exact h
  simp only [subA, ndc_at hr, asInt, ls_at hr, orBad, ha]
end
noncomputable def Up (N : Nat) (H H' : AH) : Prop := H.length ≤ H'.length ∧ ∀ n < N, H'[n]? = H[n]?
structure BookOf (N : Nat) (H : AH) (b : Nat) (ps : List Pm) (ss : List Sm) : Prop where
  ex : ∃ fd wd prs srs, BookAt H b fd wd prs srs ∧ prs.map (·.2) = ps ∧ srs.map (·.2) = ss ∧ ∀ n ∈ bRefs b fd wd prs srs, N ≤ n
section
variable {R : Nat → Bool → FT} {k : Nat} {hot : Bool} {H H' H'' : AH} {N N' b : Nat} {ps : List Pm} {ss : List Sm}
theorem Up.refl : Up N H H := ⟨Nat.le_refl _, fun _ _ => rfl⟩
theorem Up.trans (h : Up N H H') (h' : Up N H' H'') : Up N H H'' := ⟨Nat.le_trans h.1 h'.1, fun n hn => (h'.2 n hn).trans (h.2 n hn)⟩
theorem Up.mono (h : Up N H H') (hn : N' ≤ N) : Up N' H H' := ⟨h.1, fun n q => h.2 n (Nat.lt_of_lt_of_le q hn)⟩
theorem Up.app {l : AH} : Up H.length H (H ++ l) := ⟨by simp, fun n hn => List.getElem?_append_left hn⟩
theorem Up.get {n : Nat} {o : AO} (h : Up H.length H H') (e : H[n]? = some o) : H'[n]? = some o := (h.2 n (List.getElem?_eq_some_iff.mp e).1).trans e
theorem BookOf.le (B : BookOf N H b ps ss) : N ≤ H.length := by
  refine x4_4 (B.ex) fun fd wd prs srs B _ _ h => ?_
  have := B.lt b (.head _)
  have := h b (.head _)
  lia
theorem BookOf.up (B : BookOf N H b ps ss) (h : Up H.length H H') : BookOf N H' b ps ss := by
  refine x4_4 (B.ex) fun fd wd prs srs B e1 e2 hN => ?_
  exact ⟨fd, wd, prs, srs, B.frame fun n hn => h.2 n (B.lt n hn), e1, e2, hN⟩
theorem BookOf.at (B : BookOf N H b ps ss) : ∃ fs, H[b]? = some (.inst 2 fs) := by
  refine x4_2 (B.ex) fun fd wd prs srs B _ => ?_
  exact ⟨_, B.book⟩
theorem BookOf.new : BookOf H.length (H ++ [.inst 2 (bfs (H.length + 1) (H.length + 2)), .dict [], .dict []]) H.length [] [] :=
  ⟨_, _, [], [], BookAt.new, rfl, rfl, fun n hn => by simp [bRefs] at hn; lia⟩
end
noncomputable def UpQ (Q : Nat → Prop) (H H' : AH) : Prop := H.length ≤ H'.length ∧ ∀ n < H.length, ¬ Q n → H'[n]? = H[n]?
structure BookQ (Q : Nat → Prop) (H : AH) (b : Nat) (ps : List Pm) (ss : List Sm) : Prop where
  ex : ∃ fd wd prs srs, BookAt H b fd wd prs srs ∧ prs.map (·.2) = ps ∧ srs.map (·.2) = ss ∧ ∀ n ∈ bRefs b fd wd prs srs, Q n
section
variable {R : Nat → Bool → FT} {k : Nat} {H H' H'' : AH} {N b : Nat} {Q : Nat → Prop} {ps : List Pm} {ss : List Sm}
theorem UpQ.trans (h : UpQ Q H H') (h' : UpQ Q H' H'') : UpQ Q H H'' := ⟨Nat.le_trans h.1 h'.1, fun n hn q => (h'.2 n (Nat.lt_of_lt_of_le hn h.1) q).trans (h.2 n hn q)⟩
theorem UpQ.refl : UpQ Q H H := ⟨Nat.le_refl _, fun _ _ _ => rfl⟩
theorem UpQ.up (h : UpQ Q H H') (hN : N ≤ H.length) (hQ : ∀ n < N, ¬ Q n) : Up N H H' := ⟨h.1, fun n hn => h.2 n (Nat.lt_of_lt_of_le hn hN) (hQ n hn)⟩
theorem BookQ.of (B : BookQ Q H b ps ss) (hQ : ∀ n, Q n → N ≤ n) : BookOf N H b ps ss := by
  refine x4_4 (B.ex) fun fd wd prs srs A e1 e2 h => ?_
  exact ⟨fd, wd, prs, srs, A, e1, e2, fun n hn => hQ n (h n hn)⟩
theorem BookQ.up (B : BookQ Q H b ps ss) (h : Up H.length H H') : BookQ Q H' b ps ss := by
  refine x4_4 (B.ex) fun fd wd prs srs A e1 e2 hN => ?_
  exact ⟨fd, wd, prs, srs, A.frame fun n hn => h.2 n (A.lt n hn), e1, e2, hN⟩
theorem BookQ.frame (B : BookQ Q H b ps ss) (h : ∀ n, Q n → n < H.length → H'[n]? = H[n]?) : BookQ Q H' b ps ss := by
  refine x4_4 (B.ex) fun fd wd prs srs A e1 e2 hN => ?_
  exact ⟨fd, wd, prs, srs, A.frame fun n hn => h n (hN n hn) (A.lt n hn), e1, e2, hN⟩
theorem BookOf.toQ (B : BookOf N H b ps ss) (hQ : ∀ n, N ≤ n → n < H.length → Q n) : BookQ Q H b ps ss := by
  refine x4_4 (B.ex) fun fd wd prs srs A e1 e2 h => ?_
  exact ⟨fd, wd, prs, srs, A, e1, e2, fun n hn => hQ n (h n hn) (A.lt n hn)⟩
theorem BookQ.at (B : BookQ Q H b ps ss) : ∃ fs, H[b]? = some (.inst 2 fs) := by
  refine x4_2 (B.ex) fun fd wd prs srs B _ => ?_
  exact ⟨_, B.book⟩
theorem add_person_q (C : BookR R) (B : BookQ Q H b ps ss) (hQ : ∀ n, H.length ≤ n → Q n) {nm : Str} {sk : List Str} {lim : Int} (hn : nameOK nm = true) (hs : SkillsOK sk) (hl : 1 ≤ lim ∧ lim ≤ 31) (hx : nm ∉ ps.map (·.name)) (hf : ps.length + ss.length < 1000) :
    ∃ H', R (k + 3) false 13 [.ref b, .str nm, .lst (sk.map .str), .int lim] H = .ok .none H' ∧ BookQ Q H' b (ps ++ [⟨nm, sk, lim, []⟩]) ss ∧ UpQ Q H H' := by
  refine x4_4 (B.ex) fun fd wd prs srs A e5' e6' hN => ?_; subst e5'; subst e6'
  refine ⟨_, add_person_run C A hn hs hl (by simpa [Function.comp_def] using hx), ⟨fd, wd, _, srs, A.addP (by simpa using hf), by simp, rfl, ?_⟩, ?_, ?_⟩
  · intro n hn
    simp only [bRefs, List.flatMap_append, List.mem_cons, List.mem_append, List.flatMap_cons, List.flatMap_nil, List.append_nil, pRefs, List.not_mem_nil, or_false] at hn
    have hh : n ∈ bRefs b fd wd prs srs ∨ n = H.length + 1 ∨ n = H.length ∨ n = H.length + 2 := by
      simp only [bRefs, List.mem_cons, List.mem_append]
      grind
    rcases hh with q | q | q | q
    · exact hN n q
    all_goals exact hQ n (by lia)
  · unfold addP; simp
  · intro n hn q
    exact addP_keep hn fun e => q (e ▸ hN fd (.tail _ (.head _)))
theorem add_shift_q (C : BookR R) (B : BookQ Q H b ps ss) (hQ : ∀ n, H.length ≤ n → Q n) {nm : Str} {h : Int × Int} {ns : List (Str × Int)} (hn : nameOK nm = true) (hs : stOK h = true) (hd : dayOK h = true) (hns : NeedsOK ns) (hx : nm ∉ ss.map (·.name)) (hf : ps.length + ss.length < 1000) :
    ∃ H', R (k + 3) false 15 [.ref b, .str nm, stAV h, .lst (ns.map needAV)] H = .ok .none H' ∧ BookQ Q H' b ps (ss ++ [⟨nm, h, ns⟩]) ∧ UpQ Q H H' := by
  refine x4_4 (B.ex) fun fd wd prs srs A e5' e6' hN => ?_; subst e5'; subst e6'
  refine ⟨_, add_shift_run C A hn hs hd hns (by simpa [Function.comp_def] using hx), ⟨fd, wd, prs, _, A.addS (by simpa using hf), rfl, by simp, ?_⟩, ?_, ?_⟩
  · intro n hn
    simp only [bRefs, List.flatMap_append, List.mem_cons, List.mem_append, List.flatMap_cons, List.flatMap_nil, List.append_nil, sRefs, List.not_mem_nil, or_false] at hn
    have hh : n ∈ bRefs b fd wd prs srs ∨ n = H.length + 2 ∨ n = H.length + 1 := by
      simp only [bRefs, List.mem_cons, List.mem_append]
      grind
    rcases hh with q | q | q
    · exact hN n q
    all_goals exact hQ n (by lia)
  · unfold addS'; simp
  · intro n hn q
    exact addS_keep hn fun e => q (e ▸ hN wd (.tail _ (.tail _ (.head _))))
theorem add_rest_q (C : BookR R) (B : BookQ Q H b ps ss) (hnd : (ps.map (·.name)).Nodup) {i : Nat} {p : Pm} (hi : ps[i]? = some p) {st : Int × Int} (hs : stOK st = true) (hl : p.rests.length ≤ 1000000) :
    ∃ H', R (k + 3) false 14 [.ref b, .str p.name, stAV st] H = .ok .none H' ∧ BookQ Q H' b (ps.set i { p with rests := p.rests ++ [st] }) ss ∧ UpQ Q H H' ∧ H'.length = H.length := by
  refine x4_4 (B.ex) fun fd wd prs srs A e5' e6' hN => ?_; subst e5'; subst e6'
  rw [List.getElem?_map] at hi
  refine x1_2 (Option.map_eq_some_iff.mp hi) fun q hq e2' => ?_; subst e2'
  have hm := List.mem_of_getElem? hq
  refine ⟨_, add_rest_run C A (by simpa [Function.comp_def] using hnd) hm hs hl, ⟨fd, wd, _, srs, A.rest hq, ?_, rfl, ?_⟩, ⟨?_, ?_⟩, ?_⟩
  · rw [List.map_set]; rfl
  · intro n hn
    refine hN n ?_
    unfold bRefs at hn ⊢
    rw [List.flatMap_def, List.flatMap_def, map_set_same (f := pRefs) (a' := restP q st) hq rfl] at hn
    rw [List.flatMap_def, List.flatMap_def]
    exact hn
  · unfold restH; simp
  · intro n hn z
    exact get_set_ne fun e => z (e ▸ hN _ (mem_p (b := b) (fd := fd) (wd := wd) (ss := srs) hm).2.2)
  · unfold restH; simp
theorem add_person_of (C : BookR R) (B : BookOf N H b ps ss) {nm : Str} {sk : List Str} {lim : Int} (hn : nameOK nm = true) (hs : SkillsOK sk) (hl : 1 ≤ lim ∧ lim ≤ 31) (hx : nm ∉ ps.map (·.name)) (hf : ps.length + ss.length < 1000) :
    ∃ H', R (k + 3) false 13 [.ref b, .str nm, .lst (sk.map .str), .int lim] H = .ok .none H' ∧ BookOf N H' b (ps ++ [⟨nm, sk, lim, []⟩]) ss ∧ Up N H H' := by
  obtain ⟨H', e, B', u⟩ := add_person_q (Q := fun n => N ≤ n) (k := k) C (B.toQ fun n h _ => h) (fun n h => Nat.le_trans B.le h) hn hs hl hx hf
  exact ⟨H', e, B'.of fun n h => h, u.up B.le fun n hn h => absurd h (Nat.not_le.mpr hn)⟩
theorem add_shift_of (C : BookR R) (B : BookOf N H b ps ss) {nm : Str} {h : Int × Int} {ns : List (Str × Int)} (hn : nameOK nm = true) (hs : stOK h = true) (hd : dayOK h = true) (hns : NeedsOK ns) (hx : nm ∉ ss.map (·.name)) (hf : ps.length + ss.length < 1000) :
    ∃ H', R (k + 3) false 15 [.ref b, .str nm, stAV h, .lst (ns.map needAV)] H = .ok .none H' ∧ BookOf N H' b ps (ss ++ [⟨nm, h, ns⟩]) ∧ Up N H H' := by
  obtain ⟨H', e, B', u⟩ := add_shift_q (Q := fun n => N ≤ n) (k := k) C (B.toQ fun n h _ => h) (fun n h => Nat.le_trans B.le h) hn hs hd hns hx hf
  exact ⟨H', e, B'.of fun n h => h, u.up B.le fun n hn h => absurd h (Nat.not_le.mpr hn)⟩
theorem add_rest_of (C : BookR R) (B : BookOf N H b ps ss) (hnd : (ps.map (·.name)).Nodup) {i : Nat} {p : Pm} (hi : ps[i]? = some p) {st : Int × Int} (hs : stOK st = true) (hl : p.rests.length ≤ 1000000) :
    ∃ H', R (k + 3) false 14 [.ref b, .str p.name, stAV st] H = .ok .none H' ∧ BookOf N H' b (ps.set i { p with rests := p.rests ++ [st] }) ss ∧ Up N H H' := by
  obtain ⟨H', e, B', u, _⟩ := add_rest_q (Q := fun n => N ≤ n) (k := k) C (B.toQ fun n h _ => h) hnd hi hs hl
  exact ⟨H', e, B'.of fun n h => h, u.up B.le fun n hn h => absurd h (Nat.not_le.mpr hn)⟩
end
inductive Ex2 {A B : Type} (P : A → B → Prop) : Prop
  | mk (a : A) (b : B) (p : P a b) : Ex2 P
inductive Ex3 {A B C : Type} (P : A → B → C → Prop) : Prop
  | mk (a : A) (b : B) (c : C) (p : P a b c) : Ex3 P
inductive Ex4 {A B C D : Type} (P : A → B → C → D → Prop) : Prop
  | mk (a : A) (b : B) (c : C) (d : D) (p : P a b c d) : Ex4 P
inductive Ex5 {A B C D E : Type} (P : A → B → C → D → E → Prop) : Prop
  | mk (a : A) (b : B) (c : C) (d : D) (e : E) (p : P a b c d e) : Ex5 P
inductive Ex6 {A B C D E F : Type} (P : A → B → C → D → E → F → Prop) : Prop
  | mk (a : A) (b : B) (c : C) (d : D) (e : E) (f : F) (p : P a b c d e f) : Ex6 P
inductive Ex7 {A B C D E F G : Type} (P : A → B → C → D → E → F → G → Prop) : Prop
  | mk (a : A) (b : B) (c : C) (d : D) (e : E) (f : F) (g : G) (p : P a b c d e f g) : Ex7 P
structure A2 (p1 p2 : Prop) : Prop where
  h1 : p1
  h2 : p2
structure A3 (p1 p2 p3 : Prop) : Prop where
  h1 : p1
  h2 : p2
  h3 : p3
structure A4 (p1 p2 p3 p4 : Prop) : Prop where
  h1 : p1
  h2 : p2
  h3 : p3
  h4 : p4
structure A5 (p1 p2 p3 p4 p5 : Prop) : Prop where
  h1 : p1
  h2 : p2
  h3 : p3
  h4 : p4
  h5 : p5
section
variable {P : OutS → Prop} {ρ ρ' : RE} {H H₁ H₂ H₃ H₄ : AH} {a : AV} {e t : DE} {r bs : List DS} {s b c : DS} {hot : Bool} {xs : List AV}
theorem p_asg {i : Nat} (h : e ρ H = .ok a H₁) (q : P (seqS r (ρ.set i (some a)) H₁)) : P (seqS (assignS hot (.one i) e :: r) ρ H) := by rw [s_asg h rfl]; exact q
theorem p_expr (h : e ρ H = .ok a H₁) (q : P (seqS r ρ H₁)) : P (seqS (exprS e :: r) ρ H) := by rw [s_expr h rfl]; exact q
theorem p_ret (h : e ρ H = .ok a H₁) (q : P (.ret a H₁)) : P (seqS (retS e :: r) ρ H) := by rw [s_ret h]; exact q
theorem p_nil (q : P (.next ρ H)) : P (seqS [] ρ H) := q
noncomputable def Th (r : List DS) (P : OutS → Prop) (o : OutS) : Prop := P (o.then (seqS r))
theorem th_nil (q : P (seqS r ρ H)) : Th r P (seqS [] ρ H) := q
theorem p_if {x : Bool} (h : t ρ H = .ok (.bool x) H₁) (q1 : x = true → Th r P (b ρ H₁)) (q2 : x = false → Th r P (c ρ H₁)) : P (seqS (ifS t b c :: r) ρ H) := by
  show P ((ifS t b c ρ H).then _); unfold ifS; rw [h]
  cases x with
  | true => exact q1 rfl
  | false => exact q2 rfl
theorem p_skip (h : t ρ H = .ok (.bool false) H₁) (q : P (seqS r ρ H₁)) : P (seqS (ifS t b (seqS []) :: r) ρ H) := by rw [s_skip h rfl]; exact q
theorem p_step (h : s ρ H = .next ρ' H₁) (q : P (seqS r ρ' H₁)) : P (seqS (s :: r) ρ H) := by rw [s_step h rfl]; exact q
noncomputable def Nx (I : RE → AH → Prop) (P : OutS → Prop) : OutS → Prop
  | .next ρ H => I ρ H
  | .ret a H => P (.ret a H)
  | .exc c ρ H => P (.exc c ρ H)
  | .bad => False
theorem nx_next {I : RE → AH → Prop} (h : I ρ H) : Nx I P (seqS [] ρ H) := h
theorem th_next {I : RE → AH → Prop} (h : I ρ H) : Th [] (Nx I P) (seqS [] ρ H) := h
theorem nx_cases {I : RE → AH → Prop} {o : OutS} (h : Nx I P o) : (∃ ρ' H', o = .next ρ' H' ∧ I ρ' H') ∨ (∃ a H', o = .ret a H' ∧ P (.ret a H')) ∨ ∃ c ρ' H', o = .exc c ρ' H' ∧ P (.exc c ρ' H') := by
  cases o with
  | next ρ H => exact .inl ⟨_, _, rfl, h⟩
  | ret a H => exact .inr (.inl ⟨_, _, rfl, h⟩)
  | exc c ρ H => exact .inr (.inr ⟨_, _, _, rfl, h⟩)
  | bad => exact h.elim
theorem p_for {i n : Nat} {it : DE} (h : it ρ H = .ok a H₁) (hs : srcOf H₁ a = some (.seq xs, n, none)) (hn : n = xs.length) (Inv : Nat → RE → AH → Prop) (i0 : Inv 0 ρ H₁)
    (step : ∀ (J : RE → AH → Prop) (j : Nat) v ρ H, xs[j]? = some v → Inv j ρ H → (∀ ρ' H', Inv (j + 1) ρ' H' → J ρ' H') → Nx J P (b (ρ.set i (some v)) H)) (fin : ∀ ρ H, Inv xs.length ρ H → P (seqS r ρ H)) : P (seqS (forS false (.one i) it b :: r) ρ H) := by
  show P ((forS false (.one i) it b ρ H).then _)
  rw [for_seq h hs]
  refine loop_any (P := fun o => P (o.then (seqS r))) Inv (fun j v ρ H e q => ?_) fin n 0 ρ H₁ (by omega) i0
  exact nx_cases (step (Inv (j + 1)) j v ρ H e q fun _ _ h => h)
theorem p_forR {i m : Nat} {it : DE} (h : it ρ H = .ok (.ref m) H₁) (hr : H₁[m]? = some (.lst xs)) (Inv : Nat → RE → AH → Prop) (i0 : Inv 0 ρ H₁) (hm : ∀ j ρ H, Inv j ρ H → H[m]? = some (.lst xs))
    (step : ∀ (J : RE → AH → Prop) (j : Nat) v ρ H, xs[j]? = some v → Inv j ρ H → (∀ ρ' H', Inv (j + 1) ρ' H' → J ρ' H') → Nx J P (b (ρ.set i (some v)) H)) (fin : ∀ ρ H, Inv xs.length ρ H → P (seqS r ρ H)) : P (seqS (forS false (.one i) it b :: r) ρ H) := by
  show P ((forS false (.one i) it b ρ H).then _)
  rw [for_ref h hr]
  refine loop_ref (P := fun o => P (o.then (seqS r))) Inv hm (fun j v ρ H e q => ?_) fin _ 0 ρ H₁ (by lia) i0
  exact nx_cases (step (Inv (j + 1)) j v ρ H e q fun _ _ h => h)
theorem p_item {e' e'' : DE} {v k : AV} (h1 : e'' ρ H = .ok v H₁) (h2 : e ρ H₁ = .ok a H₂) (h3 : e' ρ H₂ = .ok k H₃) (h4 : setItemA a k v H₃ = some H₄) (q : P (seqS r ρ H₄)) : P (seqS (setItemS e e' e'' :: r) ρ H) := by rw [s_item h1 h2 h3 h4 rfl]; exact q
end
set_option maxHeartbeats 2000000
section
variable {ρ : RE} {H H₁ : AH} {e : DE} {a : AV}
theorem e_var {i : Nat} (h : ρ[i]? = some (some a)) : varE i ρ H = .ok a H := by
  show (match ρ[i]? with | some (some a) => Out.ok a H | _ => .bad) = _; rw [h]
theorem var_app {i : Nat} {a v : AV} (h : ρ[i]? = some (some a)) : varE i (ρ ++ [some v]) H = .ok a H := e_var (by rw [List.getElem?_append_left (List.getElem?_eq_some_iff.mp h).1, h])
theorem var_new {n : Nat} {v : AV} (hn : ρ.length = n) : varE n (ρ ++ [some v]) H = .ok v H := e_var (by rw [← hn, List.getElem?_append_right (Nat.le_refl _), Nat.sub_self]; rfl)
theorem cell_n {R : Nat → Bool → FT} {k : Nat} {hot : Bool} (C : BookR R) {xs : List Int} (hx : xs.length ≤ 63) {n : Nat} (h : Nat.ble n 999 = true) : R (k + 1) hot 8 [.lst (xs.map .int), .int (OfNat.ofNat n)] H = .ok (.int (cell xs (OfNat.ofNat n))) H := by
  have h := Nat.le_of_ble_eq_true h
  refine cell_run C ?_ ?_ hx
  · show 0 ≤ (n : Int)
    lia
  · show (n : Int) < _
    lia
theorem bi_len {xs : List AV} {hot : Bool} (h : xs.length < 2 ^ 62) : biA hot .len [.lst xs] H = .ok (.int xs.length) H := by
  show (if xs.length < 2 ^ 62 then Out.ok (AV.int (xs.length : Nat)) H else .bad) = _; exact if_pos h
end
theorem sg_inj {a b : Nat} (h : (if a < 4 then a + 33 else a + 34) = (if b < 4 then b + 33 else b + 34)) : a = b := by
  split at h <;> split at h <;> lia
theorem sgc_inj' {i j : Int} (hi : 0 ≤ i ∧ i < 93) (hj : 0 ≤ j ∧ j < 93) (h : sgc i = sgc j) : i = j := by
  have := sg_inj h
  rw [Int.emod_eq_of_lt hi.1 hi.2, Int.emod_eq_of_lt hj.1 hj.2] at this
  rw [← Int.toNat_of_nonneg hi.1, ← Int.toNat_of_nonneg hj.1, this]
theorem nm_ne' {p q c d : Int} (hp : 0 ≤ p ∧ p < 93) (hq : 0 ≤ q ∧ q < 93) (h : p ≠ q) : nm p c ≠ nm q d := fun e => by
  have l : ∀ p c : Int, (nm p c).cps.toList.getLast? = some (sgc p) := fun p c => by
    show (nmL p c).getLast? = _
    unfold nmL; simp
  have := congrArg (fun x : Str => x.cps.toList.getLast?) e
  simp only [l, Option.some.injEq] at this
  exact h (sgc_inj' hp hq this)
noncomputable def IsL (N : Nat) (H : AH) (a : AV) (ys : List AV) : Prop := a = .lst ys ∨ ∃ r, a = .ref r ∧ r < N ∧ H[r]? = some (.lst ys)
section
variable {N : Nat} {H H' H₁ : AH} {a : AV} {xs ys : List AV} {PG : OutS → Prop} {ρ : RE} {r : List DS} {b : DS}
theorem IsL.up (h : IsL N H a ys) (u : Up N H H') : IsL N H' a ys := by
  rcases h with h | ⟨r, e, hr, h⟩
  · exact .inl h
  · exact .inr ⟨r, e, hr, (u.2 r hr).trans h⟩
theorem IsL.ls (h : IsL N H a ys) : lsOf H a = some ys := by
  rcases h with rfl | ⟨r, rfl, hr, h⟩
  · rfl
  · exact ls_at h
theorem IsL.nd (h : IsL N H a ys) : dcOf H a = none := by
  rcases h with rfl | ⟨r, rfl, hr, h⟩
  · rfl
  · exact ndc_at h
theorem IsL.sub (h : IsL N H a ys) {i : Int} {v : AV} (h0 : 0 ≤ i) (hv : ys[i.toNat]? = some v) (hl : ys.length ≤ 1000000) : subA a (.int i) H = .ok v H := by
  rcases h with rfl | ⟨r, rfl, hr, h⟩
  · exact subL h0 hv hl
  · exact sub_ref h h0 hv hl
theorem IsL.len (h : IsL N H a ys) (hl : ys.length ≤ 1000000) : biA false .len [a] H = .ok (.int ys.length) H := by
  show orBad (lenA H a) (fun n => if n < 2 ^ 62 then Out.ok (AV.int (n : Nat)) H else .bad) = _
  have : lenA H a = some ys.length := by
    rcases h with rfl | ⟨r, rfl, hr, h⟩
    · rfl
    · simp only [lenA, h]
  rw [this]
  exact if_pos (by lia)
theorem p_forL {i : Nat} {it : DE} (h : it ρ H = .ok a H₁) (hl : IsL N H₁ a xs) (Inv : Nat → RE → AH → Prop) (i0 : Inv 0 ρ H₁) (hup : ∀ j ρ H', Inv j ρ H' → Up N H₁ H')
    (step : ∀ (J : RE → AH → Prop) (j : Nat) v ρ H, xs[j]? = some v → Inv j ρ H → (∀ ρ' H', Inv (j + 1) ρ' H' → J ρ' H') → Nx J PG (b (ρ.set i (some v)) H)) (fin : ∀ ρ H, Inv xs.length ρ H → PG (seqS r ρ H)) : PG (seqS (forS false (.one i) it b :: r) ρ H) := by
  rcases hl with rfl | ⟨m, rfl, hm, hl⟩
  · exact p_for h rfl rfl Inv i0 step fin
  · exact p_forR h hl Inv i0 (fun j ρ H' q => ((hup j ρ H' q).2 m hm).trans hl) step fin
end
theorem set_snoc {α : Type} {l : List α} {x y : α} : (l ++ [x]).set l.length y = l ++ [y] := by simp
theorem take_snoc' {α β : Type} {f : α → β} {l : List α} {j : Nat} {x : α} (h : l[j]? = some x) : (l.take (j + 1)).map f = (l.take j).map f ++ [f x] := by
  rw [List.take_add_one, h, List.map_append]; rfl
theorem take_len {α : Type} {l : List α} {j : Nat} {x : α} (h : l[j]? = some x) : (l.take j).length = j := by
  have := (List.getElem?_eq_some_iff.mp h).1
  rw [List.length_take]; lia
theorem list_of {H : AH} {ys : List AV} (hl : ys.length ≤ 1000) : biA false (.list false) [.lst ys] H = .ok (.lst ys) H := by
  have hs : 1000 ≤ sizeLine := by decide
  show (if ys.length ≤ sizeLine then Out.ok (AV.lst ys) H else .bad) = _
  exact if_pos (by lia)
theorem span_get {n j : Nat} {v : AV} (hv : (span 0 n)[j]? = some v) : j < n ∧ ∃ D : Int, D = (j : Int) ∧ v = .int D := by
  have hd : j < n := by
    have := (List.getElem?_eq_some_iff.mp hv).1
    rw [span_len] at this; lia
  refine ⟨hd, j, rfl, ?_⟩
  unfold span at hv
  rw [List.getElem?_map, List.getElem?_range (by lia)] at hv
  simpa using hv.symm
noncomputable def SV (s : Sm) : AV := .tup [.str s.name, stAV s.hours, .lst (s.needs.map needAV)]
structure SmOK (s : Sm) : Prop where
  name : nameOK s.name = true
  hours : stOK s.hours = true
  day : dayOK s.hours = true
  needs : NeedsOK s.needs
structure PmOK (p : Pm) : Prop where
  name : nameOK p.name = true
  skills : SkillsOK p.skills
  limit : 1 ≤ p.limit ∧ p.limit ≤ 31
  rests : ∀ r ∈ p.rests, stOK r = true
  few : p.rests.length ≤ 3
theorem nodup_map {α β : Type} {l : List α} {f : α → β} (h : ∀ a ∈ l, ∀ b ∈ l, f a = f b → a = b) (hl : l.Nodup) : (l.map f).Nodup := List.pairwise_map.mpr (hl.imp_of_mem fun ha hb q e => q (h _ ha _ hb e))
theorem IsL.mono {N N' : Nat} {H : AH} {v : AV} {ys : List AV} (h : IsL N H v ys) (hn : N ≤ N') : IsL N' H v ys := by
  rcases h with h | ⟨r, e, hr, h⟩
  · exact .inl h
  · exact .inr ⟨r, e, Nat.lt_of_lt_of_le hr hn, h⟩
structure ReadR (R : Nat → Bool → FT) : Prop where
  people : ∀ k hot args H, args.length = 1 → R (k + 1) hot 18 args H = (dc_Book_people (R k) hot (rho0 args 1) H).done
  posts : ∀ k hot args H, args.length = 1 → R (k + 1) hot 20 args H = (dc_Book_posts (R k) hot (rho0 args 5) H).done
  limit_of : ∀ k hot args H, args.length = 2 → R (k + 1) hot 23 args H = (dc_Book_limit_of (R k) hot (rho0 args 2) H).done
  stretch_of : ∀ k hot args H, args.length = 2 → R (k + 1) hot 24 args H = (dc_Book_stretch_of (R k) hot (rho0 args 2) H).done
  count_of : ∀ k hot args H, args.length = 3 → R (k + 1) hot 25 args H = (dc_Book_count_of (R k) hot (rho0 args 5) H).done
  day_at : ∀ k hot args H, args.length = 2 → R (k + 1) hot 27 args H = (dc_day_at (R k) hot (rho0 args 2) H).done
noncomputable def postAV (p : Str × Str) : AV := .tup [.str p.1, .str p.2]
noncomputable def postsS (s : Sm) : List (Str × Str) := s.needs.map fun n => (s.name, n.1)
noncomputable def postsM (ss : List Sm) : List (Str × Str) := ss.flatMap postsS
section
variable {PG : OutS → Prop} {ρ : RE} {H H₁ : AH} {r : List DS} {b : DS} {N : Nat} {a : AV} {xs : List AV}
theorem p_forD {i m : Nat} {it : DE} {es : List (Key × AV)} (h : it ρ H = .ok (.ref m) H₁) (hr : H₁[m]? = some (.dict es)) (Inv : Nat → RE → AH → Prop) (i0 : Inv 0 ρ (H₁.set m (.ldict es))) (hl : ∀ j ρ H, Inv j ρ H → H[m]? = some (.ldict es))
    (step : ∀ (J : RE → AH → Prop) (j : Nat) v ρ H, (es.map fun e => e.1.av)[j]? = some v → Inv j ρ H → (∀ ρ' H', Inv (j + 1) ρ' H' → J ρ' H') → Nx J (fun _ => False) (b (ρ.set i (some v)) H)) (fin : ∀ ρ H, Inv es.length ρ H → PG (seqS r ρ (H.set m (.dict es)))) : PG (seqS (forS false (.one i) it b :: r) ρ H) := by
  show PG ((forS false (.one i) it b ρ H).then _)
  unfold forS
  rw [h]
  have hs : srcOf H₁ (.ref m) = some (.seq (es.map fun e => e.1.av), es.length, some m) := by
    show (match H₁[m]? with | some (.lst xs) => some (Src.lref m, xs.length, none) | some (.dict es) => some (.seq (es.map fun e => e.1.av), es.length, some m) | some (.ldict es) => some (.seq (es.map fun e => e.1.av), es.length, none) | _ => none : Option (Src × Nat × Option Nat)) = _
    rw [hr]
  have hk : lockH (some m) H₁ = H₁.set m (.ldict es) := by
    show (match H₁[m]? with | some (.dict es) => H₁.set m (.ldict es) | _ => H₁) = _
    rw [hr]
  show PG ((orBadS (srcOf H₁ (.ref m)) _).then _)
  rw [hs]
  show PG (((loopS (fun v ρ H => b (ρ.set i (some v)) H) (.seq (es.map fun e => e.1.av)) es.length 0 ρ (lockH (some m) H₁)).free (some m)).then _)
  rw [hk]
  refine loop_any (xs := es.map fun e => e.1.av) (P := fun o => PG ((o.free (some m)).then (seqS r))) Inv (fun j v ρ H e q => ?_) (fun ρ H q => ?_) es.length 0 _ _ (by simp) i0
  · rcases nx_cases (step (Inv (j + 1)) j v ρ H e q fun _ _ h => h) with h | ⟨_, _, _, h⟩ | ⟨_, _, _, _, h⟩
    · exact .inl h
    · exact h.elim
    · exact h.elim
  · rw [List.length_map] at q
    have : freeH (some m) H = H.set m (.dict es) := by
      show (match H[m]? with | some (.ldict es) => H.set m (.dict es) | _ => H) = _
      rw [hl _ _ _ q]
    show PG (seqS r ρ (freeH (some m) H))
    rw [this]
    exact fin ρ H q
theorem p_forML {is : List Nat} {it : DE} (h : it ρ H = .ok a H₁) (hl : IsL N H₁ a xs) (Inv : Nat → RE → AH → Prop) (i0 : Inv 0 ρ H₁) (hup : ∀ j ρ H', Inv j ρ H' → Up N H₁ H')
    (step : ∀ (J : RE → AH → Prop) (j : Nat) v ρ H, xs[j]? = some v → Inv j ρ H → (∀ ρ' H', Inv (j + 1) ρ' H' → J ρ' H') → ∃ ρ₁, bindT false (.many is) v ρ = some ρ₁ ∧ Nx J PG (b ρ₁ H)) (fin : ∀ ρ H, Inv xs.length ρ H → PG (seqS r ρ H)) : PG (seqS (forS false (.many is) it b :: r) ρ H) := by
  show PG ((forS false (.many is) it b ρ H).then _)
  have st : ∀ (j : Nat) v ρ H, xs[j]? = some v → Inv j ρ H → (∃ ρ' H', (orBadS (bindT false (.many is) v ρ) fun ρ₁ => b ρ₁ H) = .next ρ' H' ∧ Inv (j + 1) ρ' H') ∨ (∃ a H', (orBadS (bindT false (.many is) v ρ) fun ρ₁ => b ρ₁ H) = .ret a H' ∧ PG (OutS.then (.ret a H') (seqS r))) ∨ ∃ c ρ' H', (orBadS (bindT false (.many is) v ρ) fun ρ₁ => b ρ₁ H) = .exc c ρ' H' ∧ PG (OutS.then (.exc c ρ' H') (seqS r)) := by
    intro j v ρ H e q
    refine x1_2 (step (Inv (j + 1)) j v ρ H e q fun _ _ h => h) fun ρ₁ e1 n => ?_
    rw [e1]
    exact nx_cases n
  rcases hl with rfl | ⟨m, rfl, hm, hl⟩
  · rw [for_many h rfl]
    exact loop_any (P := fun o => PG (o.then (seqS r))) Inv st fin _ 0 ρ H₁ (by lia) i0
  · unfold forS
    rw [h]
    have hs : srcOf H₁ (.ref m) = some (.lref m, xs.length, none) := by
      show (match H₁[m]? with | some (.lst xs) => some (Src.lref m, xs.length, none) | some (.dict es) => some (.seq (es.map fun e => e.1.av), es.length, some m) | some (.ldict es) => some (.seq (es.map fun e => e.1.av), es.length, none) | _ => none : Option (Src × Nat × Option Nat)) = _
      rw [hl]
    show PG ((orBadS (srcOf H₁ (.ref m)) _).then _)
    rw [hs]
    show PG ((OutS.free none (loopS _ (.lref m) xs.length 0 ρ H₁)).then _)
    rw [free_none]
    exact loop_ref (P := fun o => PG (o.then (seqS r))) Inv (fun j ρ H' q => ((hup j ρ H' q).2 m hm).trans hl) st fin _ 0 ρ H₁ (by lia) i0
theorem sub_keyL {n : Nat} {es : List (Key × AV)} {x : Str} {v : AV} (h : H[n]? = some (.ldict es)) (hx : es.lookup (.str x) = some v) : subA (.ref n) (.str x) H = .ok v H := by
  have : dcOf H (.ref n) = some (n, es) := by
    show (match H[n]? with | some (.dict es) => some (n, es) | some (.ldict es) => some (n, es) | _ => none) = _; rw [h]
  unfold subA
  rw [this]
  show orBad (es.lookup (.str x)) _ = _
  rw [hx]; rfl
end
section
variable {R : Nat → Bool → FT} {k : Nat} {H : AH} {N b fd wd : Nat} {prs : List PR} {srs : List SR} {ps : List Pm} {ss : List Sm} {PG : OutS → Prop}
theorem flat_take {α β : Type} {f : α → List β} {l : List α} {j : Nat} {x : α} (h : l[j]? = some x) : (l.take (j + 1)).flatMap f = (l.take j).flatMap f ++ f x := by
  rw [List.take_add_one, h]; simp
theorem posts_take (j : Nat) : (postsM ((srs.take j).map (·.2))).length ≤ (postsM (srs.map (·.2))).length := by
  unfold postsM
  rw [List.map_take]
  generalize srs.map (·.2) = l
  have e : l.flatMap postsS = (l.take j).flatMap postsS ++ (l.drop j).flatMap postsS := by rw [← List.flatMap_append, List.take_append_drop]
  rw [e, List.length_append]
  exact Nat.le_add_right _ _
theorem posts_P (A : BookAt H b fd wd prs srs) (hsn : (srs.map (·.2.name)).Nodup) (hnf : ∀ s ∈ srs, s.2.needs.length ≤ 1000) (hpf : (postsM (srs.map (·.2))).length ≤ 10000) (fin : PG (.ret (.ref H.length) (H ++ [.lst ((postsM (srs.map (·.2))).map postAV)]))) :
    PG (dc_Book_posts (R k) false (rho0 [.ref b] 5) H) := by
  refine p_asg (a := .ref H.length) (H₁ := H ++ [AO.lst []]) rfl ?_
  have hlt := A.lt
  have hwd : wd < H.length := hlt _ (.tail _ (.tail _ (.head _)))
  have hbl : b < H.length := hlt _ (.head _)
  have nd := A.nodup
  have hbw : b ≠ wd := by
    intro q
    unfold bRefs at nd
    rw [List.nodup_cons] at nd
    exact nd.1 (by rw [q]; exact .tail _ (.head _))
  have hsw : ∀ s ∈ srs, s.1.1 ≠ wd ∧ s.1.2 ≠ wd := by
    intro s hs
    unfold bRefs at nd
    rw [List.nodup_cons, List.nodup_cons, List.nodup_cons] at nd
    have hm : ∀ n ∈ sRefs s, n ∈ prs.flatMap pRefs ++ srs.flatMap sRefs := fun n hn => List.mem_append.mpr (.inr (List.mem_flatMap.mpr ⟨s, hs, hn⟩))
    exact ⟨fun q => nd.2.2.1 (q ▸ hm _ (.head _)), fun q => nd.2.2.1 (q ▸ hm _ (.tail _ (.head _)))⟩
  have hset : ∀ x : AO, (H ++ [x]).set wd (.ldict (workD srs)) = H.set wd (.ldict (workD srs)) ++ [x] := fun x => List.set_append_left _ _ hwd
  have hset2 : ∀ x : AO, (H.set wd (.ldict (workD srs)) ++ [x]).set wd (.dict (workD srs)) = H ++ [x] := fun x => by
    rw [List.set_append_left _ _ (by rw [List.length_set]; exact hwd), List.set_set]
    congr 1
    refine List.ext_getElem? fun j => ?_
    rw [List.getElem?_set]
    split
    · rename_i e
      subst e
      first
        | (rw [A.work]; simp [hwd]; done)
        | (rw [A.work]; done)
    · rfl
  have hget : ∀ (x : AO) n, n < H.length → n ≠ wd → (H.set wd (.ldict (workD srs)) ++ [x])[n]? = H[n]? := fun x n h1 h2 => by
    rw [List.getElem?_append_left (by rw [List.length_set]; exact h1), get_set_ne (Ne.symm h2)]
  have hwl : ∀ x : AO, (H.set wd (.ldict (workD srs)) ++ [x])[wd]? = some (.ldict (workD srs)) := fun x => by
    rw [List.getElem?_append_left (by rw [List.length_set]; exact hwd), get_set_eq hwd]
  have hlast : ∀ x : AO, (H.set wd (.ldict (workD srs)) ++ [x])[H.length]? = some x := fun x => by
    have := get_last (H := H.set wd (.ldict (workD srs))) (o := x)
    rw [List.length_set] at this
    exact this
  have hslast : ∀ x y : AO, (H.set wd (.ldict (workD srs)) ++ [x]).set H.length y = H.set wd (.ldict (workD srs)) ++ [y] := fun x y => by
    have := set_last (H := H.set wd (.ldict (workD srs))) (o := x) (o' := y)
    rw [List.length_set] at this
    exact this
  refine p_forD (m := wd) (es := workD srs) (H₁ := H ++ [AO.lst []]) (e_attr rfl ((List.getElem?_append_left hbl).trans A.book) rfl) ((List.getElem?_append_left hwd).trans A.work)
    (fun j ρ H' => A2 (H' = H.set wd (.ldict (workD srs)) ++ [AO.lst ((postsM ((srs.take j).map (·.2))).map postAV)]) (Ex3 fun a2 a3 a4 => ρ = [some (.ref b), some (.ref H.length), a2, a3, a4])) ⟨hset _, _, _, _, rfl⟩ (fun j ρ H' h => by rw [h.1]; exact hwl _) ?_ ?_
  · rintro J j v ρ H' hv ⟨rfl, a2, a3, a4, rfl⟩ hJ
    unfold workD at hv
    rw [List.map_map, List.getElem?_map] at hv
    refine x1_2 (Option.map_eq_some_iff.mp hv) fun s hj e2' => ?_; subst e2'
    have hs := List.mem_of_getElem? hj
    have S := A.sat s hs
    have g1 : ∀ x : AO, (H.set wd (.ldict (workD srs)) ++ [x])[s.1.1]? = some (.inst 1 (sfs s.2.hours s.1.2)) := fun x => (hget x _ (List.getElem?_eq_some_iff.mp S.ob).1 (hsw s hs).1).trans S.ob
    have g2 : ∀ x : AO, (H.set wd (.ldict (workD srs)) ++ [x])[s.1.2]? = some (.lst (s.2.needs.map needAV)) := fun x => (hget x _ (List.getElem?_eq_some_iff.mp S.nd).1 (hsw s hs).2).trans S.nd
    have l2 : s.1.2 < H.length := (List.getElem?_eq_some_iff.mp S.nd).1
    show Nx _ _ ((_ : DS) [some (.ref b), some (.ref H.length), some (.str s.2.name), a3, a4] _)
    refine p_forML (N := H.length) (a := .ref s.1.2) (xs := s.2.needs.map needAV) (e_attr (e_sub (e_attr rfl ((hget _ _ hbl hbw).trans A.book) rfl) rfl (sub_keyL (hwl _) (look_s hs hsn))) (g1 _) rfl) (.inr ⟨_, rfl, l2, g2 _⟩)
      (fun i ρ H' => A2 (H' = H.set wd (.ldict (workD srs)) ++ [AO.lst ((postsM ((srs.take j).map (·.2)) ++ (s.2.needs.take i).map fun n => (s.2.name, n.1)).map postAV)]) (Ex2 fun a3 a4 => ρ = [some (.ref b), some (.ref H.length), some (.str s.2.name), a3, a4])) ⟨by simp, _, _, rfl⟩ (fun i ρ H' h => ?_) ?_ ?_
    · rw [h.1]
      refine ⟨by simp, fun n hn => ?_⟩
      rw [List.getElem?_append_left (by rw [List.length_set]; exact hn), List.getElem?_append_left (by rw [List.length_set]; exact hn)]
    · rintro J i v ρ H' hv ⟨rfl, a3, a4, rfl⟩ hJ
      rw [List.getElem?_map] at hv
      refine x1_2 (Option.map_eq_some_iff.mp hv) fun n hi e2' => ?_; subst e2'
      refine ⟨[some (.ref b), some (.ref H.length), some (.str s.2.name), some (.str n.1), some (.int n.2)], rfl, ?_⟩
      have hil := (List.getElem?_eq_some_iff.mp hi).1
      refine p_expr (a := .none) (e_append rfl (hlast _) (l_one (e_tup (l_two rfl rfl) (by simp))) (hlast _) (by rw [List.length_map, List.length_append, List.length_map, List.length_take]; have := hnf s hs; have := hpf; have := posts_take (srs := srs) j; lia)) ?_
      · refine nx_next (hJ _ _ ⟨?_, _, _, rfl⟩)
        rw [hslast, List.take_add_one, hi]
        simp [postAV]
    · rintro ρ H' ⟨rfl, a3, a4, rfl⟩
      refine nx_next (hJ _ _ ⟨?_, _, _, _, rfl⟩)
      congr 4
      rw [List.length_map, List.take_length]
      unfold postsM
      rw [List.map_take, List.map_take, flat_take (x := s.2) (by rw [List.getElem?_map, hj]; rfl)]
      rfl
  · rintro ρ H' ⟨rfl, a2, a3, a4, rfl⟩
    rw [work_len, List.take_length]
    refine p_ret rfl ?_
    rw [hset2]
    exact fin
end
section
variable {R : Nat → Bool → FT} {k : Nat} {hot : Bool} {H : AH} {N b : Nat} {ps : List Pm} {ss : List Sm} {PG : OutS → Prop}
structure Good (ps : List Pm) (ss : List Sm) : Prop where
  pn : (ps.map (·.name)).Nodup
  sn : (ss.map (·.name)).Nodup
  nf : ∀ s ∈ ss, s.needs.length ≤ 6
  nn : ∀ s ∈ ss, (s.needs.map (·.1)).Nodup
  pf : ps.length ≤ 100
  sf : ss.length ≤ 100
  rf : ∀ p ∈ ps, p.rests.length ≤ 1000
theorem posts_len {l : List Sm} (h : ∀ s ∈ l, s.needs.length ≤ 6) : (postsM l).length ≤ 6 * l.length := by
  induction l with
  | nil => simp [postsM]
  | cons s r ih =>
    have := ih fun x hx => h x (.tail _ hx)
    have h1 := h s (.head _)
    unfold postsM at this ⊢
    rw [List.flatMap_cons, List.length_append, List.length_cons]
    have : (postsS s).length = s.needs.length := by unfold postsS; simp
    lia
theorem posts_of (Q : ReadR R) (B : BookOf N H b ps ss) (G : Good ps ss) : R (k + 1) false 20 [.ref b] H = .ok (.ref H.length) (H ++ [.lst ((postsM ss).map postAV)]) := by
  rw [Q.posts _ _ _ _ rfl]
  have := posts_len G.nf
  have := G.sf
  have gn := G.sn
  have gf := G.nf
  refine x4_4 (B.ex) fun fd wd prs srs A e5' e6' hN => ?_; subst e5'; subst e6'
  exact posts_P (PG := fun o => o.done = .ok (.ref H.length) (H ++ [.lst ((postsM (srs.map (·.2))).map postAV)])) A (by simpa [Function.comp_def] using gn) (fun s hs => Nat.le_trans (gf s.2 (List.mem_map_of_mem hs)) (by decide)) (by lia) rfl
theorem people_of (Q : ReadR R) (B : BookOf N H b ps ss) : R (k + 1) false 18 [.ref b] H = .ok (.lst (ps.map fun p => .str p.name)) H := by
  rw [Q.people _ _ _ _ rfl]
  refine x4_4 (B.ex) fun fd wd prs srs A e5' e6' hN => ?_; subst e5'; subst e6'
  suffices q : dc_Book_people (R k) false (rho0 [.ref b] 1) H = .ret (.lst ((prs.map (·.2)).map fun p => .str p.name)) H by rw [q]; rfl
  refine s_ret (e_bi (l_one (e_attr rfl A.book rfl)) ?_)
  show (match dcOf H (.ref fd) with
      | some (_, es) => if !false && decide (es.length ≤ 1000000) then newL false (es.map fun (e : Key × AV) => e.1.av) H else .bad
      | none => orBad (lsOf H (.ref fd)) fun xs => if xs.length ≤ sizeLine then newL false xs H else .bad) = _
  rw [dc_at A.folk]
  have := A.few
  show (if (!false && decide ((folkD prs).length ≤ 1000000)) = true then _ else _) = _
  rw [folk_len, if_pos (by simp; lia)]
  show Out.ok (AV.lst ((folkD prs).map fun e => e.1.av)) H = _
  unfold folkD
  rw [List.map_map, List.map_map]
  rfl
theorem limit_of (C : BookR R) (Q : ReadR R) (B : BookOf N H b ps ss) (hn : (ps.map (·.name)).Nodup) {p : Pm} (hp : p ∈ ps) : R (k + 2) hot 23 [.ref b, .str p.name] H = .ok (.int p.limit) H := by
  rw [Q.limit_of _ _ _ _ rfl]
  refine x4_4 (B.ex) fun fd wd prs srs A e5' e6' hN => ?_; subst e5'; subst e6'
  refine x1_2 (List.mem_map.mp hp) fun q hq e2' => ?_; subst e2'
  suffices z : dc_Book_limit_of (R (k + 1)) hot (rho0 [.ref b, .str q.2.name] 2) H = .ret (.int q.2.limit) H by rw [z]; rfl
  exact s_ret (e_attr (e_mo rfl A.book (i := 16) rfl (l_one rfl) (person_run C A (by simpa [Function.comp_def] using hn) hq)) (A.pat q hq).ob rfl)
theorem stretch_of (C : BookR R) (Q : ReadR R) (B : BookOf N H b ps ss) (hn : (ss.map (·.name)).Nodup) {s : Sm} (hs : s ∈ ss) : R (k + 2) hot 24 [.ref b, .str s.name] H = .ok (stAV s.hours) H := by
  rw [Q.stretch_of _ _ _ _ rfl]
  refine x4_4 (B.ex) fun fd wd prs srs A e5' e6' hN => ?_; subst e5'; subst e6'
  refine x1_2 (List.mem_map.mp hs) fun q hq e2' => ?_; subst e2'
  suffices z : dc_Book_stretch_of (R (k + 1)) hot (rho0 [.ref b, .str q.2.name] 2) H = .ret (stAV q.2.hours) H by rw [z]; rfl
  exact s_ret (e_attr (e_mo rfl A.book (i := 17) rfl (l_one rfl) (shift_run C A (by simpa [Function.comp_def] using hn) hq)) (A.sat q hq).ob rfl)
theorem day_at (C : BookR R) (Q : ReadR R) (B : BookOf N H b ps ss) (hn : (ss.map (·.name)).Nodup) {s : Sm} (hs : s ∈ ss) : R (k + 3) hot 27 [.ref b, .str s.name] H = .ok (.int (s.hours.1 / 24)) H := by
  rw [Q.day_at _ _ _ _ rfl]
  obtain ⟨fs, hb⟩ := B.at
  suffices z : dc_day_at (R (k + 2)) hot (rho0 [.ref b, .str s.name] 2) H = .ret (.int (s.hours.1 / 24)) H by rw [z]; rfl
  exact s_ret (e_call (l_one (e_mo rfl hb (i := 24) rfl (l_one rfl) (stretch_of C Q B hn hs))) (day_run C))
theorem may_of (C : BookR R) (D : MayR R) (B : BookOf N H b ps ss) (G : Good ps ss) {p : Pm} {s : Sm} (hp : p ∈ ps) (hs : s ∈ ss) {x : Str} : R (k + 2) false 26 [.ref b, .str p.name, .str s.name, .str x] H = .ok (.bool (mayM p s x)) H := by
  have g1 := G.pn
  have g2 := G.sn
  have g3 := G.rf p hp
  refine x4_4 (B.ex) fun fd wd prs srs A e5' e6' hN => ?_; subst e5'; subst e6'
  refine x1_2 (List.mem_map.mp hp) fun q hq e2' => ?_; subst e2'
  refine x1_2 (List.mem_map.mp hs) fun z hz e2' => ?_; subst e2'
  exact may_run C D A (by simpa [Function.comp_def] using g1) (by simpa [Function.comp_def] using g2) hq hz (by lia)
theorem eq_strs {x y : Str} : cmpA H .Eq (.str x) (.str y) = some (decide (x = y)) := by
  show some (PyData.eqv (.str x) (.str y)) = _
  rw [eqv_str]
theorem count_P (C : BookR R) (B : BookOf N H b ps ss) (G : Good ps ss) {s : Sm} (hs : s ∈ ss) {n : Str × Int} (hn : n ∈ s.needs) (fin : PG (.ret (.int n.2) H)) : PG (dc_Book_count_of (R (k + 1)) false (rho0 [.ref b, .str s.name, .str n.1] 5) H) := by
  have g1 := G.sn
  have g2 := G.nn s hs
  have g3 := G.nf s hs
  refine x4_4 (B.ex) fun fd wd prs srs A e5' e6' hN => ?_; subst e5'; subst e6'
  refine x1_2 (List.mem_map.mp hs) fun q hq e2' => ?_; subst e2'
  have S := A.sat q hq
  refine p_forML (N := H.length) (a := .ref q.1.2) (H₁ := H) (xs := q.2.needs.map needAV) (e_attr (e_mo rfl A.book (i := 17) rfl (l_one rfl) (shift_run C A (by simpa [Function.comp_def] using g1) hq)) S.ob rfl) (.inr ⟨_, rfl, (List.getElem?_eq_some_iff.mp S.nd).1, S.nd⟩)
    (fun j ρ H' => A3 (H' = H) (n.1 ∉ (q.2.needs.take j).map (·.1)) (Ex2 fun a3 a4 => ρ = [some (.ref b), some (.str q.2.name), some (.str n.1), a3, a4])) ⟨rfl, by simp, _, _, rfl⟩ (fun j ρ H' h => by rw [h.1]; exact Up.refl) ?_ ?_
  · rintro J j v ρ H' hv ⟨rfl, hno, a3, a4, rfl⟩ hJ
    rw [List.getElem?_map] at hv
    refine x1_2 (Option.map_eq_some_iff.mp hv) fun m hj e2' => ?_; subst e2'
    refine ⟨[some (.ref b), some (.str q.2.name), some (.str n.1), some (.str m.1), some (.int m.2)], rfl, ?_⟩
    refine p_if (x := decide (m.1 = n.1)) (H₁ := H') (e_cmp rfl rfl eq_strs) (fun h => ?_) fun h => ?_
    · have h : m.1 = n.1 := by simpa using h
      have : m = n := by
        obtain ⟨i, hi, e⟩ := List.mem_iff_getElem.mp hn
        have hjl := (List.getElem?_eq_some_iff.mp hj).1
        have e2 : (q.2.needs.map (·.1))[i]'(by simpa using hi) = (q.2.needs.map (·.1))[j]'(by simpa using hjl) := by
          rw [List.getElem_map, List.getElem_map, e, (List.getElem?_eq_some_iff.mp hj).2, h]
        have := (List.getElem_inj g2).mp e2
        subst this
        rw [← e, (List.getElem?_eq_some_iff.mp hj).2]
      subst this
      exact p_ret (P := Th _ _) rfl fin
    · have h : ¬ m.1 = n.1 := by simpa using h
      refine th_next (hJ _ _ ⟨rfl, ?_, _, _, rfl⟩)
      rw [take_snoc' (f := fun n : Str × Int => n.1) hj]
      simp only [List.mem_append, List.mem_singleton, not_or]
      exact ⟨hno, fun e => h e.symm⟩
  · rintro ρ H' ⟨rfl, hno, a3, a4, rfl⟩
    rw [List.length_map, List.take_length] at hno
    exact absurd (List.mem_map_of_mem hn) hno
theorem count_of (C : BookR R) (Q : ReadR R) (B : BookOf N H b ps ss) (G : Good ps ss) {s : Sm} (hs : s ∈ ss) {n : Str × Int} (hn : n ∈ s.needs) : R (k + 2) false 25 [.ref b, .str s.name, .str n.1] H = .ok (.int n.2) H := by
  rw [Q.count_of _ _ _ _ rfl]
  exact count_P (PG := fun o => o.done = .ok (.int n.2) H) C B G hs hn rfl
end
section
variable {α : Type} {l : List α} {fx fy : α → AV} {p : α → Bool} {ρ : RE} {H H₁ : AH} {a : AV} {mt : Bool}
theorem compL_list {T E : AV → AH → Out AV} (hT : ∀ x ∈ l, T (fx x) H = .ok (.bool (p x)) H) (hE : ∀ x ∈ l, p x = true → E (fx x) H = .ok (fy x) H) : ∀ (n k : Nat) (acc : List AV), n + k = l.length → compL T E (.seq (l.map fx)) n k acc H = .ok (acc ++ ((l.drop k).filter p).map fy) H
  | 0, k, acc, e => by
    have : (l.map fx)[k]? = none := List.getElem?_eq_none (by rw [List.length_map]; lia)
    unfold compL
    simp only [itemAt, this]
    rw [List.drop_eq_nil_of_le (by lia)]
    simp
  | n + 1, k, acc, e => by
    have hk : k < l.length := by lia
    have hk' : (l.map fx)[k]? = some (fx l[k]) := by rw [List.getElem?_map, List.getElem?_eq_getElem hk]; rfl
    have hm : l[k] ∈ l := List.getElem_mem _
    unfold compL
    simp only [itemAt, hk']
    rw [hT _ hm, List.drop_eq_getElem_cons hk]
    show (if p l[k] = true then _ else _) = _
    cases hp : p l[k] with
    | false =>
      rw [if_neg (by decide), List.filter_cons_of_neg (by rw [hp]; decide)]
      exact compL_list hT hE n (k + 1) acc (by lia)
    | true =>
      rw [if_pos rfl, List.filter_cons_of_pos hp, hE _ hm hp]
      show compL T E (.seq (l.map fx)) n (k + 1) (acc ++ [fy l[k]]) H = _
      rw [compL_list hT hE n (k + 1) _ (by lia)]
      simp
theorem e_compF {elt it cond : DE} {o : Out AV} (h : it ρ H = .ok a H₁) (hl : IsL H₁.length H₁ a (l.map fx)) (hn : l.length ≤ 1000000) (hT : ∀ x ∈ l, cond (ρ ++ [some (fx x)]) H₁ = .ok (.bool (p x)) H₁) (hE : ∀ x ∈ l, p x = true → elt (ρ ++ [some (fx x)]) H₁ = .ok (fy x) H₁)
    (ho : newL mt ((l.filter p).map fy) H₁ = o) : compE false mt elt it cond ρ H = o := by
  have key := compL_list (T := fun v => cond (ρ ++ [some v])) (E := fun v => elt (ρ ++ [some v])) hT hE l.length 0 [] (by simp)
  rcases hl with rfl | ⟨r, rfl, hr, hl⟩
  · unfold compE
    rw [h]
    show (if false = false ∧ (l.map fx).length ≤ 1000000 then (Out.calm (compL _ _ (.seq (l.map fx)) (l.map fx).length 0 [] H₁)).bind _ else _) = _
    rw [if_pos ⟨rfl, by rw [List.length_map]; exact hn⟩, List.length_map, key]
    exact ho
  · unfold compE
    rw [h]
    have hs : srcOf H₁ (.ref r) = some (.lref r, (l.map fx).length, none) := by
      show (match H₁[r]? with | some (.lst xs) => some (Src.lref r, xs.length, none) | some (.dict es) => some (.seq (es.map fun e => e.1.av), es.length, some r) | some (.ldict es) => some (.seq (es.map fun e => e.1.av), es.length, none) | _ => none : Option (Src × Nat × Option Nat)) = _
      rw [hl]
    show orBad (srcOf H₁ (.ref r)) _ = _
    rw [hs]
    show (if false = false ∧ (l.map fx).length ≤ 1000000 then (Out.calm (compL _ _ (.lref r) (l.map fx).length 0 [] H₁)).bind _ else _) = _
    have sw : ∀ (n k : Nat) (acc : List AV), n + k = l.length → compL (fun v => cond (ρ ++ [some v])) (fun v => elt (ρ ++ [some v])) (.lref r) n k acc H₁ = compL (fun v => cond (ρ ++ [some v])) (fun v => elt (ρ ++ [some v])) (.seq (l.map fx)) n k acc H₁ := by
      intro n
      induction n with
      | zero =>
        intro k acc e
        unfold compL
        simp only [itemAt, hl]
      | succ n ih =>
        intro k acc e
        have hk : k < l.length := by lia
        have hk' : (l.map fx)[k]? = some (fx l[k]) := by rw [List.getElem?_map, List.getElem?_eq_getElem hk]; rfl
        have hm : l[k] ∈ l := List.getElem_mem _
        unfold compL
        simp only [itemAt, hl, hk']
        rw [hT _ hm]
        show (if p l[k] = true then _ else _) = (if p l[k] = true then _ else _)
        cases hp : p l[k] with
        | false =>
          rw [if_neg (by decide), if_neg (by decide)]
          exact ih (k + 1) acc (by lia)
        | true =>
          rw [if_pos rfl, if_pos rfl, hE _ hm hp]
          exact ih (k + 1) (acc ++ [fy l[k]]) (by lia)
    rw [if_pos ⟨rfl, by rw [List.length_map]; exact hn⟩, List.length_map, sw l.length 0 [] (by simp), key]
    exact ho
theorem e_mapF {elt it : DE} {o : Out AV} (h : it ρ H = .ok a H₁) (hl : IsL H₁.length H₁ a (l.map fx)) (hn : l.length ≤ 1000000) (hE : ∀ x ∈ l, elt (ρ ++ [some (fx x)]) H₁ = .ok (fy x) H₁) (ho : newL mt (l.map fy) H₁ = o) : compE false mt elt it (cstE (.bool true)) ρ H = o :=
  e_compF (p := fun _ => true) h hl hn (fun _ _ => rfl) (fun x hx _ => hE x hx) (by rw [List.filter_eq_self.mpr fun _ _ => rfl]; exact ho)
end
noncomputable def allSN (ss : List Sm) : List (Sm × (Str × Int)) := ss.flatMap fun s => s.needs.map fun n => (s, n)
noncomputable def postOf (x : Sm × (Str × Int)) : Str × Str := (x.1.name, x.2.1)
theorem posts_all (ss : List Sm) : postsM ss = (allSN ss).map postOf := by
  unfold postsM allSN
  rw [List.map_flatMap]
  congr 1
  funext s
  unfold postsS
  rw [List.map_map]; rfl
theorem all_mem {ss : List Sm} {x : Sm × (Str × Int)} (h : x ∈ allSN ss) : x.1 ∈ ss ∧ x.2 ∈ x.1.needs := by
  unfold allSN at h
  refine x1_2 (List.mem_flatMap.mp h) fun s hs h => ?_
  refine x1_2 (List.mem_map.mp h) fun n hn e2' => ?_; subst e2'
  exact ⟨hs, hn⟩
theorem all_len {ps : List Pm} {ss : List Sm} (G : Good ps ss) : (allSN ss).length ≤ 600 := by
  have := posts_len G.nf
  rw [posts_all, List.length_map] at this
  have := G.sf
  lia
structure Hold (D : Dk) (h : Str → List Nat) : Prop where
  nd : ∀ r, ((h r).map D.day).Nodup
  ft : ∀ r, ∀ x ∈ h r, r ∈ D.fits x
  mo : ∀ r, ((h r).length : Int) ≤ D.most r
noncomputable def upd (c : Str → List Nat) (r : Str) (l : List Nat) : Str → List Nat := fun q => if q = r then l else c q
theorem upd_eq {c : Str → List Nat} {r : Str} {l : List Nat} : upd c r l r = l := if_pos rfl
theorem upd_ne {c : Str → List Nat} {r q : Str} {l : List Nat} (h : q ≠ r) : upd c r l q = c q := if_neg h
noncomputable def load (P : List Str) (c : Str → List Nat) (x : Nat) : Nat := P.countP fun r => decide (x ∈ c r)
section
variable {D : Dk} {h c g : Str → List Nat} {P : List Str}
theorem nd_of_map {l : List Nat} {f : Nat → Int} (q : (l.map f).Nodup) : l.Nodup := by
  induction l with
  | nil => exact .nil
  | cons x r ih =>
    rw [List.map_cons, List.nodup_cons] at q
    exact List.nodup_cons.mpr ⟨fun m => q.1 (List.mem_map_of_mem m), ih q.2⟩
theorem nd_inj {α β : Type} {l : List α} {f : α → β} (q : (l.map f).Nodup) {x y : α} (hx : x ∈ l) (hy : y ∈ l) (e : f x = f y) : x = y := by
  induction l with
  | nil => cases hx
  | cons z r ih =>
    rw [List.map_cons, List.nodup_cons] at q
    rcases List.mem_cons.mp hx with hx | hx
    · rcases List.mem_cons.mp hy with hy | hy
      · rw [hx, hy]
      · exact absurd (hx ▸ e ▸ List.mem_map_of_mem hy) q.1
    · rcases List.mem_cons.mp hy with hy | hy
      · exact absurd (hy ▸ e ▸ List.mem_map_of_mem hx) q.1
      · exact ih q.2 hx hy
theorem nd_map {l : List Nat} {f : Nat → Int} (q : l.Nodup) (i : ∀ x ∈ l, ∀ y ∈ l, f x = f y → x = y) : (l.map f).Nodup := by
  induction l with
  | nil => exact .nil
  | cons x r ih =>
    rw [List.nodup_cons] at q
    rw [List.map_cons, List.nodup_cons]
    refine ⟨fun m => ?_, ih q.2 fun a ha b hb => i a (.tail _ ha) b (.tail _ hb)⟩
    obtain ⟨y, hy, e⟩ := List.mem_map.mp m
    rw [i y (.tail _ hy) x (.head _) e] at hy
    exact q.1 hy
theorem sub_len {α : Type} [DecidableEq α] {l m : List α} (q : l.Nodup) (s : ∀ x ∈ l, x ∈ m) : l.length ≤ m.length := by
  induction l generalizing m with
  | nil => exact Nat.zero_le _
  | cons x r ih =>
    rw [List.nodup_cons] at q
    have hx := s x (.head _)
    have := ih (m := m.erase x) q.2 fun y hy => (List.mem_erase_of_ne (show y ≠ x from fun e => q.1 (e ▸ hy))).mpr (s y (.tail _ hy))
    rw [List.length_erase_of_mem hx] at this
    have := List.length_pos_of_mem hx
    rw [List.length_cons]; omega
theorem nd_at {l : List Nat} (q : l.Nodup) {i j x : Nat} (h1 : l[i]? = some x) (h2 : l[j]? = some x) : i = j := (List.getElem?_inj (List.getElem?_eq_some_iff.mp h1).1 q).mp (h1.trans h2.symm)
theorem load_upd (hP : P.Nodup) {r : Str} (hr : r ∈ P) {l : List Nat} {x : Nat} : load P (upd c r l) x + (if x ∈ c r then 1 else 0) = load P c x + (if x ∈ l then 1 else 0) := by
  unfold load
  induction P with
  | nil => cases hr
  | cons q s ih =>
    rw [List.nodup_cons] at hP
    rw [List.countP_cons, List.countP_cons]
    rcases List.mem_cons.mp hr with rfl | hr
    · have e : s.countP (fun q => decide (x ∈ upd c r l q)) = s.countP fun q => decide (x ∈ c q) := List.countP_congr fun q hq => by rw [upd_ne (show q ≠ r from fun e => hP.1 (e ▸ hq))]
      rw [e, upd_eq]
      simp only [decide_eq_true_eq]
      omega
    · have := ih hP.2 hr
      rw [upd_ne (show q ≠ r from fun e => hP.1 (e ▸ hr))]
      omega
end
noncomputable abbrev Ent := Nat × Nat × Nat × Str
noncomputable def rowT (f : Nat) (T : List Ent) : List Nat := f :: T.map (·.1)
section
variable (D : Dk) (h : Str → List Nat) (f : Nat) (T : List Ent)
structure Full (a x : Nat) (r : Str) : Prop where
  no : ∀ z ∈ h r, D.day z ≠ D.day x
  mo : D.most r ≤ (h r).length
  all : ∀ z ∈ h r, z = f ∨ ∃ x' a' r', (z, x', a', r') ∈ T ∧ a' ≤ a
structure Tr : Prop where
  nd : (rowT f T).Nodup
  par : ∀ b y x a r, T[b]? = some (y, x, a, r) → a ≤ b ∧ (rowT f T)[a]? = some x ∧ r ∈ D.fits x ∧ y ∈ h r ∧ (D.day x = D.day y ∨ Full D h f T a x r)
noncomputable def Seen (x : Nat) (r : Str) : Prop := (∃ y ∈ h r, D.day y = D.day x ∧ y ∈ rowT f T) ∨ (D.most r ≤ (h r).length ∧ ∀ z ∈ h r, z ∈ rowT f T)
structure Srch (a : Nat) : Prop where
  tr : Tr D h f T
  le : ∀ e ∈ T, e.2.2.1 ≤ a
  seen : ∀ i x, i < a → (rowT f T)[i]? = some x → ∀ r ∈ D.fits x, Seen D h f T x r
end
noncomputable def add1 (f x a : Nat) (r : Str) (T : List Ent) (y : Nat) : List Ent := if y ∈ rowT f T then T else T ++ [(y, x, a, r)]
section
variable {D : Dk} {h c g : Str → List Nat} {P : List Str} {f a x : Nat} {T T' : List Ent} {r : Str}
theorem row_app : rowT f (T ++ T') = rowT f T ++ T'.map (·.1) := by unfold rowT; rw [List.map_append]; rfl
theorem row_get {x i : Nat} (q : (rowT f T)[i]? = some x) : (rowT f (T ++ T'))[i]? = some x := by
  rw [row_app, List.getElem?_append_left (List.getElem?_eq_some_iff.mp q).1]; exact q
theorem row_mem (q : x ∈ rowT f T) : x ∈ rowT f (T ++ T') := by rw [row_app]; exact List.mem_append_left _ q
theorem Full.mono (F : Full D h f T a x r) : Full D h f (T ++ T') a x r :=
  ⟨F.no, F.mo, fun z hz => (F.all z hz).imp_right fun ⟨x', a', r', q, l⟩ => ⟨x', a', r', List.mem_append_left _ q, l⟩⟩
theorem Seen.mono (S : Seen D h f T x r) : Seen D h f (T ++ T') x r := by
  rcases S with ⟨y, hy, e, m⟩ | ⟨m, q⟩
  · exact .inl ⟨y, hy, e, row_mem m⟩
  · exact .inr ⟨m, fun z hz => row_mem (q z hz)⟩
theorem add_all (l : List Nat) : ∀ T : List Ent, (rowT f T).Nodup → ∃ T', l.foldl (add1 f x a r) T = T ++ T' ∧ (rowT f (T ++ T')).Nodup ∧ (∀ e ∈ T', e.1 ∈ l ∧ e.2 = (x, a, r)) ∧ ∀ z ∈ l, z ∈ rowT f (T ++ T') := by
  induction l with
  | nil => exact fun T q => ⟨[], (List.append_nil T).symm, by rw [List.append_nil]; exact q, fun _ q => absurd q List.not_mem_nil, fun _ q => absurd q List.not_mem_nil⟩
  | cons y l ih =>
    intro T q
    rw [List.foldl_cons]
    by_cases m : y ∈ rowT f T
    · have e : add1 f x a r T y = T := if_pos m
      obtain ⟨T', e1, q1, s1, m1⟩ := ih T q
      rw [e]
      refine ⟨T', e1, q1, fun e he => ⟨.tail _ (s1 e he).1, (s1 e he).2⟩, fun z hz => ?_⟩
      rcases List.mem_cons.mp hz with rfl | hz
      · exact row_mem m
      · exact m1 z hz
    · have e : add1 f x a r T y = T ++ [(y, x, a, r)] := if_neg m
      have q2 : (rowT f (T ++ [(y, x, a, r)])).Nodup := by
        rw [row_app, List.nodup_append]
        refine ⟨q, List.pairwise_singleton _ _, fun u hu v hv e => ?_⟩
        have hv : v = y := List.mem_singleton.mp hv
        rw [← hv, ← e] at m
        exact m hu
      obtain ⟨T', e1, q1, s1, m1⟩ := ih _ q2
      rw [e]
      rw [List.append_assoc] at e1 q1 m1
      refine ⟨(y, x, a, r) :: T', e1, q1, fun e he => ?_, fun z hz => ?_⟩
      · rcases List.mem_cons.mp he with rfl | he
        · exact ⟨.head _, rfl⟩
        · exact ⟨.tail _ (s1 e he).1, (s1 e he).2⟩
      · rcases List.mem_cons.mp hz with rfl | hz
        · rw [row_app]; exact List.mem_append_right _ (.head _)
        · exact m1 z hz
theorem tr_app (t : Tr D h f T) (nd : (rowT f (T ++ T')).Nodup) (ha : (rowT f T)[a]? = some x) (hf : r ∈ D.fits x) (hn : ∀ e ∈ T', e.1 ∈ h r ∧ e.2 = (x, a, r)) (hd : ∀ e ∈ T', D.day x = D.day e.1 ∨ Full D h f (T ++ T') a x r) : Tr D h f (T ++ T') := by
  refine ⟨nd, fun b y x' a' r' q => ?_⟩
  by_cases hb : b < T.length
  · rw [List.getElem?_append_left hb] at q
    obtain ⟨l, h1, h2, h3, h4⟩ := t.par b y x' a' r' q
    exact ⟨l, row_get h1, h2, h3, h4.imp_right Full.mono⟩
  · rw [List.getElem?_append_right (by omega)] at q
    have m := List.mem_of_getElem? q
    obtain ⟨m1, m2⟩ := hn _ m
    have d := hd _ m
    cases m2
    have la := (List.getElem?_eq_some_iff.mp ha).1
    unfold rowT at la
    rw [List.length_cons, List.length_map] at la
    exact ⟨by omega, row_get ha, hf, m1, d⟩
theorem tr_S (t : Tr D h f T) (ha : (rowT f T)[a]? = some x) (hf : r ∈ D.fits x) {y : Nat} (hy : y ∈ h r) (hd : D.day y = D.day x) : ∃ T', add1 f x a r T y = T ++ T' ∧ Tr D h f (T ++ T') ∧ (∀ e ∈ T', e.2 = (x, a, r)) ∧ Seen D h f (T ++ T') x r := by
  obtain ⟨T', e, nd, s, m⟩ := add_all (f := f) (x := x) (a := a) (r := r) [y] T t.nd
  have s' : ∀ e ∈ T', e.1 = y ∧ e.2 = (x, a, r) := fun e he => ⟨List.mem_singleton.mp (s e he).1, (s e he).2⟩
  exact ⟨T', e, tr_app t nd ha hf (fun e he => ⟨(s' e he).1 ▸ hy, (s' e he).2⟩) fun e he => .inl (by rw [(s' e he).1, hd]), fun e he => (s' e he).2, .inl ⟨y, hy, hd, m y (.head _)⟩⟩
theorem tr_F (t : Tr D h f T) (ht : ∀ e ∈ T, e.2.2.1 ≤ a) (ha : (rowT f T)[a]? = some x) (hf : r ∈ D.fits x) (hd : ∀ z ∈ h r, D.day z ≠ D.day x) (hm : D.most r ≤ (h r).length) : ∃ T', (h r).foldl (add1 f x a r) T = T ++ T' ∧ Tr D h f (T ++ T') ∧ (∀ e ∈ T', e.2 = (x, a, r)) ∧ Seen D h f (T ++ T') x r := by
  obtain ⟨T', e, nd, s, m⟩ := add_all (f := f) (x := x) (a := a) (r := r) (h r) T t.nd
  refine ⟨T', e, tr_app t nd ha hf s fun e he => .inr ⟨hd, hm, fun z hz => ?_⟩, fun e he => (s e he).2, .inr ⟨hm, m⟩⟩
  have mz := m z hz
  unfold rowT at mz
  rcases List.mem_cons.mp mz with rfl | mz
  · exact .inl rfl
  · obtain ⟨⟨z', x', a', r'⟩, he, rfl⟩ := List.mem_map.mp mz
    refine .inr ⟨x', a', r', he, ?_⟩
    rcases List.mem_append.mp he with he | he
    · exact ht _ he
    · have := (s _ he).2
      cases this
      exact Nat.le_refl _
structure Dn (D : Dk) (h : Str → List Nat) (P : List Str) (f : Nat) (T : List Ent) (i : Nat) (c : Str → List Nat) : Prop where
  ok : Hold D c
  ld : ∀ x, load P c x = load P h x + (if (rowT f T)[i]? = some x then 1 else 0)
  st : ∀ b y x a r, b < i → T[b]? = some (y, x, a, r) → y ∈ c r ∧ (D.day x = D.day y ∨ ∀ z ∈ c r, D.day z ≠ D.day x)
theorem hold_upd {l : List Nat} (H : Hold D c) (h1 : (l.map D.day).Nodup) (h2 : ∀ x ∈ l, r ∈ D.fits x) (h3 : (l.length : Int) ≤ D.most r) : Hold D (upd c r l) := by
  refine ⟨fun q => ?_, fun q => ?_, fun q => ?_⟩ <;> by_cases e : q = r
  · subst e; rw [upd_eq]; exact h1
  · rw [upd_ne e]; exact H.nd q
  · subst e; rw [upd_eq]; exact h2
  · rw [upd_ne e]; exact H.ft q
  · subst e; rw [upd_eq]; exact h3
  · rw [upd_ne e]; exact H.mo q
theorem nd_snoc {l : List Nat} (q : (l.map D.day).Nodup) (n : ∀ z ∈ l, D.day z ≠ D.day x) : ((l ++ [x]).map D.day).Nodup := by
  rw [List.map_append, List.nodup_append]
  refine ⟨q, List.pairwise_singleton _ _, fun u hu v hv e => ?_⟩
  obtain ⟨z, hz, rfl⟩ := List.mem_map.mp hu
  rw [List.mem_singleton.mp hv] at e
  exact n z hz e
theorem dn_start (H : Hold D h) (hP : P.Nodup) (hr : r ∈ P) (t : Tr D h f T) {i : Nat} (hi : (rowT f T)[i]? = some x) (hf : r ∈ D.fits x) (hd : ∀ z ∈ h r, D.day z ≠ D.day x) (hm : ((h r).length : Int) < D.most r) : Dn D h P f T i (upd h r (h r ++ [x])) := by
  refine ⟨hold_upd H (nd_snoc (H.nd r) hd) (fun y hy => ?_) (by rw [List.length_append]; simp only [List.length_cons, List.length_nil]; omega), fun y => ?_, fun b y x' a q hb e => ?_⟩
  · rcases List.mem_append.mp hy with hy | hy
    · exact H.ft r y hy
    · rw [List.mem_singleton.mp hy]; exact hf
  · have := load_upd (c := h) (l := h r ++ [x]) (x := y) hP hr
    rw [hi]
    by_cases e : x = y
    · subst e
      have n : x ∉ h r := fun m => hd x m rfl
      rw [if_neg n, if_pos (List.mem_append_right _ (.head _))] at this
      rw [if_pos rfl]; omega
    · rw [if_neg fun q => e (Option.some.inj q)]
      have e2 : (y ∈ h r ++ [x]) ↔ y ∈ h r := by
        rw [List.mem_append, List.mem_singleton]
        exact ⟨fun q => q.resolve_right fun q => e q.symm, .inl⟩
      simp only [e2] at this
      omega
  · obtain ⟨l, h1, h2, h3, h4⟩ := t.par b y x' a q e
    by_cases eq : q = r
    · subst eq
      rw [upd_eq]
      refine ⟨List.mem_append_left _ h3, h4.elim .inl fun F => ?_⟩
      have := F.mo; omega
    · rw [upd_ne eq]
      exact ⟨h3, h4.imp_right Full.no⟩
theorem dn_step (hP : P.Nodup) (hr : r ∈ P) (t : Tr D h f T) {b y : Nat} (e : T[b]? = some (y, x, a, r)) (Q : Dn D h P f T (b + 1) c) : y ∈ c r ∧ (∀ z ∈ (c r).erase y, D.day z ≠ D.day x) ∧ Dn D h P f T a (upd c r ((c r).erase y ++ [x])) := by
  obtain ⟨hab, hx, h2, h3, h4⟩ := t.par b y x a r e
  obtain ⟨hy, hd⟩ := Q.st b y x a r (Nat.lt_succ_self _) e
  have ndc := Q.ok.nd r
  have ndl := nd_of_map ndc
  have mem_e : ∀ {z}, z ∈ (c r).erase y ↔ z ≠ y ∧ z ∈ c r := fun {z} => ndl.mem_erase_iff
  have hn : ∀ z ∈ (c r).erase y, D.day z ≠ D.day x := fun z hz q => by
    obtain ⟨n, m⟩ := mem_e.mp hz
    rcases hd with hd | hd
    · exact n (nd_inj ndc m hy (q.trans hd))
    · exact hd z m q
  have hrow : (rowT f T)[b + 1]? = some y := by
    unfold rowT
    rw [List.getElem?_cons_succ, List.getElem?_map, e]; rfl
  have hxy : x ≠ y := fun q => by
    subst q
    have := nd_at t.nd hx hrow
    omega
  have hxc : x ∉ c r := fun m => by
    have hz := mem_e.mpr ⟨hxy, m⟩
    exact hn x hz rfl
  refine ⟨hy, hn, hold_upd Q.ok (nd_snoc ?_ hn) (fun z hz => ?_) ?_, fun z => ?_, fun b' y' x' a' r' hb e' => ?_⟩
  · exact List.Nodup.sublist ((List.erase_sublist).map _) ndc
  · rcases List.mem_append.mp hz with hz | hz
    · exact Q.ok.ft r z (mem_e.mp hz).2
    · rw [List.mem_singleton.mp hz]; exact h2
  · rw [List.length_append, List.length_erase_of_mem hy]
    have := List.length_pos_of_mem hy
    have := Q.ok.mo r
    simp only [List.length_cons, List.length_nil]
    omega
  · have l1 := load_upd (c := c) (l := (c r).erase y ++ [x]) (x := z) hP hr
    have l2 := Q.ld z
    rw [hrow] at l2
    rw [hx]
    simp only [Option.some.injEq] at l2 ⊢
    by_cases e1 : x = z
    · subst e1
      rw [if_neg hxc, if_pos (List.mem_append_right _ (.head _))] at l1
      rw [if_neg (Ne.symm hxy)] at l2
      rw [if_pos rfl]; omega
    · rw [if_neg e1]
      by_cases e2 : y = z
      · subst e2
        have : y ∉ (c r).erase y ++ [x] := fun m => by
          rcases List.mem_append.mp m with m | m
          · exact (mem_e.mp m).1 rfl
          · exact e1 (List.mem_singleton.mp m).symm
        rw [if_pos hy, if_neg this] at l1
        rw [if_pos rfl] at l2; omega
      · have : (z ∈ (c r).erase y ++ [x]) ↔ z ∈ c r := by
          rw [List.mem_append, List.mem_singleton, mem_e]
          exact ⟨fun q => q.elim And.right fun q => absurd q.symm e1, fun q => .inl ⟨Ne.symm e2, q⟩⟩
        simp only [this] at l1
        rw [if_neg e2] at l2; omega
  · obtain ⟨hy', hd'⟩ := Q.st b' y' x' a' r' (by omega) e'
    by_cases er : r' = r
    · subst er
      rw [upd_eq]
      have hyy : y' ≠ y := fun q => by
        subst q
        have w1 : (T.map (·.1))[b']? = some y' := by rw [List.getElem?_map, e']; rfl
        have w2 : (T.map (·.1))[b]? = some y' := by rw [List.getElem?_map, e]; rfl
        have := nd_at (List.nodup_cons.mp t.nd).2 w1 w2
        omega
      have my : y' ∈ (c r').erase y := mem_e.mpr ⟨hyy, hy'⟩
      obtain ⟨hab', k1, k2, k3, k4⟩ := t.par b' y' x' a' r' e'
      refine ⟨List.mem_append_left _ my, k4.elim .inl fun F => ?_⟩
      · exfalso
        rcases F.all y h3 with q | ⟨x2, a2, r2, m, l⟩
        · have : y ∈ T.map (·.1) := List.mem_map_of_mem (List.mem_of_getElem? e)
          exact (List.nodup_cons.mp t.nd).1 (q ▸ this)
        · obtain ⟨b2, hb2⟩ := List.getElem?_of_mem m
          have w1 : (T.map (·.1))[b2]? = some y := by rw [List.getElem?_map, hb2]; rfl
          have w2 : (T.map (·.1))[b]? = some y := by rw [List.getElem?_map, e]; rfl
          have := nd_at (List.nodup_cons.mp t.nd).2 w1 w2
          subst this
          cases hb2.symm.trans e
          omega
    · rw [upd_ne er]
      exact ⟨hy', hd'⟩
theorem swap_sum (M : List Nat) : (M.map fun x => load P h x).sum = (P.map fun r => M.countP fun x => decide (x ∈ h r)).sum := by
  unfold load
  induction M with
  | nil =>
    show 0 = _
    induction P with
    | nil => rfl
    | cons r s ih => rw [List.map_cons, List.sum_cons, ← ih]; rfl
  | cons x M ih =>
    rw [List.map_cons, List.sum_cons, ih]
    clear ih
    induction P with
    | nil => rfl
    | cons r s ih =>
      rw [List.map_cons, List.sum_cons, List.map_cons, List.sum_cons, List.countP_cons, ← ih, List.countP_cons]
      omega
theorem sum_le {α : Type} {l : List α} {u v : α → Nat} (q : ∀ x ∈ l, u x ≤ v x) : (l.map u).sum ≤ (l.map v).sum := by
  induction l with
  | nil => exact Nat.le_refl _
  | cons x l ih =>
    rw [List.map_cons, List.map_cons, List.sum_cons, List.sum_cons]
    exact Nat.add_le_add (q x (.head _)) (ih fun y hy => q y (.tail _ hy))
theorem sum_lt {α : Type} {l : List α} {u v : α → Nat} (q : ∀ x ∈ l, u x ≤ v x) {y : α} (hy : y ∈ l) (hlt : u y < v y) : (l.map u).sum < (l.map v).sum := by
  induction l with
  | nil => cases hy
  | cons x l ih =>
    rw [List.map_cons, List.map_cons, List.sum_cons, List.sum_cons]
    have q' : ∀ x ∈ l, u x ≤ v x := fun z hz => q z (.tail _ hz)
    rcases List.mem_cons.mp hy with rfl | hy
    · have := sum_le q'
      omega
    · have := ih q' hy
      have := q x (.head _)
      omega
theorem fail_le (H : Hold D h) (G : Hold D g) (t : Tr D h f T) (s : ∀ x ∈ rowT f T, ∀ r ∈ D.fits x, Seen D h f T x r) (r : Str) : ((rowT f T).countP fun x => decide (x ∈ g r)) ≤ (rowT f T).countP fun x => decide (x ∈ h r) := by
  rw [List.countP_eq_length_filter, List.countP_eq_length_filter]
  have ndM := t.nd
  generalize hM : rowT f T = M at ndM s
  have gm : ∀ {x}, x ∈ M.filter (fun x => decide (x ∈ g r)) → x ∈ M ∧ x ∈ g r := fun {x} q => by
    have := List.mem_filter.mp q
    exact ⟨this.1, of_decide_eq_true this.2⟩
  have hm : ∀ {x}, x ∈ M → x ∈ h r → x ∈ M.filter fun x => decide (x ∈ h r) := fun {x} q w => List.mem_filter.mpr ⟨q, decide_eq_true w⟩
  have ndg : (M.filter fun x => decide (x ∈ g r)).Nodup := List.Nodup.sublist List.filter_sublist ndM
  by_cases k : D.most r ≤ (h r).length ∧ ∀ z ∈ h r, z ∈ M
  · have l1 := sub_len ndg fun x hx => (gm hx).2
    have l2 := sub_len (nd_of_map (H.nd r)) fun x hx => hm (k.2 x hx) hx
    have := G.mo r
    have := k.1
    omega
  · have l1 : ((M.filter fun x => decide (x ∈ g r)).map D.day).length ≤ ((M.filter fun x => decide (x ∈ h r)).map D.day).length := by
      refine sub_len (nd_map ndg fun x hx y hy e => nd_inj (G.nd r) (gm hx).2 (gm hy).2 e) fun d hd => ?_
      obtain ⟨x, hx, rfl⟩ := List.mem_map.mp hd
      obtain ⟨mx, mg⟩ := gm hx
      rcases s x mx r (G.ft r x mg) with ⟨y, hy, e, m⟩ | ⟨q1, q2⟩
      · rw [← e]
        rw [hM] at m
        exact List.mem_map_of_mem (hm m hy)
      · rw [hM] at q2
        exact absurd ⟨q1, q2⟩ k
    rw [List.length_map, List.length_map] at l1
    exact l1
theorem fail_no (H : Hold D h) (G : Hold D g) (t : Tr D h f T) (s : ∀ x ∈ rowT f T, ∀ r ∈ D.fits x, Seen D h f T x r) (hl : ∀ x ∈ rowT f T, load P h x ≤ load P g x) (hf : load P h f < load P g f) : False := by
  have h1 := sum_lt (l := rowT f T) hl (y := f) (.head _) hf
  rw [swap_sum, swap_sum] at h1
  have h2 := sum_le (l := P) fun r _ => fail_le H G t s r
  omega
end
noncomputable def Rt (P : OutS → Prop) : OutS → Prop
  | .ret a H => P (.ret a H)
  | _ => False
theorem calm_calm (o : OutS) : o.calm.calm = o.calm := by cases o <;> rfl
theorem while_calm {t : DE} {b : DS} : ∀ (n : Nat) (ρ : RE) (H : AH), (whileS t b n ρ H).calm = whileS t b n ρ H
  | 0, _, _ => rfl
  | n + 1, ρ, H => calm_calm _
section
variable {P : OutS → Prop} {ρ : RE} {H H₁ H₂ : AH} {r : List DS} {t : DE} {b : DS}
theorem while_any (Inv : Nat → RE → AH → Prop) (step : ∀ (J : RE → AH → Prop) (m : Nat) ρ H, Inv m ρ H → (∀ m' ρ' H', m' < m → Inv m' ρ' H' → J ρ' H') → (t ρ H = .ok (.bool true) H ∧ Nx J (Rt P) (b ρ H)) ∨ (t ρ H = .ok (.bool false) H ∧ P (seqS r ρ H))) :
    ∀ (n m : Nat) (ρ : RE) (H : AH), m < n → Inv m ρ H → P ((whileS t b n ρ H).then (seqS r))
  | 0, m, _, _, h, _ => absurd h (Nat.not_lt_zero _)
  | n + 1, m, ρ, H, h, I => by
    rcases step (fun ρ' H' => ∃ m' : Nat, m' < m ∧ Inv m' ρ' H') m ρ H I (fun m' ρ' H' l i => ⟨m', l, i⟩) with ⟨e, q⟩ | ⟨e, q⟩
    · unfold whileS
      rw [e]
      show P (OutS.then (OutS.calm ((b ρ H).then (whileS t b n))) _)
      cases hb : b ρ H with
      | next ρ' H' =>
        rw [hb] at q
        refine x1_2 q fun m' l i => ?_
        show P (OutS.then (OutS.calm (whileS t b n ρ' H')) _)
        rw [while_calm]
        exact while_any Inv step n m' ρ' H' (by lia) i
      | ret a H' => rw [hb] at q; exact q
      | exc c ρ' H' => rw [hb] at q; exact q.elim
      | bad => rw [hb] at q; exact q.elim
    · unfold whileS
      rw [e]
      exact q
theorem p_while (Inv : Nat → RE → AH → Prop) {m : Nat} (hm : m < 1000000) (i0 : Inv m ρ H) (step : ∀ (J : RE → AH → Prop) (m : Nat) ρ H, Inv m ρ H → (∀ m' ρ' H', m' < m → Inv m' ρ' H' → J ρ' H') → (t ρ H = .ok (.bool true) H ∧ Nx J (Rt P) (b ρ H)) ∨ (t ρ H = .ok (.bool false) H ∧ P (seqS r ρ H))) :
    P (seqS (whileS t b whileFuel :: r) ρ H) := while_any Inv step whileFuel m ρ H (Nat.lt_of_lt_of_le hm whileFuel_le) i0
theorem look_mem {es : List (Key × AV)} (hn : (es.map (·.1)).Nodup) {k : Key} {v : AV} (h : (k, v) ∈ es) : es.lookup k = some v := by
  induction es with
  | nil => cases h
  | cons e r ih =>
    rw [List.map_cons, List.nodup_cons] at hn
    obtain ⟨k', v'⟩ := e
    rw [List.lookup_cons]
    by_cases q : k = k'
    · subst q
      rw [beq_self_eq_true]
      rcases List.mem_cons.mp h with h | h
      · cases h; rfl
      · exact absurd (List.mem_map_of_mem (f := (·.1)) h) hn.1
    · rw [beq_false_of_ne q]
      rcases List.mem_cons.mp h with h | h
      · cases h; exact absurd rfl q
      · exact ih hn.2 h
theorem look_no {es : List (Key × AV)} {k : Key} (h : k ∉ es.map (·.1)) : es.lookup k = none := by
  induction es with
  | nil => rfl
  | cons e r ih =>
    obtain ⟨k', v'⟩ := e
    rw [List.map_cons, List.mem_cons, not_or] at h
    rw [List.lookup_cons, beq_false_of_ne h.1]
    exact ih h.2
theorem any_key {es : List (Key × AV)} {k : Key} : (es.any fun e => decide (e.1 = k)) = decide (k ∈ es.map (·.1)) := by
  rw [Bool.eq_iff_iff, List.any_eq_true, decide_eq_true_eq, List.mem_map]
  exact ⟨fun ⟨e, he, q⟩ => ⟨e, he, of_decide_eq_true q⟩, fun ⟨e, he, q⟩ => ⟨e, he, decide_eq_true q⟩⟩
theorem setD_new {es : List (Key × AV)} {k : Key} {v : AV} (h : k ∉ es.map (·.1)) : setD es k v = es ++ [(k, v)] := by
  unfold setD
  rw [any_key, decide_eq_false h]; rfl
variable {n : Nat} {es : List (Key × AV)} {k : Key} {a v : AV}
theorem dsub (h : H[n]? = some (.dict es)) (hk : keyOf a = some k) (hx : es.lookup k = some v) : subA (.ref n) a H = .ok v H := by
  unfold subA
  rw [dcOf_at h]
  show orBad (keyOf a) _ = _
  rw [hk]
  show orBad (es.lookup k) _ = _
  rw [hx]; rfl
theorem din (h : H[n]? = some (.dict es)) (hk : keyOf a = some k) : cmpA H .In a (.ref n) = some (decide (k ∈ es.map (·.1))) := by
  show inA H a (.ref n) = _
  unfold inA
  rw [dcOf_at h]
  show (keyOf a).map _ = _
  rw [hk]
  show some (es.any fun e => decide (e.1 = k)) = _
  rw [any_key]
theorem dset (h : H[n]? = some (.dict es)) (hk : keyOf a = some k) (hl : es.length ≤ 1000) (hn : k ∉ es.map (·.1)) : setItemA (.ref n) a v H = some (H.set n (.dict (es ++ [(k, v)]))) := by
  rw [setItemA_at h]
  show (if es.length ≤ 1000000 then (keyOf a).map fun k => H.set n (.dict (setD es k v)) else none) = _
  rw [if_pos (by lia), hk, ← setD_new hn]; rfl
theorem kind_dict (h : H[n]? = some (.dict es)) : kindM (.ref n) H = 3 := by
  show (match H[n]? with | some (.lst _) => 2 | some (.dict _) => 3 | some (.ldict _) => 3 | _ => 0) = 3; rw [h]
theorem e_get {e k' : DE} (h1 : e ρ H = .ok (.ref n) H) (h2 : k' ρ H = .ok a H) (h : H[n]? = some (.dict es)) (hk : keyOf a = some k) (hl : es.length ≤ 1000) : mbE .get e [k'] ρ H = .ok ((es.lookup k).getD .none) H := by
  unfold mbE
  rw [h1]
  show orBad (bmId (kindM (.ref n) H) .get) _ = _
  rw [kind_dict h]
  show (evL [k'] ρ H).bind _ = _
  rw [l_one h2]
  show (if 3 = kindM (.ref n) H then mbA .get (.ref n) [a] H else .bad) = _
  rw [kind_dict h, if_pos rfl, mb_at h]
  show (if es.length ≤ 1000000 then orBad (keyOf a) fun k => Out.ok ((es.lookup k).getD .none) H else .bad) = _
  rw [if_pos (by lia), hk]; rfl
theorem e_pop {e k' : DE} (h1 : e ρ H = .ok (.ref n) H) (h2 : k' ρ H = .ok a H) (h : H[n]? = some (.dict es)) (hk : keyOf a = some k) (hl : es.length ≤ 1000) (hx : es.lookup k = some v) : mbE .pop e [k'] ρ H = .ok v (H.set n (.dict (es.filter fun e => decide (e.1 ≠ k)))) := by
  unfold mbE
  rw [h1]
  show orBad (bmId (kindM (.ref n) H) .pop) _ = _
  rw [kind_dict h]
  show (evL [k'] ρ H).bind _ = _
  rw [l_one h2]
  show (if 3 = kindM (.ref n) H then mbA .pop (.ref n) [a] H else .bad) = _
  rw [kind_dict h, if_pos rfl, mb_at h]
  show (if es.length ≤ 1000000 then orBad (keyOf a) fun k => orBad (es.lookup k) fun v => Out.ok v (H.set n (.dict (es.filter fun e => decide (e.1 ≠ k)))) else .bad) = _
  rw [if_pos (by lia), hk]
  show orBad (es.lookup k) _ = _
  rw [hx]; rfl
theorem dlen {hot : Bool} (h : H[n]? = some (.dict es)) (hl : es.length ≤ 1000) : biA hot .len [.ref n] H = .ok (.int es.length) H := by
  show orBad (lenA H (.ref n)) _ = _
  rw [lenA_at h]
  exact if_pos (by lia)
theorem e_vals {i j : Nat} (hi : ρ[i]? = some (some (.ref n))) (hj : ρ.length = j) (h : H[n]? = some (.dict es)) (hn : (es.map (·.1)).Nodup) (hl : es.length ≤ 1000) : compE false false (subE (varE i) (varE j)) (varE i) (cstE (.bool true)) ρ H = .ok (.lst (es.map (·.2))) H := by
  have hlt := (List.getElem?_eq_some_iff.mp h).1
  have hlk : (H.set n (.ldict es))[n]? = some (.ldict es) := by rw [List.getElem?_set, if_pos rfl, if_pos hlt]
  unfold compE
  rw [e_var hi]
  show orBad (srcOf H (.ref n)) _ = _
  rw [srcOf_at h]
  show (if false = false ∧ es.length ≤ 1000000 then (compL _ _ (.seq (es.map fun e => e.1.av)) es.length 0 [] (lockH (some n) H)).calm.bind _ else _) = _
  rw [if_pos ⟨rfl, by lia⟩]
  have lk : lockH (some n) H = H.set n (.ldict es) := by
    show (match H[n]? with | some (.dict es) => H.set n (.ldict es) | _ => H) = _
    rw [h]
  have fr' : ∀ H' : AH, H'[n]? = some (.ldict es) → freeH (some n) H' = H'.set n (.dict es) := fun H' h => by
    show (match H'[n]? with | some (.ldict es) => H'.set n (.dict es) | _ => H') = _
    rw [h]
  have fr : freeH (some n) (H.set n (.ldict es)) = H := by
    rw [fr' _ hlk, List.set_set]
    have e := (List.getElem?_eq_some_iff.mp h).2
    rw [← e, List.set_getElem_self]
  rw [lk]
  have key := compL_list (T := fun v => cstE (.bool true) (ρ ++ [some v])) (E := fun v => subE (varE i) (varE j) (ρ ++ [some v])) (l := es) (fx := fun e => e.1.av) (fy := fun e => e.2) (p := fun _ => true) (H := H.set n (.ldict es)) (fun _ _ => rfl) (fun e he _ => e_sub (var_app hi) (var_new hj) (by
    unfold subA
    rw [dcOf_at hlk]
    show orBad (keyOf e.1.av) _ = _
    rw [show keyOf e.1.av = some e.1 by cases e.1 <;> rfl]
    show orBad (es.lookup e.1) _ = _
    rw [look_mem hn (v := e.2) he]; rfl)) es.length 0 [] (by simp)
  rw [key, List.drop_zero, List.filter_eq_self.mpr fun _ _ => rfl]
  show (newL false _ (freeH (some n) _)) = _
  rw [fr]; rfl
end
structure DealR (R : Nat → Bool → FT) : Prop where
  init : ∀ k hot args H, args.length = 2 → R (k + 1) hot 28 args H = (dc_Deal_init (R k) hot (rho0 args 5) H).done
  left_by : ∀ k hot args H, args.length = 3 → R (k + 1) hot 29 args H = (dc_Deal_left_by (R k) hot (rho0 args 5) H).done
  sought : ∀ k hot args H, args.length = 2 → R (k + 1) hot 30 args H = (dc_Deal_sought (R k) hot (rho0 args 9) H).done
  done : ∀ k hot args H, args.length = 4 → R (k + 1) hot 31 args H = (dc_Deal_done (R k) hot (rho0 args 6) H).done
  shift_on : ∀ k hot args H, args.length = 4 → R (k + 1) hot 32 args H = (dc_Deal_shift_on (R k) hot (rho0 args 5) H).done
  dealt : ∀ k hot args H, args.length = 1 → R (k + 1) hot 33 args H = (dc_dealt (R k) hot (rho0 args 9) H).done
noncomputable def nI (x : Nat) : AV := .int x
noncomputable def heldD (D : Dk) (l : List Nat) : List (Key × AV) := l.map fun x => (.int (D.day x), nI x)
noncomputable def atD (b : Nat) (P : List Str) : List (Key × AV) := (P.zipIdx b).map fun e => (.str e.1, .ref e.2)
noncomputable def mostD (D : Dk) (P : List Str) : List (Key × AV) := P.map fun r => (.str r, .int (D.most r))
noncomputable def fitsL (D : Dk) (n : Nat) : List AV := (List.range n).map fun x => .lst ((D.fits x).map .str)
noncomputable def heldO (D : Dk) (P : List Str) (h : Str → List Nat) : AH := P.map fun r => .dict (heldD D (h r))
noncomputable def Sd.hp (S : Sd) (h : Str → List Nat) (G : AH) : AH := S.H0 ++ (.inst 3 S.inst :: .lst S.pl :: .lst (fitsL S.D S.n) :: .dict (atD (S.b + 5) S.P) :: .dict (mostD S.D S.P) :: (heldO S.D S.P h ++ G))
structure SdOK (S : Sd) : Prop where
  nd : S.P.Nodup
  pf : S.P.length ≤ 100
  nf : S.n ≤ 600
  ft : ∀ x r, r ∈ S.D.fits x → x < S.n ∧ r ∈ S.P
  mo : ∀ r, S.D.most r ≤ 100
section
variable {S : Sd} {h : Str → List Nat} {G : AH} {r : Str} {i x y : Nat}
theorem get_off {H L : AH} {i : Nat} : (H ++ L)[H.length + i]? = L[i]? := by rw [List.getElem?_append_right (Nat.le_add_right _ _), Nat.add_sub_cancel_left]
theorem set_off {H L : AH} {i : Nat} {o : AO} : (H ++ L).set (H.length + i) o = H ++ L.set i o := by rw [List.set_append_right _ _ (Nat.le_add_right _ _), Nat.add_sub_cancel_left]
theorem hp_0 : (S.hp h G)[S.b]? = some (.inst 3 S.inst) := get_off (i := 0)
theorem hp_1 : (S.hp h G)[S.b + 1]? = some (.lst S.pl) := get_off (i := 1)
theorem hp_2 : (S.hp h G)[S.b + 2]? = some (.lst (fitsL S.D S.n)) := get_off (i := 2)
theorem hp_3 : (S.hp h G)[S.b + 3]? = some (.dict (atD (S.b + 5) S.P)) := get_off (i := 3)
theorem hp_4 : (S.hp h G)[S.b + 4]? = some (.dict (mostD S.D S.P)) := get_off (i := 4)
theorem hp_held (hi : S.P[i]? = some r) : (S.hp h G)[S.b + 5 + i]? = some (.dict (heldD S.D (h r))) := by
  have hl := (List.getElem?_eq_some_iff.mp hi).1
  rw [Nat.add_assoc]
  refine get_off.trans ?_
  rw [Nat.add_comm 5 i]
  show (heldO S.D S.P h ++ G)[i]? = _
  unfold heldO
  rw [List.getElem?_append_left (by rw [List.length_map]; exact hl), List.getElem?_map, hi]; rfl
theorem hp_G : (S.hp h G)[S.b + 5 + S.P.length + i]? = G[i]? := by
  rw [Nat.add_assoc, Nat.add_assoc]
  refine get_off.trans ?_
  rw [Nat.add_comm 5]
  show (heldO S.D S.P h ++ G)[S.P.length + i]? = _
  have e : (heldO S.D S.P h).length = S.P.length := List.length_map _
  rw [← e]
  exact get_off
theorem held_upd {D : Dk} {P : List Str} (hP : P.Nodup) {l : List Nat} : ∀ {i : Nat}, P[i]? = some r → (heldO D P h).set i (.dict (heldD D l)) = heldO D P (upd h r l) := by
  unfold heldO
  induction P with
  | nil => exact fun {i} e => nomatch e
  | cons q s ih =>
    intro i e
    rw [List.nodup_cons] at hP
    cases i with
    | zero =>
      cases e
      rw [List.map_cons, List.set_cons_zero, List.map_cons, upd_eq]
      congr 1
      exact List.map_congr_left fun z hz => by rw [upd_ne (show z ≠ r from fun e => hP.1 (e ▸ hz))]
    | succ i =>
      rw [List.getElem?_cons_succ] at e
      rw [List.map_cons, List.set_cons_succ, ih hP.2 e, List.map_cons, upd_ne (show q ≠ r from fun w => hP.1 (w ▸ List.mem_of_getElem? e))]
theorem hp_upd (K : SdOK S) (hi : S.P[i]? = some r) {l : List Nat} : (S.hp h G).set (S.b + 5 + i) (.dict (heldD S.D l)) = S.hp (upd h r l) G := by
  have hl := (List.getElem?_eq_some_iff.mp hi).1
  rw [Nat.add_assoc, Nat.add_comm 5 i]
  refine (set_off (H := S.H0)).trans ?_
  unfold Sd.hp
  congr 1
  rw [List.set_cons_succ, List.set_cons_succ, List.set_cons_succ, List.set_cons_succ, List.set_cons_succ, List.set_append_left _ _ (by unfold heldO; rw [List.length_map]; exact hl), held_upd K.nd hi]
theorem hp_setG {j : Nat} {o : AO} (hj : j < G.length) : (S.hp h G).set (S.b + 5 + S.P.length + j) o = S.hp h (G.set j o) := by
  rw [Nat.add_assoc, Nat.add_assoc, Nat.add_comm 5]
  refine (set_off (H := S.H0)).trans ?_
  unfold Sd.hp
  congr 1
  have e : (heldO S.D S.P h).length = S.P.length := List.length_map _
  rw [List.set_cons_succ, List.set_cons_succ, List.set_cons_succ, List.set_cons_succ, List.set_cons_succ, List.set_append_right _ _ (by lia), e, Nat.add_sub_cancel_left]
theorem hp_app {L : AH} : S.hp h G ++ L = S.hp h (G ++ L) := by unfold Sd.hp; simp
theorem hp_len : (S.hp h G).length = S.b + 5 + S.P.length + G.length := by
  unfold Sd.hp heldO Sd.b
  simp only [List.length_append, List.length_cons, List.length_map]; lia
theorem hp_up : Up S.H0.length S.H0 (S.hp h G) := Up.app
theorem at_look (K : SdOK S) (hi : S.P[i]? = some r) : (atD (S.b + 5) S.P).lookup (.str r) = some (.ref (S.b + 5 + i)) := by
  unfold atD
  refine look_mem ?_ (List.mem_map.mpr ⟨(r, S.b + 5 + i), ?_, rfl⟩)
  · rw [List.map_map]
    have : ((fun e : Key × AV => e.1) ∘ fun e : Str × Nat => (Key.str e.1, AV.ref e.2)) = Key.str ∘ (·.1) := rfl
    rw [this, ← List.map_map, List.zipIdx_map_fst]
    exact nodup_map (fun a _ b _ e => by cases e; rfl) K.nd
  · exact List.mk_add_mem_zipIdx_iff_getElem?.mpr hi
theorem most_look (K : SdOK S) (hr : r ∈ S.P) : (mostD S.D S.P).lookup (.str r) = some (.int (S.D.most r)) := by
  unfold mostD
  refine look_mem ?_ (List.mem_map_of_mem hr)
  rw [List.map_map]
  exact nodup_map (fun a _ b _ e => by cases e; rfl) K.nd
theorem held_keys {D : Dk} {l : List Nat} : (heldD D l).map (·.1) = (l.map D.day).map Key.int := by unfold heldD; rw [List.map_map, List.map_map]; rfl
theorem held_nd {D : Dk} {l : List Nat} (hn : (l.map D.day).Nodup) : ((heldD D l).map (·.1)).Nodup := by
  rw [held_keys]
  exact nodup_map (fun a _ b _ e => by cases e; rfl) hn
theorem held_look {D : Dk} {l : List Nat} (hn : (l.map D.day).Nodup) (hy : y ∈ l) : (heldD D l).lookup (.int (D.day y)) = some (nI y) := look_mem (held_nd hn) (List.mem_map.mpr ⟨y, hy, rfl⟩)
theorem held_no {D : Dk} {l : List Nat} (h : ∀ z ∈ l, D.day z ≠ D.day x) : Key.int (D.day x) ∉ (heldD D l).map (·.1) := fun q => by
  rw [held_keys] at q
  refine x1_2 (List.mem_map.mp q) fun d hd e => ?_
  refine x1_2 (List.mem_map.mp hd) fun z hz e' => ?_
  cases e
  exact h z hz e'
theorem held_pop {D : Dk} {l : List Nat} (hn : (l.map D.day).Nodup) (hy : y ∈ l) : (heldD D l).filter (fun e => decide (e.1 ≠ Key.int (D.day y))) = heldD D (l.erase y) := by
  unfold heldD
  induction l with
  | nil => cases hy
  | cons z s ih =>
    rw [List.map_cons, List.nodup_cons] at hn
    by_cases e : z = y
    · subst e
      rw [List.erase_cons_head, List.map_cons, List.filter_cons_of_neg (by simp)]
      refine List.filter_eq_self.mpr fun e he => ?_
      refine x1_2 (List.mem_map.mp he) fun w hw e' => ?_; subst e'
      refine decide_eq_true fun q => hn.1 ?_
      have q : D.day w = D.day z := Key.int.inj q
      exact q ▸ List.mem_map_of_mem hw
    · have hy' := (List.mem_cons.mp hy).resolve_left (Ne.symm e)
      have hne : (Key.int (D.day z), nI z).1 ≠ Key.int (D.day y) := fun q => by
        have q : D.day z = D.day y := Key.int.inj q
        exact hn.1 (q ▸ List.mem_map_of_mem hy')
      rw [List.erase_cons_tail (by simpa using e), List.map_cons, List.filter_cons_of_pos (p := fun e : Key × AV => decide (e.1 ≠ Key.int (D.day y))) (decide_eq_true hne), ih hn.2 hy', List.map_cons]
theorem held_snoc {D : Dk} {l : List Nat} : heldD D l ++ [(.int (D.day x), nI x)] = heldD D (l ++ [x]) := by unfold heldD; rw [List.map_append]; rfl
theorem day_sub {H : AH} (K : SdOK S) (hx : x < S.n) : subA (.lst (daysL S.D S.n)) (nI x) H = .ok (.int (S.D.day x)) H := by
  have := K.nf
  refine subL (Int.natCast_nonneg _) ?_ (by unfold daysL; rw [List.length_map, List.length_range]; lia)
  unfold daysL
  rw [Int.toNat_natCast, List.getElem?_map, List.getElem?_range hx]; rfl
theorem held_len {D : Dk} {l : List Nat} : (heldD D l).length = l.length := List.length_map _
end
section
variable {R : Nat → Bool → FT} {k : Nat} {S : Sd} {h : Str → List Nat} {G : AH} {r : Str} {i x y : Nat} {PG : OutS → Prop}
inductive LeftV (D : Dk) (l : List Nat) (m : Int) (x : Nat) : AV → Prop
  | one (y : Nat) (h1 : y ∈ l) (h2 : D.day y = D.day x) : LeftV D l m x (.lst [nI y])
  | free (h1 : ∀ z ∈ l, D.day z ≠ D.day x) (h2 : (l.length : Int) < m) : LeftV D l m x .none
  | full (h1 : ∀ z ∈ l, D.day z ≠ D.day x) (h2 : m ≤ l.length) : LeftV D l m x (.lst (l.map nI))
theorem held_few (K : SdOK S) (Hh : Hold S.D h) : (heldD S.D (h r)).length ≤ 1000 := by
  have := Hh.mo r
  have := K.mo r
  rw [held_len]; lia
theorem at_sub (K : SdOK S) (hi : S.P[i]? = some r) {ρ : RE} {e f : DE} (he : e ρ (S.hp h G) = .ok (.ref S.b) (S.hp h G)) (hf : f ρ (S.hp h G) = .ok (.str r) (S.hp h G)) : subE (attrE 10 e) f ρ (S.hp h G) = .ok (.ref (S.b + 5 + i)) (S.hp h G) := e_sub (e_attr he hp_0 rfl) hf (dsub hp_3 rfl (at_look K hi))
theorem day_e (K : SdOK S) (hx : x < S.n) {ρ : RE} {e f : DE} (he : e ρ (S.hp h G) = .ok (.ref S.b) (S.hp h G)) (hf : f ρ (S.hp h G) = .ok (nI x) (S.hp h G)) : subE (attrE 8 e) f ρ (S.hp h G) = .ok (.int (S.D.day x)) (S.hp h G) := e_sub (e_attr he hp_0 rfl) hf (day_sub K hx)
theorem left_P (K : SdOK S) (Hh : Hold S.D h) (hr : r ∈ S.P) (hx : x < S.n) (fin : ∀ v, LeftV S.D (h r) (S.D.most r) x v → PG (.ret v (S.hp h G))) : PG (dc_Deal_left_by (R k) false (rho0 [.ref S.b, .str r, nI x] 5) (S.hp h G)) := by
  obtain ⟨i, hi⟩ := List.getElem?_of_mem hr
  have hl := held_few (r := r) K Hh
  have hd := hp_held (h := h) (G := G) hi
  refine p_asg (at_sub K hi rfl rfl) ?_
  refine p_asg (day_e K hx rfl rfl) ?_
  refine p_if (e_cmp rfl rfl (din hd rfl)) (fun q => ?_) fun q => ?_
  · have q := of_decide_eq_true q
    rw [held_keys] at q
    refine x1_2 (List.mem_map.mp q) fun d hd' e => ?_
    refine x1_2 (List.mem_map.mp hd') fun y hy e' => ?_
    cases e
    refine p_ret (P := Th _ _) (e_lst (l_one (e_sub rfl rfl (dsub hd rfl (e' ▸ held_look (Hh.nd r) hy)))) (by simp) rfl) (fin _ (.one y hy e'))
  · have q : ∀ z ∈ h r, S.D.day z ≠ S.D.day x := fun z hz e => of_decide_eq_false q (by
      rw [held_keys]
      exact List.mem_map_of_mem (e ▸ List.mem_map_of_mem hz))
    refine th_nil (p_if (e_cmp (e_bi (l_one rfl) (dlen hd hl)) (e_sub (e_attr rfl hp_0 rfl) rfl (dsub hp_4 rfl (most_look K hr))) rfl) (fun w => ?_) fun w => ?_)
    · have w : ((heldD S.D (h r)).length : Int) < S.D.most r := of_decide_eq_true w
      rw [held_len] at w
      exact p_ret (P := Th _ _) rfl (fin _ (.free q w))
    · have w : ¬ ((heldD S.D (h r)).length : Int) < S.D.most r := of_decide_eq_false w
      rw [held_len] at w
      refine th_nil (p_ret ((e_vals rfl rfl hd (held_nd (Hh.nd r)) hl).trans ?_) (fin _ (.full q (Int.not_lt.mp w))))
      unfold heldD
      rw [List.map_map]; rfl
theorem left_run (Q : DealR R) (K : SdOK S) (Hh : Hold S.D h) (hr : r ∈ S.P) (hx : x < S.n) : ∃ v, R (k + 1) false 29 [.ref S.b, .str r, nI x] (S.hp h G) = .ok v (S.hp h G) ∧ LeftV S.D (h r) (S.D.most r) x v := by
  rw [Q.left_by _ _ _ _ rfl]
  exact left_P (PG := fun o => ∃ v, o.done = .ok v (S.hp h G) ∧ LeftV S.D (h r) (S.D.most r) x v) K Hh hr hx fun v q => ⟨v, rfl, q⟩
theorem eq_nI {H : AH} : cmpA H .Eq (nI x) (nI y) = some (decide (x = y)) := by
  show some (PyData.eqv (.int x) (.int y)) = _
  congr 1
  show ((x : Int) == (y : Int)) = _
  rw [Bool.eq_iff_iff, beq_iff_eq, decide_eq_true_eq]; lia
theorem shift_P (K : SdOK S) (Hh : Hold S.D h) (hr : r ∈ S.P) (hy : y ∈ h r) (hx : x < S.n) (hd : ∀ z ∈ (h r).erase y, S.D.day z ≠ S.D.day x) (fin : ∀ ρ, PG (.next ρ (S.hp (upd h r ((h r).erase y ++ [x])) G))) : PG (dc_Deal_shift_on (R k) false (rho0 [.ref S.b, .str r, nI y, nI x] 5) (S.hp h G)) := by
  obtain ⟨i, hi⟩ := List.getElem?_of_mem hr
  have hl := held_few (r := r) K Hh
  have hh := hp_held (h := h) (G := G) hi
  have hyn := (K.ft y r (Hh.ft r y hy)).1
  have hlook := held_look (Hh.nd r) hy
  refine p_asg (at_sub K hi rfl rfl) ?_
  refine p_if (x := true) (e_cmp (e_get rfl (day_e K hyn rfl rfl) hh rfl hl) rfl (by rw [hlook]; exact eq_nI.trans (by rw [decide_eq_true rfl]))) (fun _ => ?_) fun q => nomatch q
  refine p_expr (P := Th _ _) (e_pop rfl (day_e K hyn rfl rfl) hh rfl hl hlook) (th_nil ?_)
  rw [held_pop (Hh.nd r) hy, hp_upd K hi]
  have hh2 := hp_held (h := upd h r ((h r).erase y)) (G := G) hi
  rw [upd_eq] at hh2
  refine p_item rfl rfl (day_e K hx rfl rfl) (dset (v := nI x) hh2 rfl (by rw [held_len, List.length_erase_of_mem hy]; rw [held_len] at hl; lia) (held_no hd)) ?_
  rw [held_snoc, hp_upd K hi]
  have : upd (upd h r ((h r).erase y)) r ((h r).erase y ++ [x]) = upd h r ((h r).erase y ++ [x]) := by
    funext q
    by_cases e : q = r
    · subst e; rw [upd_eq, upd_eq]
    · rw [upd_ne e, upd_ne e, upd_ne e]
  rw [this]
  exact p_nil (fin _)
theorem shift_run' (Q : DealR R) (K : SdOK S) (Hh : Hold S.D h) (hr : r ∈ S.P) (hy : y ∈ h r) (hx : x < S.n) (hd : ∀ z ∈ (h r).erase y, S.D.day z ≠ S.D.day x) : R (k + 1) false 32 [.ref S.b, .str r, nI y, nI x] (S.hp h G) = .ok .none (S.hp (upd h r ((h r).erase y ++ [x])) G) := by
  rw [Q.shift_on _ _ _ _ rfl]
  exact shift_P (PG := fun o => o.done = .ok .none (S.hp (upd h r ((h r).erase y ++ [x])) G)) K Hh hr hy hx hd fun _ => rfl
noncomputable def metD (f : Nat) (T : List Ent) : List (Key × AV) := (.int f, .none) :: T.map fun e => (.int e.1, .tup [nI e.2.1, .str e.2.2.2])
variable {f : Nat} {T : List Ent} {g : Nat}
theorem met_keys : (metD f T).map (·.1) = (rowT f T).map fun x : Nat => Key.int x := by unfold metD rowT; rw [List.map_cons, List.map_map, List.map_cons, List.map_map]; rfl
theorem met_nd (t : Tr S.D h f T) : ((metD f T).map (·.1)).Nodup := by
  rw [met_keys]
  exact nodup_map (fun a _ b _ e => by cases e; rfl) t.nd
theorem row_lt (K : SdOK S) (t : Tr S.D h f T) (hf : f < S.n) (Hh : Hold S.D h) {z : Nat} (hz : z ∈ rowT f T) : z < S.n := by
  unfold rowT at hz
  rcases List.mem_cons.mp hz with rfl | hz
  · exact hf
  · refine x1_2 (List.mem_map.mp hz) fun e he q => ?_; subst q
    obtain ⟨b, hb⟩ := List.getElem?_of_mem he
    obtain ⟨y, x, a, r⟩ := e
    have := t.par b y x a r hb
    exact (K.ft y r (Hh.ft r y this.2.2.2.1)).1
theorem done_P (Q : DealR R) (K : SdOK S) (Hh : Hold S.D h) (hf : f < S.n) (t : Tr S.D h f T) (hg : G[g]? = some (.dict (metD f T))) (hr : r ∈ S.P) (hi : (rowT f T)[i]? = some x) (hfit : r ∈ S.D.fits x) (hd : ∀ z ∈ h r, S.D.day z ≠ S.D.day x) (hm : ((h r).length : Int) < S.D.most r)
    (fin : ∀ ρ c, Dn S.D h S.P f T 0 c → PG (.next ρ (S.hp c G))) : PG (dc_Deal_done (R (k + 1)) false (rho0 [.ref S.b, .ref (S.b + 5 + S.P.length + g), nI x, .str r] 6) (S.hp h G)) := by
  obtain ⟨p, hp⟩ := List.getElem?_of_mem hr
  have hl := held_few (r := r) K Hh
  have hh := hp_held (h := h) (G := G) hp
  refine p_item rfl (at_sub K hp rfl rfl) (day_e K (K.ft x r hfit).1 rfl rfl) (dset (v := nI x) hh rfl hl (held_no hd)) ?_
  rw [held_snoc, hp_upd K hp]
  refine p_while (m := i) (fun m ρ H' => Ex5 fun (c : Str → List Nat) (x : Nat) (a3 a4 a5 : Option AV) => A4 (Dn S.D h S.P f T m c) ((rowT f T)[m]? = some x) (H' = S.hp c G) (ρ = [some (.ref S.b), some (.ref (S.b + 5 + S.P.length + g)), some (nI x), a3, a4, a5])) ?_ ⟨_, x, _, _, _, dn_start Hh K.nd hr t hi hfit hd hm, hi, rfl, rfl⟩ ?_
  · have h1 := (List.getElem?_eq_some_iff.mp hi).1
    have h2 := sub_len (m := List.range S.n) t.nd fun z hz => List.mem_range.mpr (row_lt K t hf Hh hz)
    rw [List.length_range] at h2
    have := K.nf
    lia
  · rintro J m ρ H' ⟨c, x, a3, a4, a5, dn, hx, rfl, rfl⟩ hJ
    have hmet : (S.hp c G)[S.b + 5 + S.P.length + g]? = some (.dict (metD f T)) := hp_G.trans hg
    cases m with
    | zero =>
      have hx : f = x := by unfold rowT at hx; exact Option.some.inj hx
      subst hx
      exact .inr ⟨e_cmp (e_sub rfl rfl (dsub hmet rfl (look_mem (met_nd t) (.head _)))) rfl rfl, p_nil (fin _ c dn)⟩
    | succ b =>
      unfold rowT at hx
      rw [List.getElem?_cons_succ, List.getElem?_map] at hx
      refine x1_2 (Option.map_eq_some_iff.mp hx) fun e he q => ?_
      obtain ⟨y, x', a, r'⟩ := e
      have q : y = x := q
      subst q
      have par := t.par b y x' a r' he
      have hr' : r' ∈ S.P := (K.ft x' r' par.2.2.1).2
      obtain ⟨s1, s2, s3⟩ := dn_step K.nd hr' t he dn
      have lk : subA (.ref (S.b + 5 + S.P.length + g)) (nI y) (S.hp c G) = .ok (.tup [nI x', .str r']) (S.hp c G) := dsub hmet rfl (look_mem (met_nd t) (.tail _ (List.mem_map.mpr ⟨_, List.mem_of_getElem? he, rfl⟩)))
      refine .inl ⟨e_cmp (e_sub rfl rfl lk) rfl rfl, ?_⟩
      refine p_asg (e_sub (e_sub rfl rfl lk) rfl rfl) ?_
      refine p_asg (e_sub (e_sub rfl rfl lk) rfl rfl) ?_
      refine p_expr (e_mo rfl hp_0 (i := 32) rfl (l_three rfl rfl rfl) (shift_run' (k := k) Q K dn.ok hr' s1 (K.ft x' r' par.2.2.1).1 s2)) ?_
      exact p_asg rfl (nx_next (hJ a _ _ (by lia) ⟨_, x', _, _, _, s3, par.2.1, rfl, rfl⟩))
theorem done_run (Q : DealR R) (K : SdOK S) (Hh : Hold S.D h) (hf : f < S.n) (t : Tr S.D h f T) (hg : G[g]? = some (.dict (metD f T))) (hr : r ∈ S.P) (hi : (rowT f T)[i]? = some x) (hfit : r ∈ S.D.fits x) (hd : ∀ z ∈ h r, S.D.day z ≠ S.D.day x) (hm : ((h r).length : Int) < S.D.most r) :
    ∃ c, R (k + 2) false 31 [.ref S.b, .ref (S.b + 5 + S.P.length + g), nI x, .str r] (S.hp h G) = .ok .none (S.hp c G) ∧ Dn S.D h S.P f T 0 c := by
  rw [Q.done _ _ _ _ rfl]
  exact done_P (PG := fun o => ∃ c, o.done = .ok .none (S.hp c G) ∧ Dn S.D h S.P f T 0 c) Q K Hh hf t hg hr hi hfit hd hm fun ρ c q => ⟨c, rfl, q⟩
end
noncomputable def Sd.hs (S : Sd) (h : Str → List Nat) (G : AH) (f : Nat) (T : List Ent) : AH := S.hp h (G ++ [.dict (metD f T), .lst ((rowT f T).map nI)])
section
variable {R : Nat → Bool → FT} {k : Nat} {S : Sd} {h : Str → List Nat} {G : AH} {r : Str} {i x y a f : Nat} {T : List Ent} {PG : OutS → Prop} {J : RE → AH → Prop}
theorem G_0 {o o' : AO} : (G ++ [o, o'])[G.length]? = some o := get_off (i := 0)
theorem G_1 {o o' : AO} : (G ++ [o, o'])[G.length + 1]? = some o' := get_off (i := 1)
theorem hs_met : (S.hs h G f T)[S.m G]? = some (.dict (metD f T)) := hp_G.trans G_0
theorem hs_row : (S.hs h G f T)[S.m G + 1]? = some (.lst ((rowT f T).map nI)) := by
  unfold Sd.m
  rw [Nat.add_assoc]
  exact hp_G.trans G_1
theorem hs_set {o o' : AO} : ((S.hs h G f T).set (S.m G) o).set (S.m G + 1) o' = S.hp h (G ++ [o, o']) := by
  unfold Sd.m Sd.hs
  rw [hp_setG (by simp), Nat.add_assoc, hp_setG (by simp)]
  congr 1
  rw [List.set_append_right _ _ (Nat.le_refl _), Nat.sub_self, List.set_append_right _ _ (Nat.le_add_right _ _), Nat.add_sub_cancel_left]; rfl
theorem row_few (K : SdOK S) (Hh : Hold S.D h) (hf : f < S.n) (t : Tr S.D h f T) : (rowT f T).length ≤ 600 := by
  have h2 := sub_len (m := List.range S.n) t.nd fun z hz => List.mem_range.mpr (row_lt K t hf Hh hz)
  rw [List.length_range] at h2
  exact Nat.le_trans h2 K.nf
theorem met_len : (metD f T).length = (rowT f T).length := by unfold metD rowT; rw [List.length_cons, List.length_cons, List.length_map, List.length_map]
theorem key_row {y : Nat} : Key.int y ∈ (metD f T).map (·.1) ↔ y ∈ rowT f T := by
  rw [met_keys, List.mem_map]
  constructor
  · rintro ⟨z, hz, e⟩
    have e : (z : Int) = y := Key.int.inj e
    rw [← Int.ofNat.inj e]
    exact hz
  · exact fun q => ⟨y, q, rfl⟩
theorem fold_len {l : List Nat} {T : List Ent} : (rowT f (l.foldl (add1 f x a r) T)).length ≤ (rowT f T).length + l.length := by
  induction l generalizing T with
  | nil => exact Nat.le_refl _
  | cons z l ih =>
    rw [List.foldl_cons]
    refine Nat.le_trans ih ?_
    unfold add1
    split
    · rw [List.length_cons]; lia
    · rw [row_app, List.length_append, List.length_map, List.length_cons, List.length_cons, List.length_nil]; lia
theorem add_P {l : List Nat} {b8 : Option AV} {r' : List DS} (hl : (rowT f T).length ≤ 600) (hn : l.length ≤ 300) (fin : ∀ a8, PG (seqS r' [some (.ref S.b), some (nI f), some (.ref (S.m G)), some (.ref (S.m G + 1)), some (nI (a + 1)), some (nI x), some (.str r), some (.lst (l.map nI)), a8] (S.hs h G f (l.foldl (add1 f x a r) T)))) :
    PG (seqS (forS false (.one 8) (varE 7) (seqS [ifS (cmpE (varE 8) [.NotIn] [(varE 2)]) (seqS [setItemS (varE 2) (varE 8) (tupE [(varE 5), (varE 6)]), exprS (mbE .append (varE 3) [(varE 8)])]) (seqS [])]) :: r') [some (.ref S.b), some (nI f), some (.ref (S.m G)), some (.ref (S.m G + 1)), some (nI (a + 1)), some (nI x), some (.str r), some (.lst (l.map nI)), b8] (S.hs h G f T)) := by
  refine p_for (a := .lst (l.map nI)) (H₁ := S.hs h G f T) (xs := l.map nI) rfl rfl rfl
    (fun j ρ H' => A2 (H' = S.hs h G f ((l.take j).foldl (add1 f x a r) T)) (∃ a8, ρ = [some (.ref S.b), some (nI f), some (.ref (S.m G)), some (.ref (S.m G + 1)), some (nI (a + 1)), some (nI x), some (.str r), some (.lst (l.map nI)), a8])) ⟨rfl, _, rfl⟩ ?_ ?_
  · rintro J j v ρ H' hv ⟨rfl, a8, rfl⟩ hJ
    rw [List.getElem?_map] at hv
    refine x1_2 (Option.map_eq_some_iff.mp hv) fun y hj e2' => ?_; subst e2'
    have hjl := (List.getElem?_eq_some_iff.mp hj).1
    have e : (l.take (j + 1)).foldl (add1 f x a r) T = add1 f x a r ((l.take j).foldl (add1 f x a r) T) y := by
      rw [List.take_add_one, hj, List.foldl_append]; rfl
    have hb := fold_len (f := f) (x := x) (a := a) (r := r) (l := l.take j) (T := T)
    rw [List.length_take] at hb
    rw [e] at hJ
    clear e hv
    generalize (l.take j).foldl (add1 f x a r) T = T' at hb hJ
    show Nx _ _ ((_ : DS) [some (.ref S.b), some (nI f), some (.ref (S.m G)), some (.ref (S.m G + 1)), some (nI (a + 1)), some (nI x), some (.str r), some (.lst (l.map nI)), some (nI y)] _)
    refine p_if (x := !decide (y ∈ rowT f T')) (e_cmp rfl rfl ((congrArg (Option.map (!·)) (din hs_met rfl)).trans (by rw [decide_eq_decide.mpr (key_row (y := y))]; rfl))) (fun q => ?_) fun q => ?_
    · have q : y ∉ rowT f T' := by simpa using q
      unfold add1 at hJ
      rw [if_neg q] at hJ
      refine p_item (P := Th _ _) (e_tup (l_two rfl rfl) (by simp)) rfl rfl (dset hs_met rfl (by rw [met_len]; lia) fun w => q (key_row.mp w)) ?_
      have hrow : ((S.hs h G f T').set (S.m G) (.dict (metD f T' ++ [(Key.int y, .tup [nI x, .str r])])))[S.m G + 1]? = some (.lst ((rowT f T').map nI)) := (get_set_ne (by lia)).trans hs_row
      refine p_expr (P := Th _ _) (e_append rfl hrow (l_one rfl) hrow (by rw [List.length_map]; lia)) (th_next (hJ _ _ ⟨?_, _, rfl⟩))
      refine hs_set.trans ?_
      unfold Sd.hs
      rw [row_app, List.map_append]
      unfold metD
      rw [List.map_append]; rfl
    · have q : y ∈ rowT f T' := by simpa using q
      unfold add1 at hJ
      rw [if_pos q] at hJ
      exact th_next (hJ _ _ ⟨rfl, _, rfl⟩)
  · rintro ρ H' ⟨rfl, a8, rfl⟩
    rw [List.length_map, List.take_length]
    exact fin a8
theorem ne_nI {H : AH} : cmpA H .NotEq (nI x) (nI y) = some (!decide (x = y)) := congrArg (Option.map (!·)) (eq_nI (H := H) (x := x) (y := y))
theorem pers_P (Q : DealR R) (K : SdOK S) (Hh : Hold S.D h) (hf : f < S.n) (t : Tr S.D h f T) (ht : ∀ e ∈ T, e.2.2.1 ≤ a) (ha : (rowT f T)[a]? = some x) (hr : r ∈ S.D.fits x) {a7 a8 : Option AV}
    (hJ : ∀ T' a7 a8, Tr S.D h f (T ++ T') → (∀ e ∈ T', e.2 = (x, a, r)) → Seen S.D h f (T ++ T') x r → J [some (.ref S.b), some (nI f), some (.ref (S.m G)), some (.ref (S.m G + 1)), some (nI (a + 1)), some (nI x), some (.str r), a7, a8] (S.hs h G f (T ++ T')))
    (finT : ∀ c L, Dn S.D h S.P f T 0 c → PG (.ret (.bool true) (S.hp c (G ++ L)))) :
    Nx J PG (dc_Deal_sought_b2 (R (k + 2)) false [some (.ref S.b), some (nI f), some (.ref (S.m G)), some (.ref (S.m G + 1)), some (nI (a + 1)), some (nI x), some (.str r), a7, a8] (S.hs h G f T)) := by
  have hxn := (K.ft x r hr).1
  have hrP := (K.ft x r hr).2
  obtain ⟨p, hp⟩ := List.getElem?_of_mem hrP
  have hl := held_few (r := r) K Hh
  have hh := hp_held (h := h) (G := G ++ [.dict (metD f T), .lst ((rowT f T).map nI)]) hp
  have hT0 : T ++ [] = T := List.append_nil T
  have hrow := row_few K Hh hf t
  have gt := e_get (ρ := [some (.ref S.b), some (nI f), some (.ref (S.m G)), some (.ref (S.m G + 1)), some (nI (a + 1)), some (nI x), some (.str r), a7, a8]) (at_sub K hp (h := h) (G := G ++ [.dict (metD f T), .lst ((rowT f T).map nI)]) (e := varE 0) (f := varE 6) rfl rfl) (day_e K hxn (e := varE 0) (f := varE 5) rfl rfl) hh rfl hl
  by_cases hx : x ∈ h r
  · rw [held_look (Hh.nd r) hx] at gt
    refine p_if (x := false) (e_cmp gt rfl (ne_nI.trans (by rw [decide_eq_true rfl]; rfl))) (fun q => nomatch q) fun _ => ?_
    have := hJ [] a7 a8 (by rw [hT0]; exact t) (fun _ q => absurd q List.not_mem_nil) (by rw [hT0]; exact .inl ⟨x, hx, rfl, List.mem_of_getElem? ha⟩)
    rw [hT0] at this
    exact th_next this
  · refine p_if (x := true) (e_cmp gt rfl ?_) (fun _ => ?_) fun q => nomatch q
    · by_cases q : ∃ y ∈ h r, S.D.day y = S.D.day x
      · refine x1_2 q fun y hy e => ?_
        rw [← e, held_look (Hh.nd r) hy]
        exact ne_nI.trans (by rw [decide_eq_false (show ¬ y = x from fun w => hx (w ▸ hy))]; rfl)
      · rw [look_no (held_no fun z hz e => q ⟨z, hz, e⟩)]; rfl
    · refine x1_2 (left_run (k := k + 1) (G := G ++ [.dict (metD f T), .lst ((rowT f T).map nI)]) Q K Hh hrP hxn) fun v run lv => ?_
      refine p_asg (P := Th _ _) (e_mo rfl hp_0 (i := 29) rfl (l_two rfl rfl) run) ?_
      cases lv with
      | one y h1 h2 =>
        refine p_skip (P := Th _ _) (e_cmp rfl rfl rfl) ?_
        refine add_P (PG := Th _ _) (l := [y]) hrow (by simp) fun a8 => th_next ?_
        obtain ⟨T', e1, e2, e3, e4⟩ := tr_S t ha hr h1 h2
        show J _ (S.hs h G f (add1 f x a r T y))
        rw [e1]
        exact hJ T' _ _ e2 e3 e4
      | free h1 h2 =>
        refine p_if (P := Th _ _) (x := true) (e_cmp rfl rfl rfl) (fun _ => ?_) fun q => nomatch q
        refine x1_2 (done_run (k := k) (g := G.length) (G := G ++ [.dict (metD f T), .lst ((rowT f T).map nI)]) Q K Hh hf t G_0 hrP ha hr h1 h2) fun c run dn => ?_
        exact p_expr (P := Th _ _) (e_mo rfl hp_0 (i := 31) rfl (l_three rfl rfl rfl) run) (p_ret (P := Th _ _) rfl (finT c _ dn))
      | full h1 h2 =>
        refine p_skip (P := Th _ _) (e_cmp rfl rfl rfl) ?_
        refine add_P (PG := Th _ _) (l := h r) hrow (by have := Hh.mo r; have := K.mo r; lia) fun a8 => th_next ?_
        obtain ⟨T', e1, e2, e3, e4⟩ := tr_F t ht ha hr h1 h2
        rw [e1]
        exact hJ T' _ _ e2 e3 e4
theorem sought_P (Q : DealR R) (K : SdOK S) (Hh : Hold S.D h) (hf : f < S.n)
    (finT : ∀ c L T, Dn S.D h S.P f T 0 c → PG (.ret (.bool true) (S.hp c (G ++ L)))) (finF : ∀ T, Tr S.D h f T → (∀ x ∈ rowT f T, ∀ r ∈ S.D.fits x, Seen S.D h f T x r) → PG (.ret (.ref (S.m G)) (S.hs h G f T))) :
    PG (dc_Deal_sought (R (k + 2)) false (rho0 [.ref S.b, nI f] 9) (S.hp h G)) := by
  have e1 : dct1E (varE 1) (cstE .none) (rho0 [.ref S.b, nI f] 9) (S.hp h G) = .ok (.ref (S.m G)) (S.hp h (G ++ [.dict (metD f [])])) := by
    have hl : (S.hp h G).length = S.m G := hp_len
    show (if (dcOf (S.hp h G ++ [.dict []]) (.ref (S.hp h G).length)).isSome = true then orBad (setItemA (.ref (S.hp h G).length) (nI f) .none (S.hp h G ++ [.dict []])) _ else _) = _
    rw [dcOf_at get_last]
    show orBad (setItemA (.ref (S.hp h G).length) (nI f) .none (S.hp h G ++ [.dict []])) _ = _
    rw [dset (es := []) (k := .int f) get_last rfl (by simp) (by simp)]
    show Out.ok _ _ = _
    rw [← hl, List.set_append_right _ _ (Nat.le_refl _), Nat.sub_self]
    show Out.ok _ (S.hp h G ++ [.dict [(Key.int f, .none)]]) = _
    rw [hp_app]; rfl
  refine p_asg e1 ?_
  refine p_asg (a := .ref (S.m G + 1)) (H₁ := S.hs h G f []) (e_lst (l_one rfl) (by simp) (by
    show Out.ok (AV.ref (S.hp h (G ++ [.dict (metD f [])])).length) _ = _
    rw [hp_len, hp_app, List.append_assoc, List.length_append]; rfl)) ?_
  refine p_asg (a := nI 0) (H₁ := S.hs h G f []) rfl ?_
  refine p_while (m := S.n) (fun m ρ H' => Ex6 fun (T : List Ent) (a : Nat) (a5 a6 a7 a8 : Option AV) => A4 (Srch S.D h f T a) (m = S.n - a) (H' = S.hs h G f T) (ρ = [some (.ref S.b), some (nI f), some (.ref (S.m G)), some (.ref (S.m G + 1)), some (nI a), a5, a6, a7, a8])) (by have := K.nf; lia) ⟨[], 0, none, none, none, none, ⟨⟨?_, fun b y x a r q => nomatch q⟩, fun _ q => (List.not_mem_nil q).elim, fun i x q => absurd q (Nat.not_lt_zero _)⟩, rfl, rfl, rfl⟩ ?_
  · exact List.pairwise_singleton _ _
  · rintro W m ρ H' ⟨T, a, a5, a6, a7, a8, s, rfl, rfl, rfl⟩ hW
    have hrow := row_few K Hh hf s.tr
    have len : biE false .len [varE 3] [some (.ref S.b), some (nI f), some (.ref (S.m G)), some (.ref (S.m G + 1)), some (nI a), a5, a6, a7, a8] (S.hs h G f T) = .ok (nI (rowT f T).length) (S.hs h G f T) := e_bi (l_one rfl) ((IsL.len (N := S.m G + 2) (.inr ⟨_, rfl, by lia, hs_row⟩) (by rw [List.length_map]; lia)).trans (by rw [List.length_map]; rfl))
    have lt : cmpE (varE 4) [.Lt] [biE false .len [varE 3]] [some (.ref S.b), some (nI f), some (.ref (S.m G)), some (.ref (S.m G + 1)), some (nI a), a5, a6, a7, a8] (S.hs h G f T) = .ok (.bool (decide (a < (rowT f T).length))) (S.hs h G f T) := e_cmp rfl len (by
      show some (decide ((a : Int) < ((rowT f T).length : Int))) = _
      rw [decide_eq_decide.mpr Int.ofNat_lt])
    by_cases q : a < (rowT f T).length
    · rw [decide_eq_true q] at lt
      refine .inl ⟨lt, ?_⟩
      obtain ⟨x, hx⟩ : ∃ x, (rowT f T)[a]? = some x := ⟨_, List.getElem?_eq_getElem q⟩
      have hxn := row_lt K s.tr hf Hh (List.mem_of_getElem? hx)
      refine p_asg (a := nI x) (e_sub rfl rfl (sub_ref hs_row (Int.natCast_nonneg _) (by rw [Int.toNat_natCast, List.getElem?_map, hx]; rfl) (by rw [List.length_map]; lia))) ?_
      refine p_asg (a := nI (a + 1)) (H₁ := S.hs h G f T) (e_bin rfl rfl rfl) ?_
      have hfits : (fitsL S.D S.n)[x]? = some (.lst ((S.D.fits x).map .str)) := by unfold fitsL; rw [List.getElem?_map, List.getElem?_range hxn]; rfl
      refine p_for (a := .lst ((S.D.fits x).map .str)) (H₁ := S.hs h G f T) (xs := (S.D.fits x).map .str) (e_sub (e_attr rfl hp_0 rfl) rfl (sub_ref hp_2 (Int.natCast_nonneg _) (by rw [Int.toNat_natCast]; exact hfits) (by unfold fitsL; rw [List.length_map, List.length_range]; have := K.nf; lia))) rfl rfl
        (fun j ρ H' => Ex4 fun (T : List Ent) (a6 a7 a8 : Option AV) => A5 (Srch S.D h f T a) ((rowT f T)[a]? = some x) (∀ r ∈ (S.D.fits x).take j, Seen S.D h f T x r) (H' = S.hs h G f T) (ρ = [some (.ref S.b), some (nI f), some (.ref (S.m G)), some (.ref (S.m G + 1)), some (nI (a + 1)), some (nI x), a6, a7, a8])) ⟨T, _, _, _, s, hx, fun r q => by rw [List.take_zero] at q; exact absurd q List.not_mem_nil, rfl, rfl⟩ ?_ ?_
      · rintro J j v ρ H' hv ⟨T, a6, a7, a8, s, hx, hs, rfl, rfl⟩ hJ
        rw [List.getElem?_map] at hv
        refine x1_2 (Option.map_eq_some_iff.mp hv) fun r hj e2' => ?_; subst e2'
        refine pers_P (k := k) Q K Hh hf s.tr s.le hx (List.mem_of_getElem? hj) (fun T' a7 a8 t' e' sn => hJ _ _ ⟨T ++ T', _, _, _, ⟨t', fun e he => ?_, fun i z hi hz r' hr' => ?_⟩, row_get hx, fun r' hr' => ?_, rfl, rfl⟩) fun c L dn => finT c L T dn
        · rcases List.mem_append.mp he with he | he
          · exact s.le e he
          · rw [e' e he]; exact Nat.le_refl _
        · have hz' : (rowT f T)[i]? = some z := by
            have := (List.getElem?_eq_some_iff.mp hx).1
            rw [row_app, List.getElem?_append_left (by lia)] at hz
            exact hz
          exact (s.seen i z hi hz' r' hr').mono
        · rw [List.take_add_one, hj] at hr'
          rcases List.mem_append.mp hr' with hr' | hr'
          · exact (hs r' hr').mono
          · have : r' = r := List.mem_singleton.mp hr'
            rw [this]; exact sn
      · rintro ρ H' ⟨T, a6, a7, a8, s, hx, hs, rfl, rfl⟩
        rw [List.length_map, List.take_length] at hs
        have hrow := row_few K Hh hf s.tr
        have hlt := (List.getElem?_eq_some_iff.mp hx).1
        have hrn : (rowT f T).length ≤ S.n := by
          have h2 := sub_len (m := List.range S.n) s.tr.nd fun z hz => List.mem_range.mpr (row_lt K s.tr hf Hh hz)
          rw [List.length_range] at h2
          exact h2
        refine nx_next (hW (S.n - (a + 1)) _ _ (by lia) ⟨T, a + 1, _, _, _, _, ⟨s.tr, fun e he => Nat.le_succ_of_le (s.le e he), fun i z hi hz r' hr' => ?_⟩, rfl, rfl, rfl⟩)
        rcases Nat.lt_succ_iff_lt_or_eq.mp hi with hi | rfl
        · exact s.seen i z hi hz r' hr'
        · cases hx.symm.trans hz
          exact hs r' hr'
    · rw [decide_eq_false q] at lt
      refine .inr ⟨lt, p_ret rfl (finF T s.tr fun x hx r hr => ?_)⟩
      obtain ⟨i, hi⟩ := List.getElem?_of_mem hx
      exact s.seen i x (by have := (List.getElem?_eq_some_iff.mp hi).1; lia) hi r hr
theorem sought_run (Q : DealR R) (K : SdOK S) (Hh : Hold S.D h) (hf : f < S.n) :
    (∃ c L T, R (k + 3) false 30 [.ref S.b, nI f] (S.hp h G) = .ok (.bool true) (S.hp c (G ++ L)) ∧ Dn S.D h S.P f T 0 c) ∨ ∃ T, R (k + 3) false 30 [.ref S.b, nI f] (S.hp h G) = .ok (.ref (S.m G)) (S.hs h G f T) ∧ Tr S.D h f T ∧ ∀ x ∈ rowT f T, ∀ r ∈ S.D.fits x, Seen S.D h f T x r := by
  rw [Q.sought _ _ _ _ rfl]
  exact sought_P (PG := fun o => (∃ c L T, o.done = .ok (.bool true) (S.hp c (G ++ L)) ∧ Dn S.D h S.P f T 0 c) ∨ ∃ T, o.done = .ok (.ref (S.m G)) (S.hs h G f T) ∧ Tr S.D h f T ∧ ∀ x ∈ rowT f T, ∀ r ∈ S.D.fits x, Seen S.D h f T x r) Q K Hh hf (fun c L T dn => .inl ⟨c, L, T, rfl, dn⟩) fun T t s => .inr ⟨T, rfl, t, s⟩
end
noncomputable def dkOf (ps : List Pm) (ss : List Sm) : Dk where
  day x := match (allSN ss)[x]? with | some e => e.1.hours.1 / 24 | none => 0
  fits x := match (allSN ss)[x]? with | some e => (ps.filter fun p => mayM p e.1 e.2.1).map (·.name) | none => []
  most r := match ps.find? (fun p => decide (p.name = r)) with | some p => p.limit | none => 0
noncomputable def sdOf (H0 : AH) (ps : List Pm) (ss : List Sm) : Sd := ⟨H0, dkOf ps ss, ps.map (·.name), (allSN ss).length, (postsM ss).map postAV⟩
section
variable {R : Nat → Bool → FT} {k : Nat} {H0 : AH} {N bk : Nat} {ps : List Pm} {ss : List Sm} {PG : OutS → Prop} {x : Nat}
theorem dk_day {e : Sm × (Str × Int)} (h : (allSN ss)[x]? = some e) : (dkOf ps ss).day x = e.1.hours.1 / 24 := by unfold dkOf; simp only [h]
theorem dk_fits {e : Sm × (Str × Int)} (h : (allSN ss)[x]? = some e) : (dkOf ps ss).fits x = (ps.filter fun p => mayM p e.1 e.2.1).map (·.name) := by unfold dkOf; simp only [h]
theorem dk_most (hn : (ps.map (·.name)).Nodup) {p : Pm} (hp : p ∈ ps) : (dkOf ps ss).most p.name = p.limit := by
  show (match ps.find? (fun q => decide (q.name = p.name)) with | some p => p.limit | none => 0) = _
  have : ps.find? (fun q => decide (q.name = p.name)) = some p := by
    induction ps with
    | nil => cases hp
    | cons q s ih =>
      rw [List.map_cons, List.nodup_cons] at hn
      by_cases e : q.name = p.name
      · rw [List.find?_cons_of_pos (by simpa using e)]
        rcases List.mem_cons.mp hp with rfl | hp
        · rfl
        · exact absurd (List.mem_map_of_mem (f := (·.name)) hp) (e ▸ hn.1)
      · rw [List.find?_cons_of_neg (by simpa using e)]
        rcases List.mem_cons.mp hp with rfl | hp
        · exact absurd rfl e
        · exact ih hn.2 hp
  rw [this]
theorem sd_ok (G : Good ps ss) (hl : ∀ p ∈ ps, p.limit ≤ 100) : SdOK (sdOf H0 ps ss) := by
  refine ⟨G.pn, by show (ps.map _).length ≤ _; rw [List.length_map]; exact G.pf, all_len G, fun x r hr => ?_, fun r => ?_⟩
  · cases e : (allSN ss)[x]? with
    | none =>
      have hr : r ∈ (dkOf ps ss).fits x := hr
      unfold dkOf at hr
      simp only [e] at hr
      exact absurd hr List.not_mem_nil
    | some z =>
      have hr : r ∈ (dkOf ps ss).fits x := hr
      rw [dk_fits e] at hr
      refine x1_2 (List.mem_map.mp hr) fun p hp q => ?_; subst q
      exact ⟨(List.getElem?_eq_some_iff.mp e).1, List.mem_map_of_mem (List.mem_filter.mp hp).1⟩
  · show (match ps.find? (fun p => decide (p.name = r)) with | some p => p.limit | none => 0) ≤ 100
    split
    · rename_i p h
      exact hl p (List.mem_of_find?_eq_some h)
    · decide
theorem p_attr {P : OutS → Prop} {ρ : RE} {H H₁ H₂ : AH} {e e' : DE} {v : AV} {r : List DS} {i n c : Nat} {fs : List (Option AV)} (h1 : e ρ H = .ok v H₁) (h2 : e' ρ H₁ = .ok (.ref n) H₂) (h3 : H₂[n]? = some (.inst c fs)) (h4 : i < fs.length) (q : P (seqS r ρ (H₂.set n (.inst c (fs.set i (some v)))))) : P (seqS (setAttrS i e' e :: r) ρ H) := by rw [s_attr h1 h2 h3 h4 rfl]; exact q
theorem st_get {fs : List (Option AV)} {L : AH} : (H0 ++ (AO.inst 3 fs :: L))[H0.length]? = some (.inst 3 fs) := get_off (i := 0)
theorem st_set {fs fs' : List (Option AV)} {L : AH} : (H0 ++ (AO.inst 3 fs :: L)).set H0.length (.inst 3 fs') = H0 ++ (AO.inst 3 fs' :: L) := by
  rw [List.set_append_right _ _ (Nat.le_refl _), Nat.sub_self]; rfl
theorem st_seti {i : Nat} {L : AH} {o : AO} : (H0 ++ L).set (H0.length + i) o = H0 ++ L.set i o := by
  rw [List.set_append_right _ _ (Nat.le_add_right _ _), Nat.add_sub_cancel_left]
theorem posts_n : ((postsM ss).map postAV).length = (allSN ss).length := by rw [List.length_map, posts_all, List.length_map]
theorem fits_snoc {D : Dk} {j : Nat} : fitsL D (j + 1) = fitsL D j ++ [.lst ((D.fits j).map .str)] := by unfold fitsL; rw [List.range_succ, List.map_append]; rfl
theorem at_snoc {b j : Nat} {P : List Str} {r : Str} (h : P[j]? = some r) : atD b (P.take (j + 1)) = atD b (P.take j) ++ [(.str r, .ref (b + j))] := by
  unfold atD
  have hl := (List.getElem?_eq_some_iff.mp h).1
  rw [List.take_add_one, h, List.zipIdx_append, List.map_append, List.length_take, Nat.min_eq_left (Nat.le_of_lt hl)]; rfl
theorem most_snoc {D : Dk} {j : Nat} {P : List Str} {r : Str} (h : P[j]? = some r) : mostD D (P.take (j + 1)) = mostD D (P.take j) ++ [(.str r, .int (D.most r))] := by
  unfold mostD
  rw [List.take_add_one, h, List.map_append]; rfl
theorem heldO_snoc {D : Dk} {j : Nat} {P : List Str} {r : Str} {h : Str → List Nat} (e : P[j]? = some r) : heldO D (P.take (j + 1)) h = heldO D (P.take j) h ++ [.dict (heldD D (h r))] := by
  unfold heldO
  rw [List.take_add_one, e, List.map_append]; rfl
theorem init_P (C : BookR R) (My : MayR R) (Rd : ReadR R) (B : BookOf N H0 bk ps ss) (G : Good ps ss) (fin : ∀ ρ, PG (.next ρ ((sdOf H0 ps ss).hp (fun _ => []) []))) : PG (dc_Deal_init (R (k + 3)) false (rho0 [.ref H0.length, .ref bk] 5) (H0 ++ [.inst 3 (List.replicate 12 none)])) := by
  have Bu : ∀ L : AH, BookOf N (H0 ++ L) bk ps ss := fun L => B.up Up.app
  obtain ⟨f0, hb⟩ := B.at
  have hb : ∀ L : AH, (H0 ++ L)[bk]? = some (.inst 2 f0) := fun L => (Up.app (H := H0) (l := L)).get hb
  have hn := all_len G
  have hpn := posts_n (ss := ss)
  have hpf := G.pf
  refine p_attr (e_mo rfl (hb _) (i := 20) rfl l_nil (posts_of (k := k + 2) Rd (Bu _) G)) rfl (by rw [List.append_assoc]; exact st_get) (by show _ < 12; decide) ?_
  rw [List.append_assoc, show [AO.inst 3 (List.replicate 12 none)] ++ [.lst ((postsM ss).map postAV)] = .inst 3 (List.replicate 12 none) :: [.lst ((postsM ss).map postAV)] from rfl, st_set, show (H0 ++ [AO.inst 3 (List.replicate 12 none)]).length = H0.length + 1 by simp]
  have hpl : ∀ (fs : List (Option AV)) (L : AH), (H0 ++ (AO.inst 3 fs :: .lst ((postsM ss).map postAV) :: L))[H0.length + 1]? = some (.lst ((postsM ss).map postAV)) := fun fs L => get_off (i := 1)
  refine p_attr (v := .lst (daysL (dkOf ps ss) (allSN ss).length)) (H₁ := H0 ++ (AO.inst 3 [none, none, none, none, none, none, none, some (.ref (H0.length + 1)), none, none, none, none] :: [.lst ((postsM ss).map postAV)])) (e_mapF (l := List.range (allSN ss).length) (fx := fun x => ((postsM ss).map postAV).getD x .none) (fy := fun x => .int ((dkOf ps ss).day x)) (e_attr rfl st_get rfl) ?_ (by rw [List.length_range]; lia) (fun x hx => ?_) rfl) rfl st_get (by show _ < 12; decide) ?_
  · refine .inr ⟨_, rfl, by simp, ?_⟩
    rw [hpl]
    congr 2
    refine List.ext_getElem? fun x => ?_
    rw [List.getElem?_map (f := fun x => ((postsM ss).map postAV).getD x .none)]
    by_cases q : x < (allSN ss).length
    · rw [List.getElem?_range q, List.getElem?_eq_getElem (by rw [hpn]; exact q)]
      show _ = some (((postsM ss).map postAV).getD x .none)
      rw [List.getD_eq_getElem?_getD, List.getElem?_eq_getElem (by rw [hpn]; exact q)]; rfl
    · rw [List.getElem?_eq_none (by rw [hpn]; lia), List.getElem?_eq_none (by rw [List.length_range]; lia)]; rfl
  · have q := List.mem_range.mp hx
    obtain ⟨e, he⟩ : ∃ e, (allSN ss)[x]? = some e := ⟨_, List.getElem?_eq_getElem q⟩
    have hp : ((postsM ss).map postAV).getD x .none = .tup [.str e.1.name, .str e.2.1] := by
      rw [List.getD_eq_getElem?_getD, posts_all, List.map_map, List.getElem?_map, he]; rfl
    rw [hp, dk_day he]
    exact e_call (l_two (var_app rfl) (e_sub (var_new rfl) rfl rfl)) (day_at (k := k) C Rd (Bu _) G.sn (all_mem (List.mem_of_getElem? he)).1)
  rw [st_set]
  refine p_attr (e_lst l_nil (by simp) rfl) rfl (by rw [List.append_assoc]; exact st_get) (by show _ < 12; decide) ?_
  rw [List.append_assoc, show ∀ fs, (AO.inst 3 fs :: [AO.lst ((postsM ss).map postAV)]) ++ [.lst []] = .inst 3 fs :: [.lst ((postsM ss).map postAV), .lst []] from fun _ => rfl, st_set, show ∀ fs, (H0 ++ (AO.inst 3 fs :: [AO.lst ((postsM ss).map postAV)])).length = H0.length + 2 from fun fs => by simp]
  refine p_forML (N := H0.length + 2) (a := .ref (H0.length + 1)) (xs := (postsM ss).map postAV) (e_attr rfl st_get rfl) (.inr ⟨_, rfl, by lia, hpl _ _⟩)
    (fun j ρ H' => A2 (H' = H0 ++ (AO.inst 3 [none, none, none, none, none, none, none, some (.ref (H0.length + 1)), some (.lst (daysL (dkOf ps ss) (allSN ss).length)), some (.ref (H0.length + 2)), none, none] :: [.lst ((postsM ss).map postAV), .lst (fitsL (dkOf ps ss) j)])) (Ex2 fun a2 a3 => ρ = [some (.ref H0.length), some (.ref bk), a2, a3, none])) ⟨rfl, _, _, rfl⟩ (fun j ρ H' q => by
      rw [q.1]
      refine ⟨by simp, fun z hz => ?_⟩
      rcases Nat.lt_or_ge z H0.length with w | w
      · rw [List.getElem?_append_left w, List.getElem?_append_left w]
      · obtain ⟨d, rfl⟩ : ∃ d, z = H0.length + d := ⟨z - H0.length, by lia⟩
        rw [get_off, get_off]
        match d, hz with
        | 0, _ => rfl
        | 1, _ => rfl
        | d + 2, hz => exact absurd hz (by lia)) ?_ ?_
  · rintro J j v ρ H' hv ⟨rfl, a2, a3, rfl⟩ hJ
    rw [posts_all, List.map_map, List.getElem?_map] at hv
    refine x1_2 (Option.map_eq_some_iff.mp hv) fun e hj e2' => ?_; subst e2'
    have hm := all_mem (List.mem_of_getElem? hj)
    have hjl := (List.getElem?_eq_some_iff.mp hj).1
    refine ⟨[some (.ref H0.length), some (.ref bk), some (.str e.1.name), some (.str e.2.1), none], rfl, ?_⟩
    have hfi : ∀ fs : List (Option AV), (H0 ++ (AO.inst 3 fs :: [.lst ((postsM ss).map postAV), .lst (fitsL (dkOf ps ss) j)]))[H0.length + 2]? = some (.lst (fitsL (dkOf ps ss) j)) := fun fs => get_off (i := 2)
    refine p_expr (e_append (e_attr rfl st_get rfl) (hfi _) (l_one (e_compF (l := ps) (fx := fun p => .str p.name) (fy := fun p => .str p.name) (p := fun p => mayM p e.1 e.2.1) (e_mo rfl (hb _) (i := 18) rfl l_nil (people_of (k := k + 2) Rd (Bu _))) (.inl rfl) (by lia) (fun p hp => e_mo (var_app rfl) (hb _) (i := 26) rfl (l_three (var_new rfl) (var_app rfl) (var_app rfl)) (may_of (k := k + 1) C My (Bu _) G hp hm.1)) (fun p _ _ => var_new rfl) rfl)) (hfi _) (by unfold fitsL; rw [List.length_map, List.length_range]; lia)) (nx_next (hJ _ _ ⟨?_, _, _, rfl⟩))
    rw [st_seti, fits_snoc, dk_fits hj, List.map_map]; rfl
  · rintro ρ H' ⟨rfl, a2, a3, rfl⟩
    rw [hpn]
    refine p_attr (v := .ref (H0.length + 3)) (e := dct0E) (by show Out.ok (AV.ref _) _ = _; rw [List.length_append]; rfl) rfl (by rw [List.append_assoc]; exact st_get) (by show _ < 12; decide) ?_
    rw [List.append_assoc, show ∀ fs, (AO.inst 3 fs :: [AO.lst ((postsM ss).map postAV), .lst (fitsL (dkOf ps ss) (allSN ss).length)]) ++ [.dict []] = .inst 3 fs :: [.lst ((postsM ss).map postAV), .lst (fitsL (dkOf ps ss) (allSN ss).length), .dict []] from fun _ => rfl, st_set]
    refine p_attr (v := .ref (H0.length + 4)) (e := dct0E) (by show Out.ok (AV.ref _) _ = _; rw [List.length_append]; rfl) rfl (by rw [List.append_assoc]; exact st_get) (by show _ < 12; decide) ?_
    rw [List.append_assoc, show ∀ fs, (AO.inst 3 fs :: [AO.lst ((postsM ss).map postAV), .lst (fitsL (dkOf ps ss) (allSN ss).length), .dict []]) ++ [.dict []] = .inst 3 fs :: [.lst ((postsM ss).map postAV), .lst (fitsL (dkOf ps ss) (allSN ss).length), .dict [], .dict []] from fun _ => rfl, st_set]
    refine p_for (a := .lst (ps.map fun p => .str p.name)) (xs := ps.map fun p => .str p.name) (e_mo rfl (hb _) (i := 18) rfl l_nil (people_of (k := k + 2) Rd (Bu _))) rfl rfl
      (fun j ρ H' => A2 (H' = H0 ++ (AO.inst 3 (sdOf H0 ps ss).inst :: .lst ((postsM ss).map postAV) :: .lst (fitsL (dkOf ps ss) (allSN ss).length) :: .dict (atD (H0.length + 5) ((ps.map (·.name)).take j)) :: .dict (mostD (dkOf ps ss) ((ps.map (·.name)).take j)) :: heldO (dkOf ps ss) ((ps.map (·.name)).take j) fun _ => [])) (∃ a4, ρ = [some (.ref H0.length), some (.ref bk), a2, a3, a4])) ⟨rfl, _, rfl⟩ ?_ ?_
    · rintro J j v ρ H' hv ⟨rfl, a4, rfl⟩ hJ
      rw [List.getElem?_map] at hv
      refine x1_2 (Option.map_eq_some_iff.mp hv) fun p hj e2' => ?_; subst e2'
      have hp := List.mem_of_getElem? hj
      have hjn : (ps.map (·.name))[j]? = some p.name := by rw [List.getElem?_map, hj]; rfl
      have hjl := (List.getElem?_eq_some_iff.mp hj).1
      have hno : p.name ∉ (ps.map (·.name)).take j := not_before G.pn hjn
      have hlen : (heldO (dkOf ps ss) ((ps.map (·.name)).take j) fun _ => []).length = j := by unfold heldO; rw [List.length_map, List.length_take, List.length_map]; lia
      rw [at_snoc hjn, most_snoc hjn, heldO_snoc hjn, dk_most G.pn hp] at hJ
      have hal : (atD (H0.length + 5) ((ps.map (·.name)).take j)).length ≤ 1000 := by unfold atD; rw [List.length_map, List.length_zipIdx, List.length_take]; lia
      have hml : (mostD (dkOf ps ss) ((ps.map (·.name)).take j)).length ≤ 1000 := by unfold mostD; rw [List.length_map, List.length_take]; lia
      have hak : Key.str p.name ∉ (atD (H0.length + 5) ((ps.map (·.name)).take j)).map (·.1) := fun q => by
        refine x1_2 (List.mem_map.mp q) fun e he e' => ?_
        refine x1_2 (List.mem_map.mp he) fun w hw e2 => ?_; subst e2
        have e' : w.1 = p.name := Key.str.inj e'
        exact hno (e' ▸ List.fst_mem_of_mem_zipIdx hw)
      have hmk : Key.str p.name ∉ (mostD (dkOf ps ss) ((ps.map (·.name)).take j)).map (·.1) := fun q => by
        refine x1_2 (List.mem_map.mp q) fun e he e' => ?_
        refine x1_2 (List.mem_map.mp he) fun w hw e2 => ?_; subst e2
        have e' : w = p.name := Key.str.inj e'
        exact hno (e' ▸ hw)
      generalize atD (H0.length + 5) ((ps.map (·.name)).take j) = A at hal hak hJ
      generalize mostD (dkOf ps ss) ((ps.map (·.name)).take j) = M at hml hmk hJ
      generalize (heldO (dkOf ps ss) ((ps.map (·.name)).take j) fun _ => []) = Q at hlen hJ
      show Nx _ _ ((_ : DS) [some (.ref H0.length), some (.ref bk), a2, a3, some (.str p.name)] _)
      refine p_item (v := .ref (H0.length + 5 + j)) (by show Out.ok (AV.ref _) _ = _; rw [List.length_append]; simp only [List.length_cons, hlen]; congr 2; lia) (e_attr (v := .ref (H0.length + 3)) rfl (by rw [List.append_assoc]; exact st_get) rfl) rfl (dset (es := A) (k := .str p.name) (by rw [List.append_assoc]; exact get_off (i := 3)) rfl hal hak) ?_
      rw [List.append_assoc, st_seti]
      refine p_item (v := .int p.limit) (e_mo rfl (hb _) (i := 23) rfl (l_one rfl) (limit_of (k := k + 1) C Rd (Bu _) G.pn hp)) (e_attr (v := .ref (H0.length + 4)) rfl st_get rfl) rfl (dset (es := M) (k := .str p.name) (get_off (i := 4)) rfl hml hmk) ?_
      rw [st_seti]
      exact nx_next (hJ _ _ ⟨rfl, _, rfl⟩)
    · rintro ρ H' ⟨rfl, a4, rfl⟩
      rw [List.length_map, List.take_of_length_le (by rw [List.length_map]; exact Nat.le_refl _)]
      have := fin [some (.ref H0.length), some (.ref bk), a2, a3, a4]
      unfold Sd.hp at this
      rw [List.append_nil] at this
      exact p_nil this
theorem init_run (Q : DealR R) (C : BookR R) (My : MayR R) (Rd : ReadR R) (B : BookOf N H0 bk ps ss) (G : Good ps ss) : R (k + 4) false 28 [.ref H0.length, .ref bk] (H0 ++ [.inst 3 (List.replicate 12 none)]) = .ok .none ((sdOf H0 ps ss).hp (fun _ => []) []) := by
  rw [Q.init _ _ _ _ rfl]
  exact init_P (PG := fun o => o.done = .ok .none ((sdOf H0 ps ss).hp (fun _ => []) [])) C My Rd B G fun _ => rfl
end
section
variable {P : OutS → Prop} {ρ ρ₁ : RE} {H H₁ : AH} {a : AV} {e : DE} {r : List DS} {hot : Bool}
theorem p_asgM {is : List Nat} (h : e ρ H = .ok a H₁) (hb : bindT hot (.many is) a ρ = some ρ₁) (q : P (seqS r ρ₁ H₁)) : P (seqS (assignS hot (.many is) e :: r) ρ H) := by
  have : assignS hot (.many is) e ρ H = .next ρ₁ H₁ := by
    unfold assignS
    rw [h]
    show orBadS (bindT hot (.many is) a ρ) _ = _
    rw [hb]; rfl
  exact p_step this q
end
noncomputable def cntS (ss : List Sm) (x : Nat) : Nat := match (allSN ss)[x]? with | some e => e.2.2.toNat | none => 0
noncomputable def rowX (P : List Str) (h : Str → List Nat) (x : Nat) (e : Sm × (Str × Int)) : List AV := (P.filter fun r => decide (x ∈ h r)).map fun r => .tup [.str e.1.name, .str e.2.1, .str r]
noncomputable def rowsH (P : List Str) (h : Str → List Nat) (ss : List Sm) (n : Nat) : List AV := (List.range n).flatMap fun x => match (allSN ss)[x]? with | some e => rowX P h x e | none => []
section
variable {R : Nat → Bool → FT} {k : Nat} {H0 : AH} {N bk : Nat} {ps : List Pm} {ss : List Sm} {PG : OutS → Prop} {x : Nat} {h : Str → List Nat} {S : Sd}
theorem got_eq {H : AH} {D : Dk} {l : List Nat} (hn : (l.map D.day).Nodup) : cmpA H .Eq (((heldD D l).lookup (.int (D.day x))).getD .none) (nI x) = some (decide (x ∈ l)) := by
  by_cases q : ∃ y ∈ l, D.day y = D.day x
  · refine x1_2 q fun y hy e => ?_
    rw [← e, held_look hn hy]
    refine eq_nI.trans ?_
    congr 1
    exact decide_eq_decide.mpr ⟨fun w => w ▸ hy, fun w => nd_inj hn hy w e⟩
  · rw [look_no (held_no fun z hz e => q ⟨z, hz, e⟩), decide_eq_false fun w => q ⟨x, w, rfl⟩]; rfl
theorem ints_row {l : List Nat} : intsOf (l.map nI) = some (l.map fun x : Nat => (x : Int)) := by
  induction l with
  | nil => rfl
  | cons x l ih => show (intsOf (l.map nI)).map _ = _; rw [ih]; rfl
theorem hold_none {D : Dk} (hm : ∀ r, 0 ≤ D.most r) : Hold D fun _ => [] := ⟨fun r => List.nodup_nil, fun r x q => absurd q List.not_mem_nil, hm⟩
theorem load_none {P : List Str} : load P (fun _ => []) x = 0 := List.countP_eq_zero.mpr fun r _ => by simp
theorem sd_mo (hl : ∀ p ∈ ps, 0 ≤ p.limit) (r : Str) : 0 ≤ (dkOf ps ss).most r := by
  show 0 ≤ (match ps.find? (fun p => decide (p.name = r)) with | some p => p.limit | none => 0)
  split
  · rename_i p h
    exact hl p (List.mem_of_find?_eq_some h)
  · decide
noncomputable def Fills (ps : List Pm) (ss : List Sm) (g : Str → List Nat) : Prop := Hold (dkOf ps ss) g ∧ ∀ x < (allSN ss).length, load (ps.map (·.name)) g x = cntS ss x
structure Half (ps : List Pm) (ss : List Sm) (j t : Nat) (h : Str → List Nat) : Prop where
  ok : Hold (dkOf ps ss) h
  ld : ∀ x, load (ps.map (·.name)) h x = if x < j then cntS ss x else if x = j then t else 0
theorem half_next (Z : Half ps ss x (cntS ss x) h) : Half ps ss (x + 1) 0 h := ⟨Z.ok, fun y => by
  rw [Z.ld]
  by_cases q : y < x
  · rw [if_pos q, if_pos (by lia)]
  · by_cases w : y = x
    · subst w; rw [if_neg q, if_pos rfl, if_pos (by lia)]
    · rw [if_neg q, if_neg w, if_neg (by lia)]; split <;> rfl⟩
theorem half_more {t : Nat} {T : List Ent} {c : Str → List Nat} (Z : Half ps ss x t h) (d : Dn (dkOf ps ss) h (ps.map (·.name)) x T 0 c) : Half ps ss x (t + 1) c := ⟨d.ok, fun y => by
  rw [d.ld, Z.ld]
  show _ + (if some x = some y then 1 else 0) = _
  by_cases w : x = y
  · subst w; rw [if_neg (Nat.lt_irrefl _), if_pos rfl, if_pos rfl, if_neg (Nat.lt_irrefl _), if_pos rfl]
  · rw [if_neg (fun q => w (Option.some.inj q)), if_neg (c := y = x) (Ne.symm w), if_neg (c := y = x) (Ne.symm w)]; rfl⟩
theorem half_stuck {t : Nat} {T : List Ent} {g : Str → List Nat} (Z : Half ps ss x t h) (ht : t < cntS ss x) (hx : x < (allSN ss).length) (hr : ∀ y ∈ rowT x T, y < (allSN ss).length) (t' : Tr (dkOf ps ss) h x T) (s : ∀ y ∈ rowT x T, ∀ r ∈ (dkOf ps ss).fits y, Seen (dkOf ps ss) h x T y r) (F : Fills ps ss g) : False := by
  refine fail_no (P := ps.map (·.name)) Z.ok F.1 t' s (fun y hy => ?_) ?_
  · rw [F.2 y (hr y hy), Z.ld]
    split
    · exact Nat.le_refl _
    · split
      · rename_i q; subst q; exact Nat.le_of_lt ht
      · exact Nat.zero_le _
  · rw [F.2 x hx, Z.ld, if_neg (Nat.lt_irrefl _), if_pos rfl]; exact ht
theorem post_at {e : Sm × (Str × Int)} (he : (allSN ss)[x]? = some e) : ((postsM ss).map postAV)[x]? = some (.tup [.str e.1.name, .str e.2.1]) := by rw [posts_all, List.map_map, List.getElem?_map, he]; rfl
theorem rowx_len {P : List Str} {e : Sm × (Str × Int)} : (rowX P h x e).length ≤ P.length := by
  unfold rowX
  rw [List.length_map]
  exact List.length_filter_le _ _
theorem rows_few {P : List Str} (hP : P.length ≤ 100) {j : Nat} : j ≤ (allSN ss).length → (rowsH P h ss j).length ≤ 100 * j := by
  unfold rowsH
  induction j with
  | zero => exact fun _ => Nat.le_refl _
  | succ j ih =>
    intro hj
    obtain ⟨e, he⟩ : ∃ e, (allSN ss)[j]? = some e := ⟨_, List.getElem?_eq_getElem (by lia)⟩
    have h1 := ih (by lia)
    have h2 := rowx_len (h := h) (x := j) (P := P) (e := e)
    rw [List.range_succ, List.flatMap_append, List.flatMap_singleton, List.length_append]
    simp only [he]
    lia
theorem rows_P (Rd : ReadR R) (B : BookOf N H0 bk ps ss) (G : Good ps ss) (K : SdOK (sdOf H0 ps ss)) (Hh : Hold (dkOf ps ss) h) {L : AH} {a2 a3 a4 a5 a6 a8 : Option AV}
    (fin : ∀ H' m, H'[m]? = some (.lst (rowsH (ps.map (·.name)) h ss (allSN ss).length)) → Up H0.length H0 H' → PG (.ret (.tup [.str "rota", .ref m]) H')) :
    PG (seqS [assignS false (.one 7) (lstE true []), forS false (.one 2) (biE false .range [(biE false .len [(attrE 7 (varE 1))])]) (dc_dealt_b1 (R (k + 1)) false), retS (tupE [(cstE (.str "rota")), (varE 7)])] [some (.ref bk), some (.ref H0.length), a2, a3, a4, a5, a6, none, a8] ((sdOf H0 ps ss).hp h L)) := by
  have hn : (allSN ss).length ≤ 600 := K.nf
  have hpf := G.pf
  obtain ⟨f0, hb⟩ := B.at
  have Bu : ∀ L : AH, BookOf N ((sdOf H0 ps ss).hp h L) bk ps ss := fun L => B.up (hp_up (S := sdOf H0 ps ss))
  have hb : ∀ L : AH, ((sdOf H0 ps ss).hp h L)[bk]? = some (.inst 2 f0) := fun L => (hp_up (S := sdOf H0 ps ss)).get hb
  have hpl : ((postsM ss).map postAV).length = (allSN ss).length := posts_n
  refine p_asg (a := .ref ((sdOf H0 ps ss).m L)) (H₁ := (sdOf H0 ps ss).hp h (L ++ [.lst []])) (e_lst l_nil (by simp) (by
    show Out.ok (AV.ref ((sdOf H0 ps ss).hp h L).length) _ = _
    rw [hp_len, hp_app]; rfl)) ?_
  have hrow : ∀ l : List AV, ((sdOf H0 ps ss).hp h (L ++ [.lst l]))[(sdOf H0 ps ss).m L]? = some (.lst l) := fun l => hp_G.trans get_last
  refine p_for (a := .rng 0 (allSN ss).length) (H₁ := (sdOf H0 ps ss).hp h (L ++ [.lst []])) (xs := span 0 (allSN ss).length) (e_bi (l_one (e_bi (l_one (e_attr rfl hp_0 rfl)) ((IsL.len (N := H0.length + 2) (.inr ⟨_, rfl, by show H0.length + 1 < _; lia, hp_1⟩) (by show ((postsM ss).map postAV).length ≤ _; rw [hpl]; lia)).trans (by show Out.ok (AV.int (((postsM ss).map postAV).length : Nat)) _ = _; rw [hpl])))) rfl) (range_src (by lia) (by lia)) (by rw [span_len, Int.sub_zero])
    (fun j ρ H' => Ex4 fun a2 a3 a4 a8 => A2 (H' = (sdOf H0 ps ss).hp h (L ++ [.lst (rowsH (ps.map (·.name)) h ss j)])) (ρ = [some (.ref bk), some (.ref H0.length), a2, a3, a4, a5, a6, some (.ref ((sdOf H0 ps ss).m L)), a8])) ⟨_, _, _, _, rfl, rfl⟩ ?_ ?_
  · rintro J j v ρ H' hv ⟨a2, a3, a4, a8, rfl, rfl⟩ hJ
    obtain ⟨hd, X, hX, rfl⟩ := span_get hv
    have hjl : j < (allSN ss).length := by lia
    obtain ⟨e, he⟩ : ∃ e, (allSN ss)[j]? = some e := ⟨_, List.getElem?_eq_getElem hjl⟩
    have hXj : AV.int X = nI j := by rw [hX]; rfl
    rw [hXj]
    have e1 : rowsH (ps.map (·.name)) h ss (j + 1) = rowsH (ps.map (·.name)) h ss j ++ rowX (ps.map (·.name)) h j e := by
      unfold rowsH
      rw [List.range_succ, List.flatMap_append, List.flatMap_singleton]
      simp only [he]
    rw [e1] at hJ
    have hrl : (rowsH (ps.map (·.name)) h ss j).length ≤ 100 * j := by
      exact rows_few (by rw [List.length_map]; exact hpf) (by lia)
    generalize rowsH (ps.map (·.name)) h ss j = Z at hJ hrl
    show Nx _ _ ((_ : DS) [some (.ref bk), some (.ref H0.length), some (nI j), a3, a4, a5, a6, some (.ref ((sdOf H0 ps ss).m L)), a8] _)
    refine p_asgM (ρ₁ := [some (.ref bk), some (.ref H0.length), some (nI j), some (.str e.1.name), some (.str e.2.1), a5, a6, some (.ref ((sdOf H0 ps ss).m L)), a8]) (e_sub (e_attr rfl hp_0 rfl) rfl (sub_ref hp_1 (Int.natCast_nonneg _) (by rw [Int.toNat_natCast]; exact post_at he) (by show ((postsM ss).map postAV).length ≤ _; rw [hpl]; lia))) rfl ?_
    refine p_for (a := .lst (ps.map fun p => .str p.name)) (xs := ps.map fun p => .str p.name) (e_mo rfl (hb _) (i := 18) rfl l_nil (people_of (k := k) Rd (Bu _))) rfl rfl
      (fun i ρ H' => A2 (H' = (sdOf H0 ps ss).hp h (L ++ [.lst (Z ++ rowX ((ps.map (·.name)).take i) h j e)])) (∃ a8, ρ = [some (.ref bk), some (.ref H0.length), some (nI j), some (.str e.1.name), some (.str e.2.1), a5, a6, some (.ref ((sdOf H0 ps ss).m L)), a8])) ⟨by unfold rowX; rw [List.take_zero]; simp, _, rfl⟩ ?_ ?_
    · rintro J' i v ρ H' hv ⟨rfl, a8, rfl⟩ hJ'
      rw [List.getElem?_map] at hv
      refine x1_2 (Option.map_eq_some_iff.mp hv) fun p hi e2' => ?_; subst e2'
      have hin : (ps.map (·.name))[i]? = some p.name := by rw [List.getElem?_map, hi]; rfl
      have hil := (List.getElem?_eq_some_iff.mp hi).1
      have e2 : rowX ((ps.map (·.name)).take (i + 1)) h j e = rowX ((ps.map (·.name)).take i) h j e ++ (if j ∈ h p.name then [.tup [.str e.1.name, .str e.2.1, .str p.name]] else []) := by
        unfold rowX
        rw [List.take_add_one, hin, List.filter_append, List.map_append]
        congr 1
        by_cases q : j ∈ h p.name
        · rw [if_pos q, Option.toList_some, List.filter_cons_of_pos (p := fun r => decide (j ∈ h r)) (decide_eq_true q)]; rfl
        · rw [if_neg q, Option.toList_some, List.filter_cons_of_neg (p := fun r => decide (j ∈ h r)) (by simpa using q)]; rfl
      rw [e2] at hJ'
      have hql : (rowX ((ps.map (·.name)).take i) h j e).length ≤ 100 := by
        refine Nat.le_trans rowx_len ?_
        rw [List.length_take, List.length_map]; lia
      generalize rowX ((ps.map (·.name)).take i) h j e = Y at hJ' hql
      show Nx _ _ ((_ : DS) [some (.ref bk), some (.ref H0.length), some (nI j), some (.str e.1.name), some (.str e.2.1), a5, a6, some (.ref ((sdOf H0 ps ss).m L)), some (.str p.name)] _)
      refine p_if (e_cmp (e_get (at_sub K (S := sdOf H0 ps ss) hin rfl rfl) (day_e K (S := sdOf H0 ps ss) hjl rfl rfl) (hp_held hin) rfl (held_few K Hh)) rfl (got_eq (Hh.nd _))) (fun q => ?_) fun q => ?_
      · have q := of_decide_eq_true q
        rw [if_pos q] at hJ'
        refine p_expr (P := Th _ _) (e_append rfl (hrow _) (l_one (e_tup (l_three rfl rfl rfl) (by simp))) (hrow _) (by rw [List.length_append]; lia)) (th_next (hJ' _ _ ⟨?_, _, rfl⟩))
        unfold Sd.m
        rw [hp_setG (by simp), List.set_append_right _ _ (Nat.le_refl _), Nat.sub_self, ← List.append_assoc]; rfl
      · have q := of_decide_eq_false q
        rw [if_neg q, List.append_nil] at hJ'
        exact th_next (hJ' _ _ ⟨rfl, _, rfl⟩)
    · rintro ρ H' ⟨rfl, a8, rfl⟩
      rw [List.length_map, List.take_of_length_le (by rw [List.length_map]; exact Nat.le_refl _)]
      exact nx_next (hJ _ _ ⟨_, _, _, _, rfl, rfl⟩)
  · rintro ρ H' ⟨a2, a3, a4, a8, rfl, rfl⟩
    rw [span_len, Int.sub_zero, Int.toNat_natCast]
    exact p_ret (e_tup (l_two rfl rfl) (by simp)) (fin _ _ (hrow _) (hp_up (S := sdOf H0 ps ss)))
theorem dealt_P (Q : DealR R) (C : BookR R) (My : MayR R) (Rd : ReadR R) (B : BookOf N H0 bk ps ss) (G : Good ps ss) (hl : ∀ p ∈ ps, 0 ≤ p.limit ∧ p.limit ≤ 100) (hn : (allSN ss).length ≤ 60) (hc : ∀ e ∈ allSN ss, 0 ≤ e.2.2 ∧ e.2.2 ≤ 1000)
    (finS : ∀ (l : List AV) H', 0 < l.length → l.length ≤ 60 → (∀ g, ¬ Fills ps ss g) → Up H0.length H0 H' → PG (.ret (.tup [.str "short", .lst l]) H'))
    (finR : ∀ h H' m, Fills ps ss h → H'[m]? = some (.lst (rowsH (ps.map (·.name)) h ss (allSN ss).length)) → Up H0.length H0 H' → PG (.ret (.tup [.str "rota", .ref m]) H')) :
    PG (dc_dealt (R (k + 4)) false (rho0 [.ref bk] 9) H0) := by
  have K : SdOK (sdOf H0 ps ss) := sd_ok G fun p hp => (hl p hp).2
  have hpl : ((postsM ss).map postAV).length = (allSN ss).length := posts_n
  obtain ⟨f0, hb⟩ := B.at
  have Bu : ∀ h L, BookOf N ((sdOf H0 ps ss).hp h L) bk ps ss := fun h L => B.up (hp_up (S := sdOf H0 ps ss))
  have hb : ∀ h L, ((sdOf H0 ps ss).hp h L)[bk]? = some (.inst 2 f0) := fun h L => (hp_up (S := sdOf H0 ps ss)).get hb
  refine p_asg (a := .ref H0.length) (e_new (l_one rfl) (i := 28) rfl (init_run (k := k) Q C My Rd B G)) ?_
  refine p_for (a := .rng 0 (allSN ss).length) (H₁ := (sdOf H0 ps ss).hp (fun _ => []) []) (xs := span 0 (allSN ss).length) (e_bi (l_one (e_bi (l_one (e_attr rfl hp_0 rfl)) ((IsL.len (N := H0.length + 2) (.inr ⟨_, rfl, by show H0.length + 1 < _; lia, hp_1⟩) (by show ((postsM ss).map postAV).length ≤ _; rw [hpl]; lia)).trans (by show Out.ok (AV.int (((postsM ss).map postAV).length : Nat)) _ = _; rw [hpl])))) rfl) (range_src (by lia) (by lia)) (by rw [span_len, Int.sub_zero])
    (fun j ρ H' => Ex7 fun (h : Str → List Nat) (L : AH) (a2 a3 a4 a5 a6 : Option AV) => A3 (Half ps ss j 0 h) (H' = (sdOf H0 ps ss).hp h L) (ρ = [some (.ref bk), some (.ref H0.length), a2, a3, a4, a5, a6, none, none])) ⟨fun _ => [], [], _, _, _, _, _, ⟨hold_none (sd_mo fun p hp => (hl p hp).1), fun x => ?_⟩, rfl, rfl⟩ ?_ ?_
  · rw [load_none, if_neg (Nat.not_lt_zero _)]; split <;> rfl
  · rintro J j v ρ H' hv ⟨h, L, a2, a3, a4, a5, a6, Z, rfl, rfl⟩ hJ
    obtain ⟨hd, X, hX, rfl⟩ := span_get hv
    have hjl : j < (allSN ss).length := by lia
    obtain ⟨e, he⟩ : ∃ e, (allSN ss)[j]? = some e := ⟨_, List.getElem?_eq_getElem hjl⟩
    have hm := all_mem (List.mem_of_getElem? he)
    have hce := hc e (List.mem_of_getElem? he)
    have hct : cntS ss j = e.2.2.toNat := by unfold cntS; simp only [he]
    have hc' : e.2.2 = (cntS ss j : Int) := by rw [hct]; lia
    have hXj : AV.int X = nI j := by rw [hX]; rfl
    rw [hXj]
    clear hX hXj hv
    show Nx _ _ ((_ : DS) [some (.ref bk), some (.ref H0.length), some (nI j), a3, a4, a5, a6, none, none] _)
    refine p_asgM (ρ₁ := [some (.ref bk), some (.ref H0.length), some (nI j), some (.str e.1.name), some (.str e.2.1), a5, a6, none, none]) (e_sub (e_attr rfl hp_0 rfl) rfl (sub_ref hp_1 (Int.natCast_nonneg _) (by rw [Int.toNat_natCast]; exact post_at he) (by show ((postsM ss).map postAV).length ≤ _; rw [hpl]; lia))) rfl ?_
    refine p_for (a := .rng 0 (cntS ss j)) (xs := span 0 (cntS ss j)) (e_bi (l_one (e_mo rfl (hb _ _) (i := 25) rfl (l_two rfl rfl) ((count_of (k := k + 2) C Rd (Bu _ _) G hm.1 hm.2).trans (by rw [hc'])))) rfl) (range_src (by lia) (by lia)) (by rw [span_len, Int.sub_zero])
      (fun t ρ H' => Ex4 fun (h : Str → List Nat) (L : AH) (a5 a6 : Option AV) => A3 (Half ps ss j t h) (H' = (sdOf H0 ps ss).hp h L) (ρ = [some (.ref bk), some (.ref H0.length), some (nI j), some (.str e.1.name), some (.str e.2.1), a5, a6, none, none])) ⟨h, L, _, _, Z, rfl, rfl⟩ ?_ ?_
    · rintro J' t v ρ H' hv ⟨h, L, a5, a6, Z, rfl, rfl⟩ hJ'
      obtain ⟨hd', X, hX, rfl⟩ := span_get hv
      show Nx _ _ ((_ : DS) [some (.ref bk), some (.ref H0.length), some (nI j), some (.str e.1.name), some (.str e.2.1), some (.int X), a6, none, none] _)
      rcases sought_run (k := k + 1) (G := L) Q K Z.ok (f := j) hjl with ⟨c, L', T, run, dn⟩ | ⟨T, run, tr, sn⟩
      · refine p_asg (e_mo rfl hp_0 (i := 30) rfl (l_one rfl) run) ?_
        exact p_skip (e_cmp rfl rfl rfl) (nx_next (hJ' _ _ ⟨c, _, _, _, half_more Z dn, rfl, rfl⟩))
      · have hlt : ∀ y ∈ rowT j T, y < (allSN ss).length := fun y hy => row_lt K tr hjl Z.ok hy
        have hrl : (rowT j T).length ≤ 60 := by
          have h2 := sub_len (m := List.range (allSN ss).length) tr.nd fun z hz => List.mem_range.mpr (hlt z hz)
          rw [List.length_range] at h2
          lia
        refine p_asg (e_mo rfl hp_0 (i := 30) rfl (l_one rfl) run) ?_
        refine p_if (x := true) (e_cmp rfl rfl rfl) (fun _ => ?_) fun q => nomatch q
        have srt : biA false .sorted [.ref ((sdOf H0 ps ss).m L)] ((sdOf H0 ps ss).hs h L j T) = .ok (.lst ((sortI ((rowT j T).map fun x : Nat => (x : Int))).map .int)) ((sdOf H0 ps ss).hs h L j T) := by
          show (match dcOf ((sdOf H0 ps ss).hs h L j T) (.ref ((sdOf H0 ps ss).m L)) with | some (_, es) => orBad (intsOf (es.map fun (e : Key × AV) => e.1.av)) fun is => if (!false && decide (is.length < 64)) = true then Out.ok (AV.lst ((sortI is).map .int)) ((sdOf H0 ps ss).hs h L j T) else .bad | none => .bad) = _
          rw [dcOf_at hs_met]
          have e1 : (metD j T).map (fun e => e.1.av) = (rowT j T).map nI := by
            have := congrArg (List.map Key.av) (met_keys (f := j) (T := T))
            rw [List.map_map, List.map_map] at this
            exact this
          show orBad (intsOf ((metD j T).map fun e => e.1.av)) _ = _
          rw [e1, ints_row]
          show (if (!false && decide (((rowT j T).map fun x : Nat => (x : Int)).length < 64)) = true then _ else _) = _
          rw [if_pos (by rw [List.length_map, Bool.not_false, Bool.true_and]; exact decide_eq_true (by lia))]
        have hperm := sortI_perm ((rowT j T).map fun x : Nat => (x : Int))
        have hsl := hperm.length_eq
        rw [List.length_map] at hsl
        refine p_ret (P := Th _ _) (e_tup (l_two rfl (e_mapF (l := sortI ((rowT j T).map fun x : Nat => (x : Int))) (fx := .int) (fy := fun i => ((postsM ss).map postAV).getD i.toNat .none) (e_bi (l_one rfl) srt) (.inl rfl) (by lia) (fun i hi => ?_) rfl)) (by simp)) (finS _ _ (by rw [List.length_map, hsl]; exact Nat.succ_pos _) (by rw [List.length_map]; lia) (fun g F => half_stuck Z hd' hjl hlt tr sn F) (hp_up (S := sdOf H0 ps ss)))
        have hi := hperm.mem_iff.mp hi
        refine x1_2 (List.mem_map.mp hi) fun y hy e => ?_; subst e
        have hyl := hlt y hy
        refine e_sub (e_attr (var_app rfl) hp_0 rfl) (var_new rfl) (sub_ref hp_1 (Int.natCast_nonneg _) ?_ (by show ((postsM ss).map postAV).length ≤ _; rw [hpl]; lia))
        rw [Int.toNat_natCast, List.getD_eq_getElem?_getD]
        show ((postsM ss).map postAV)[y]? = _
        rw [List.getElem?_eq_getElem (by rw [hpl]; exact hyl)]; rfl
    · rintro ρ H' ⟨h, L, a5, a6, Z, rfl, rfl⟩
      rw [span_len, Int.sub_zero, Int.toNat_natCast] at Z
      exact nx_next (hJ _ _ ⟨h, L, _, _, _, _, _, half_next Z, rfl, rfl⟩)
  · rintro ρ H' ⟨h, L, a2, a3, a4, a5, a6, Z, rfl, rfl⟩
    rw [span_len, Int.sub_zero, Int.toNat_natCast] at Z
    refine rows_P (k := k + 3) Rd B G K Z.ok fun H' m q u => finR h H' m ⟨Z.ok, fun x hx => ?_⟩ q u
    rw [Z.ld, if_pos hx]
theorem dealt_run (Q : DealR R) (C : BookR R) (My : MayR R) (Rd : ReadR R) (B : BookOf N H0 bk ps ss) (G : Good ps ss) (hl : ∀ p ∈ ps, 0 ≤ p.limit ∧ p.limit ≤ 100) (hn : (allSN ss).length ≤ 60) (hc : ∀ e ∈ allSN ss, 0 ≤ e.2.2 ∧ e.2.2 ≤ 1000) :
    ∃ v H', R (k + 5) false 33 [.ref bk] H0 = .ok v H' ∧ Up H0.length H0 H' ∧ ((∃ l : List AV, v = .tup [.str "short", .lst l] ∧ 0 < l.length ∧ l.length ≤ 60 ∧ ∀ g, ¬ Fills ps ss g) ∨ ∃ h m, v = .tup [.str "rota", .ref m] ∧ Fills ps ss h ∧ H'[m]? = some (.lst (rowsH (ps.map (·.name)) h ss (allSN ss).length))) := by
  rw [Q.dealt _ _ _ _ rfl]
  exact dealt_P (PG := fun o => ∃ v H', o.done = .ok v H' ∧ Up H0.length H0 H' ∧ ((∃ l : List AV, v = .tup [.str "short", .lst l] ∧ 0 < l.length ∧ l.length ≤ 60 ∧ ∀ g, ¬ Fills ps ss g) ∨ ∃ h m, v = .tup [.str "rota", .ref m] ∧ Fills ps ss h ∧ H'[m]? = some (.lst (rowsH (ps.map (·.name)) h ss (allSN ss).length)))) Q C My Rd B G hl hn hc (fun l H' h1 h2 h3 u => ⟨_, H', rfl, u, .inl ⟨l, rfl, h1, h2, h3⟩⟩) fun h H' m F q u => ⟨_, H', rfl, u, .inr ⟨h, m, rfl, F, q⟩⟩
theorem rows_len {P : List Str} {n : Nat} (hn : n ≤ (allSN ss).length) : (rowsH P h ss n).length = ((List.range n).map fun x => load P h x).sum := by
  unfold rowsH
  induction n with
  | zero => rfl
  | succ n ih =>
    obtain ⟨e, he⟩ : ∃ e, (allSN ss)[n]? = some e := ⟨_, List.getElem?_eq_getElem (by lia)⟩
    rw [List.range_succ, List.flatMap_append, List.length_append, ih (by lia), List.map_append, List.sum_append, List.flatMap_singleton]
    simp only [he]
    unfold rowX load
    rw [List.length_map, List.map_cons, List.map_nil, List.sum_cons, List.sum_nil, Nat.add_zero, List.countP_eq_length_filter]
end
section
variable (D : Dk) (ps : List Pm)
noncomputable def ownW (w : List (Nat × Pm)) (p : Pm) : List Int := (w.filter fun e => decide (e.2.name = p.name)).map fun e => D.day e.1
noncomputable def okW (w : List (Nat × Pm)) (x : Nat) (p : Pm) : Bool := decide (p.name ∈ D.fits x) && (decide (D.day x ∉ ownW D w p) && decide (((ownW D w p).length : Int) < D.most p.name))
noncomputable def stepW (W : List (List (Nat × Pm))) (x : Nat) : List (List (Nat × Pm)) := W.flatMap fun w => (ps.filter (okW D w x)).map fun p => w ++ [(x, p)]
noncomputable def waysM (I : List Nat) : List (List (Nat × Pm)) := I.foldl (stepW D ps) [[]]
structure WayOf (I : List Nat) (w : List (Nat × Pm)) (g : Str → List Nat) : Prop where
  ok : Hold D g
  ld : ∀ x, load (ps.map (·.name)) g x = I.count x
  own : ∀ p ∈ ps, ownW D w p = (g p.name).map D.day
end
section
variable {D : Dk} {ps : List Pm} {I : List Nat} {w : List (Nat × Pm)} {g h : Str → List Nat} {x : Nat} {p : Pm}
theorem ways_snoc : waysM D ps (I ++ [x]) = stepW D ps (waysM D ps I) x := by unfold waysM; rw [List.foldl_append]; rfl
theorem hold_nil (hm : ∀ r, 0 ≤ D.most r) : WayOf D ps [] [] fun _ => [] := by
  refine ⟨⟨fun r => List.nodup_nil, fun r x q => absurd q List.not_mem_nil, hm⟩, fun x => ?_, fun p _ => rfl⟩
  unfold load
  rw [List.countP_eq_zero.mpr fun r _ => by simp]; rfl
theorem own_snoc {q : Pm} : ownW D (w ++ [(x, p)]) q = ownW D w q ++ (if p.name = q.name then [D.day x] else []) := by
  unfold ownW
  rw [List.filter_append, List.map_append]
  congr 1
  by_cases e : p.name = q.name
  · rw [List.filter_cons_of_pos (by simpa using e), if_pos e]; rfl
  · rw [List.filter_cons_of_neg (by simpa using e), if_neg e]; rfl
theorem way_snoc (hn : (ps.map (·.name)).Nodup) (A : WayOf D ps I w g) (hp : p ∈ ps) (h1 : p.name ∈ D.fits x) (h2 : ∀ z ∈ g p.name, D.day z ≠ D.day x) (h3 : ((g p.name).length : Int) < D.most p.name) : WayOf D ps (I ++ [x]) (w ++ [(x, p)]) (upd g p.name (g p.name ++ [x])) := by
  refine ⟨hold_upd A.ok (nd_snoc (A.ok.nd _) h2) (fun z hz => ?_) (by rw [List.length_append]; simp only [List.length_cons, List.length_nil]; omega), fun z => ?_, fun q hq => ?_⟩
  · rcases List.mem_append.mp hz with hz | hz
    · exact A.ok.ft _ z hz
    · rw [List.mem_singleton.mp hz]; exact h1
  · have := load_upd (c := g) (l := g p.name ++ [x]) (x := z) hn (List.mem_map_of_mem hp)
    rw [A.ld] at this
    rw [List.count_append, List.count_singleton]
    by_cases e : x = z
    · subst e
      have n : x ∉ g p.name := fun m => h2 x m rfl
      rw [if_neg n, if_pos (List.mem_append_right _ (.head _))] at this
      rw [if_pos (by simp)]; omega
    · rw [if_neg (by simpa using e)]
      have e2 : (z ∈ g p.name ++ [x]) ↔ z ∈ g p.name := by
        rw [List.mem_append, List.mem_singleton]
        exact ⟨fun q => q.resolve_right fun q => e q.symm, .inl⟩
      simp only [e2] at this
      omega
  · rw [own_snoc, A.own q hq]
    by_cases e : p.name = q.name
    · rw [if_pos e, ← e, upd_eq, List.map_append]; rfl
    · rw [if_neg e, upd_ne (Ne.symm e), List.append_nil]
theorem ok_of (A : WayOf D ps I w g) (hp : p ∈ ps) : okW D w x p = true ↔ p.name ∈ D.fits x ∧ (∀ z ∈ g p.name, D.day z ≠ D.day x) ∧ ((g p.name).length : Int) < D.most p.name := by
  unfold okW
  rw [A.own p hp, List.length_map, Bool.and_eq_true, Bool.and_eq_true, decide_eq_true_eq, decide_eq_true_eq, decide_eq_true_eq, List.mem_map]
  exact and_congr_right fun _ => and_congr_left fun _ => ⟨fun q z hz e => q ⟨z, hz, e⟩, fun q ⟨z, hz, e⟩ => q z hz e⟩
theorem mem_step {W : List (List (Nat × Pm))} {v : List (Nat × Pm)} : v ∈ stepW D ps W x ↔ ∃ w ∈ W, ∃ p ∈ ps, okW D w x p = true ∧ w ++ [(x, p)] = v := by
  unfold stepW
  rw [List.mem_flatMap]
  exact ⟨fun ⟨w, hw, m⟩ => let ⟨p, hp, e⟩ := List.mem_map.mp m; ⟨w, hw, p, (List.mem_filter.mp hp).1, (List.mem_filter.mp hp).2, e⟩, fun ⟨w, hw, p, hp, o, e⟩ => ⟨w, hw, List.mem_map.mpr ⟨p, List.mem_filter.mpr ⟨hp, o⟩, e⟩⟩⟩
theorem ways_hold (hn : (ps.map (·.name)).Nodup) (hm : ∀ r, 0 ≤ D.most r) : ∀ n (I : List Nat), I.length = n → ∀ w ∈ waysM D ps I, ∃ g, WayOf D ps I w g
  | 0, I, e, w, hw => by
    rw [List.eq_nil_of_length_eq_zero e] at hw ⊢
    rw [List.mem_singleton.mp hw]
    exact ⟨_, hold_nil hm⟩
  | n + 1, I, e, v, hv => by
    obtain ⟨J, x, rfl⟩ : ∃ J x, I = J ++ [x] := ⟨I.dropLast, I.getLast (fun q => by rw [q] at e; cases e), (List.dropLast_concat_getLast _).symm⟩
    rw [List.length_append] at e
    rw [ways_snoc] at hv
    obtain ⟨w, hw, p, hp, o, rfl⟩ := mem_step.mp hv
    obtain ⟨g, A⟩ := ways_hold hn hm n J (Nat.add_right_cancel e) w hw
    obtain ⟨h1, h2, h3⟩ := (ok_of A hp).mp o
    exact ⟨_, way_snoc hn A hp h1 h2 h3⟩
theorem load_ex {P : List Str} (hl : load P g x < load P h x) : ∃ r ∈ P, x ∈ h r ∧ x ∉ g r := by
  unfold load at hl
  induction P with
  | nil => exact absurd hl (Nat.lt_irrefl _)
  | cons q s ih =>
    rw [List.countP_cons, List.countP_cons] at hl
    by_cases a : x ∈ h q ∧ x ∉ g q
    · exact ⟨q, .head _, a⟩
    · have : (if decide (x ∈ h q) = true then 1 else 0) ≤ if decide (x ∈ g q) = true then 1 else 0 := by
        by_cases b : x ∈ g q
        · rw [if_pos (decide_eq_true b)]; split <;> omega
        · rw [if_neg (by simpa using fun c => a ⟨c, b⟩)]; exact Nat.zero_le _
      obtain ⟨r, hr, k⟩ := ih (by omega)
      exact ⟨r, .tail _ hr, k⟩
theorem ways_ex (hn : (ps.map (·.name)).Nodup) (hm : ∀ r, 0 ≤ D.most r) (H : Hold D h) : ∀ n (I : List Nat), I.length = n → (∀ x, I.count x ≤ load (ps.map (·.name)) h x) → ∃ w ∈ waysM D ps I, ∃ g, WayOf D ps I w g ∧ ∀ r, ∀ z ∈ g r, z ∈ h r
  | 0, I, e, _ => by
    rw [List.eq_nil_of_length_eq_zero e]
    exact ⟨[], .head _, _, hold_nil hm, fun r z q => absurd q List.not_mem_nil⟩
  | n + 1, I, e, hc => by
    obtain ⟨J, x, rfl⟩ : ∃ J x, I = J ++ [x] := ⟨I.dropLast, I.getLast (fun q => by rw [q] at e; cases e), (List.dropLast_concat_getLast _).symm⟩
    rw [List.length_append] at e
    have hc' : ∀ z, J.count z ≤ load (ps.map (·.name)) h z := fun z => Nat.le_trans (by rw [List.count_append]; exact Nat.le_add_right _ _) (hc z)
    obtain ⟨w, hw, g, A, s⟩ := ways_ex hn hm H n J (Nat.add_right_cancel e) hc'
    have hx := hc x
    rw [List.count_append, List.count_singleton_self] at hx
    obtain ⟨r, hr, m1, m2⟩ := load_ex (x := x) (g := g) (h := h) (P := ps.map (·.name)) (by rw [A.ld]; omega)
    obtain ⟨p, hp, rfl⟩ := List.mem_map.mp hr
    have h2 : ∀ z ∈ g p.name, D.day z ≠ D.day x := fun z hz q => m2 (nd_inj (H.nd _) (s _ z hz) m1 q ▸ hz)
    have h3 : ((g p.name).length : Int) < D.most p.name := by
      have : (g p.name ++ [x]).length ≤ (h p.name).length := sub_len (nd_of_map (nd_snoc (A.ok.nd _) h2)) fun z hz => by
        rcases List.mem_append.mp hz with hz | hz
        · exact s _ z hz
        · rw [List.mem_singleton.mp hz]; exact m1
      rw [List.length_append] at this
      simp only [List.length_cons, List.length_nil] at this
      have := H.mo p.name
      omega
    refine ⟨w ++ [(x, p)], by rw [ways_snoc]; exact mem_step.mpr ⟨w, hw, p, hp, (ok_of A hp).mpr ⟨H.ft _ x m1, h2, h3⟩, rfl⟩, _, way_snoc hn A hp (H.ft _ x m1) h2 h3, fun r z hz => ?_⟩
    by_cases e : r = p.name
    · subst e
      rw [upd_eq] at hz
      rcases List.mem_append.mp hz with hz | hz
      · exact s _ z hz
      · rw [List.mem_singleton.mp hz]; exact m1
    · rw [upd_ne e] at hz
      exact s r z hz
end
theorem r11_is_whole (k : Nat) (hot : Bool) (args : List AV) (H : AH) (h : args.length = 1) : tx11.run (k + 1) hot 0 args H = (dc_is_whole (tx11.run k) hot (rho0 args 1) H).done := run_of h (by kernel_rfl)
theorem r11_is_stretch (k : Nat) (hot : Bool) (args : List AV) (H : AH) (h : args.length = 1) : tx11.run (k + 1) hot 1 args H = (dc_is_stretch (tx11.run k) hot (rho0 args 1) H).done := run_of h (by kernel_rfl)
theorem r11_meets (k : Nat) (hot : Bool) (args : List AV) (H : AH) (h : args.length = 2) : tx11.run (k + 1) hot 2 args H = (dc_meets (tx11.run k) hot (rho0 args 2) H).done := run_of h (by kernel_rfl)
theorem r11_day_of (k : Nat) (hot : Bool) (args : List AV) (H : AH) (h : args.length = 1) : tx11.run (k + 1) hot 3 args H = (dc_day_of (tx11.run k) hot (rho0 args 1) H).done := run_of h (by kernel_rfl)
theorem r11_in_one_day (k : Nat) (hot : Bool) (args : List AV) (H : AH) (h : args.length = 1) : tx11.run (k + 1) hot 4 args H = (dc_in_one_day (tx11.run k) hot (rho0 args 1) H).done := run_of h (by kernel_rfl)
theorem r11_is_name (k : Nat) (hot : Bool) (args : List AV) (H : AH) (h : args.length = 1) : tx11.run (k + 1) hot 5 args H = (dc_is_name (tx11.run k) hot (rho0 args 2) H).done := run_of h (by kernel_rfl)
theorem r11_checked_skills (k : Nat) (hot : Bool) (args : List AV) (H : AH) (h : args.length = 1) : tx11.run (k + 1) hot 6 args H = (dc_checked_skills (tx11.run k) hot (rho0 args 3) H).done := run_of h (by kernel_rfl)
theorem r11_checked_needs (k : Nat) (hot : Bool) (args : List AV) (H : AH) (h : args.length = 1) : tx11.run (k + 1) hot 7 args H = (dc_checked_needs (tx11.run k) hot (rho0 args 5) H).done := run_of h (by kernel_rfl)
theorem r11_l_cell (k : Nat) (hot : Bool) (args : List AV) (H : AH) (h : args.length = 2) : tx11.run (k + 1) hot 8 args H = (dc_l_cell (tx11.run k) hot (rho0 args 2) H).done := run_of h (by kernel_rfl)
theorem r11_l_sign (k : Nat) (hot : Bool) (args : List AV) (H : AH) (h : args.length = 1) : tx11.run (k + 1) hot 9 args H = (dc_l_sign (tx11.run k) hot (rho0 args 3) H).done := run_of h (by kernel_rfl)
theorem r11_Person_init (k : Nat) (hot : Bool) (args : List AV) (H : AH) (h : args.length = 3) : tx11.run (k + 1) hot 10 args H = (dc_Person_init (tx11.run k) hot (rho0 args 3) H).done := run_of h (by kernel_rfl)
theorem r11_Shift_init (k : Nat) (hot : Bool) (args : List AV) (H : AH) (h : args.length = 3) : tx11.run (k + 1) hot 11 args H = (dc_Shift_init (tx11.run k) hot (rho0 args 3) H).done := run_of h (by kernel_rfl)
theorem r11_Book_init (k : Nat) (hot : Bool) (args : List AV) (H : AH) (h : args.length = 1) : tx11.run (k + 1) hot 12 args H = (dc_Book_init (tx11.run k) hot (rho0 args 1) H).done := run_of h (by kernel_rfl)
theorem r11_Book_add_person (k : Nat) (hot : Bool) (args : List AV) (H : AH) (h : args.length = 4) : tx11.run (k + 1) hot 13 args H = (dc_Book_add_person (tx11.run k) hot (rho0 args 5) H).done := run_of h (by kernel_rfl)
theorem r11_Book_add_rest (k : Nat) (hot : Bool) (args : List AV) (H : AH) (h : args.length = 3) : tx11.run (k + 1) hot 14 args H = (dc_Book_add_rest (tx11.run k) hot (rho0 args 4) H).done := run_of h (by kernel_rfl)
theorem r11_Book_add_shift (k : Nat) (hot : Bool) (args : List AV) (H : AH) (h : args.length = 4) : tx11.run (k + 1) hot 15 args H = (dc_Book_add_shift (tx11.run k) hot (rho0 args 5) H).done := run_of h (by kernel_rfl)
theorem r11_Book_person (k : Nat) (hot : Bool) (args : List AV) (H : AH) (h : args.length = 2) : tx11.run (k + 1) hot 16 args H = (dc_Book_person (tx11.run k) hot (rho0 args 2) H).done := run_of h (by kernel_rfl)
theorem r11_Book_shift (k : Nat) (hot : Bool) (args : List AV) (H : AH) (h : args.length = 2) : tx11.run (k + 1) hot 17 args H = (dc_Book_shift (tx11.run k) hot (rho0 args 2) H).done := run_of h (by kernel_rfl)
theorem r11_Book_people (k : Nat) (hot : Bool) (args : List AV) (H : AH) (h : args.length = 1) : tx11.run (k + 1) hot 18 args H = (dc_Book_people (tx11.run k) hot (rho0 args 1) H).done := run_of h (by kernel_rfl)
theorem r11_Book_posts (k : Nat) (hot : Bool) (args : List AV) (H : AH) (h : args.length = 1) : tx11.run (k + 1) hot 20 args H = (dc_Book_posts (tx11.run k) hot (rho0 args 5) H).done := run_of h (by kernel_rfl)
theorem r11_Book_limit_of (k : Nat) (hot : Bool) (args : List AV) (H : AH) (h : args.length = 2) : tx11.run (k + 1) hot 23 args H = (dc_Book_limit_of (tx11.run k) hot (rho0 args 2) H).done := run_of h (by kernel_rfl)
theorem r11_Book_stretch_of (k : Nat) (hot : Bool) (args : List AV) (H : AH) (h : args.length = 2) : tx11.run (k + 1) hot 24 args H = (dc_Book_stretch_of (tx11.run k) hot (rho0 args 2) H).done := run_of h (by kernel_rfl)
theorem r11_Book_count_of (k : Nat) (hot : Bool) (args : List AV) (H : AH) (h : args.length = 3) : tx11.run (k + 1) hot 25 args H = (dc_Book_count_of (tx11.run k) hot (rho0 args 5) H).done := run_of h (by kernel_rfl)
theorem r11_Book_may (k : Nat) (hot : Bool) (args : List AV) (H : AH) (h : args.length = 4) : tx11.run (k + 1) hot 26 args H = (dc_Book_may (tx11.run k) hot (rho0 args 6) H).done := run_of h (by kernel_rfl)
theorem r11_day_at (k : Nat) (hot : Bool) (args : List AV) (H : AH) (h : args.length = 2) : tx11.run (k + 1) hot 27 args H = (dc_day_at (tx11.run k) hot (rho0 args 2) H).done := run_of h (by kernel_rfl)
theorem r11_Deal_init (k : Nat) (hot : Bool) (args : List AV) (H : AH) (h : args.length = 2) : tx11.run (k + 1) hot 28 args H = (dc_Deal_init (tx11.run k) hot (rho0 args 5) H).done := run_of h (by kernel_rfl)
theorem r11_Deal_left_by (k : Nat) (hot : Bool) (args : List AV) (H : AH) (h : args.length = 3) : tx11.run (k + 1) hot 29 args H = (dc_Deal_left_by (tx11.run k) hot (rho0 args 5) H).done := run_of h (by kernel_rfl)
theorem r11_Deal_sought (k : Nat) (hot : Bool) (args : List AV) (H : AH) (h : args.length = 2) : tx11.run (k + 1) hot 30 args H = (dc_Deal_sought (tx11.run k) hot (rho0 args 9) H).done := run_of h (by kernel_rfl)
theorem r11_Deal_done (k : Nat) (hot : Bool) (args : List AV) (H : AH) (h : args.length = 4) : tx11.run (k + 1) hot 31 args H = (dc_Deal_done (tx11.run k) hot (rho0 args 6) H).done := run_of h (by kernel_rfl)
theorem r11_Deal_shift_on (k : Nat) (hot : Bool) (args : List AV) (H : AH) (h : args.length = 4) : tx11.run (k + 1) hot 32 args H = (dc_Deal_shift_on (tx11.run k) hot (rho0 args 5) H).done := run_of h (by kernel_rfl)
theorem r11_dealt (k : Nat) (hot : Bool) (args : List AV) (H : AH) (h : args.length = 1) : tx11.run (k + 1) hot 33 args H = (dc_dealt (tx11.run k) hot (rho0 args 9) H).done := run_of h (by kernel_rfl)
noncomputable def d11_l_name_by (Φ : Bool → FT) (hot : Bool) : DS := (seqS [assignS hot (.one 2) (compE hot false (callE (Φ hot) 9 [(binE false .Add (binE false .FloorDiv (varE 1) (cstE (.int 20))) (binE false .Mult (binE false .Mult (cstE (.int 5)) (varE 3)) (binE false .Mod (varE 1) (cstE (.int 7)))))]) (biE hot .range [(binE false .Mod (varE 1) (cstE (.int 20)))]) (cstE (.bool true))), retS (binE false .Add (mbE .join (cstE (.str "")) [(varE 2)]) (callE (Φ hot) 9 [(varE 0)]))])
theorem r11_l_name_by (k : Nat) (hot : Bool) (args : List AV) (H : AH) (h : args.length = 2) : tx11.run (k + 1) hot 35 args H = (d11_l_name_by (tx11.run k) hot (rho0 args 3) H).done := run_of h (by kernel_rfl)
noncomputable def d11_l_may (Φ : Bool → FT) (hot : Bool) : DS := (seqS [forS hot (.one 3) (subE (varE 0) (cstE (.int 3))) (seqS [ifS (cmpE (biE hot .max [(subE (varE 3) (cstE (.int 0))), (subE (subE (varE 1) (cstE (.int 1))) (cstE (.int 0)))]) [.Lt] [(biE hot .min [(subE (varE 3) (cstE (.int 1))), (subE (subE (varE 1) (cstE (.int 1))) (cstE (.int 1)))])]) (seqS [retS (cstE (.bool false))]) (seqS [])]), retS (cmpE (varE 2) [.In] [(subE (varE 0) (cstE (.int 1)))])])
theorem r11_l_may (k : Nat) (hot : Bool) (args : List AV) (H : AH) (h : args.length = 3) : tx11.run (k + 1) hot 44 args H = (d11_l_may (tx11.run k) hot (rho0 args 4) H).done := run_of h (by kernel_rfl)
noncomputable def d11_l_small_parts_b1 (Φ : Bool → FT) (hot : Bool) : DS := (seqS [assignS hot (.one 5) (callE (Φ hot) 8 [(varE 0), (binE false .Add (cstE (.int 5)) (varE 4))]), assignS hot (.one 9) (binE false .Add (binE false .Mult (cstE (.int 24)) (binE false .Mod (varE 5) (cstE (.int 2)))) (binE false .Mult (cstE (.int 4)) (binE false .Mod (binE false .FloorDiv (varE 5) (cstE (.int 2))) (cstE (.int 4))))), assignS hot (.one 10) (lstE false [(tupE [(subE (varE 2) (cstE (.int 0))), (cstE (.int 1))]), (tupE [(subE (varE 2) (cstE (.int 1))), (cstE (.int 1))])]), assignS hot (.one 11) (subE (lstE false [(lstE false [(tupE [(subE (varE 2) (cstE (.int 0))), (cstE (.int 1))])]), (lstE false [(tupE [(subE (varE 2) (cstE (.int 1))), (cstE (.int 2))])]), (varE 10), (lstE false [(subE (varE 10) (cstE (.int 1))), (subE (varE 10) (cstE (.int 0)))]), (lstE false [(tupE [(subE (varE 2) (cstE (.int 0))), (cstE (.int 2))])]), (varE 10)]) (binE false .Mod (binE false .FloorDiv (varE 5) (cstE (.int 8))) (cstE (.int 6)))), exprS (mbE .append (varE 8) [(tupE [(callE (Φ hot) 35 [(binE false .Add (cstE (.int 40)) (varE 4)), (varE 5)]), (tupE [(varE 9), (binE false .Add (varE 9) (cstE (.int 12)))]), (varE 11)])])])
noncomputable def d11_l_small_parts_b2 (Φ : Bool → FT) (hot : Bool) : DS := (seqS [assignS hot (.one 5) (callE (Φ hot) 8 [(varE 0), (binE false .Add (cstE (.int 1)) (varE 4))]), assignS hot (.one 6) (subE (lstE false [(lstE false [(subE (varE 2) (cstE (.int 0))), (subE (varE 2) (cstE (.int 1)))]), (lstE false [(subE (varE 2) (cstE (.int 0)))]), (lstE false [(subE (varE 2) (cstE (.int 1)))]), (lstE false [(subE (varE 2) (cstE (.int 1))), (subE (varE 2) (cstE (.int 0)))])]) (binE false .Mod (varE 5) (cstE (.int 4)))), assignS hot (.one 7) (subE (lstE false [(lstE false []), (lstE false []), (lstE false [(tupE [(cstE (.int 6)), (cstE (.int 7))])]), (lstE false [(tupE [(cstE (.int 20)), (cstE (.int 30))])]), (lstE false [(tupE [(cstE (.int 40)), (cstE (.int 41))])])]) (binE false .Mod (binE false .FloorDiv (varE 5) (cstE (.int 8))) (cstE (.int 5)))), exprS (mbE .append (varE 3) [(tupE [(callE (Φ hot) 35 [(varE 4), (varE 5)]), (varE 6), (binE false .Add (cstE (.int 1)) (binE false .Mod (binE false .FloorDiv (varE 5) (cstE (.int 4))) (cstE (.int 2)))), (varE 7)])])])
noncomputable def d11_l_small_parts (Φ : Bool → FT) (hot : Bool) : DS := (seqS [assignS hot (.one 1) (callE (Φ hot) 8 [(varE 0), (cstE (.int 0))]), assignS hot (.one 2) (lstE false [(callE (Φ hot) 35 [(cstE (.int 90)), (varE 1)]), (callE (Φ hot) 35 [(cstE (.int 91)), (binE false .FloorDiv (varE 1) (cstE (.int 3)))])]), assignS hot (.one 3) (lstE true []), forS hot (.one 4) (biE hot .range [(subE (lstE false [(cstE (.int 2)), (cstE (.int 3)), (cstE (.int 1)), (cstE (.int 2)), (cstE (.int 3)), (cstE (.int 0))]) (binE false .Mod (varE 1) (cstE (.int 6))))]) (d11_l_small_parts_b2 Φ hot), assignS hot (.one 8) (lstE true []), forS hot (.one 4) (biE hot .range [(binE false .Mod (binE false .FloorDiv (varE 1) (cstE (.int 6))) (cstE (.int 3)))]) (d11_l_small_parts_b1 Φ hot), retS (tupE [(varE 3), (varE 8)])])
theorem r11_l_small_parts (k : Nat) (hot : Bool) (args : List AV) (H : AH) (h : args.length = 1) : tx11.run (k + 1) hot 49 args H = (d11_l_small_parts (tx11.run k) hot (rho0 args 12) H).done := run_of h (by kernel_rfl)
noncomputable def d11_l_ways_b1 (Φ : Bool → FT) (hot : Bool) : DS := (seqS [assignS hot (.one 7) (compE hot false (binE false .FloorDiv (subE (subE (varE 8) (cstE (.int 1))) (cstE (.int 0))) (cstE (.int 24))) (callE (Φ hot) 51 [(varE 5), (varE 6)]) (cstE (.bool true))), ifS (bopE true [(callE (Φ hot) 44 [(varE 6), (subE (varE 3) (cstE (.int 0))), (subE (varE 3) (cstE (.int 1)))]), (cmpE (binE false .FloorDiv (subE (subE (subE (varE 3) (cstE (.int 0))) (cstE (.int 1))) (cstE (.int 0))) (cstE (.int 24))) [.NotIn] [(varE 7)]), (cmpE (biE hot .len [(varE 7)]) [.Lt] [(subE (varE 6) (cstE (.int 2)))])]) (seqS [exprS (mbE .append (varE 4) [(binE false .Add (varE 5) (lstE false [(tupE [(subE (varE 3) (cstE (.int 0))), (varE 6)])]))])]) (seqS [])])
noncomputable def d11_l_ways_b2 (Φ : Bool → FT) (hot : Bool) : DS := (seqS [assignS hot (.one 4) (lstE true []), forS hot (.one 5) (varE 2) (seqS [forS hot (.one 6) (varE 1) (d11_l_ways_b1 Φ hot)]), assignS hot (.one 2) (varE 4)])
noncomputable def d11_l_ways (Φ : Bool → FT) (hot : Bool) : DS := (seqS [assignS hot (.one 2) (lstE false [(lstE false [])]), forS hot (.one 3) (varE 0) (d11_l_ways_b2 Φ hot), retS (varE 2)])
theorem r11_l_ways (k : Nat) (hot : Bool) (args : List AV) (H : AH) (h : args.length = 2) : tx11.run (k + 1) hot 50 args H = (d11_l_ways (tx11.run k) hot (rho0 args 8) H).done := run_of h (by kernel_rfl)
noncomputable def d11_l_held (Φ : Bool → FT) (hot : Bool) : DS := (seqS [retS (compE hot false (subE (varE 2) (cstE (.int 0))) (varE 0) (cmpE (subE (subE (varE 2) (cstE (.int 1))) (cstE (.int 0))) [.Eq] [(subE (varE 1) (cstE (.int 0)))]))])
theorem r11_l_held (k : Nat) (hot : Bool) (args : List AV) (H : AH) (h : args.length = 2) : tx11.run (k + 1) hot 51 args H = (d11_l_held (tx11.run k) hot (rho0 args 2) H).done := run_of h (by kernel_rfl)
noncomputable def d11_law_b1 (Φ : Bool → FT) (hot : Bool) : DS := (seqS [exprS (moE gmC (Φ hot) 3 (varE 2) [(subE (varE 6) (cstE (.int 0))), (subE (varE 6) (cstE (.int 1))), (biE hot (.list false) [(subE (varE 6) (cstE (.int 2)))])]), forS hot (.one 7) (subE (varE 6) (cstE (.int 2))) (seqS [assignS hot (.one 5) (binE false .Add (varE 5) (binE false .Mult (lstE false [(tupE [(varE 6), (subE (varE 7) (cstE (.int 0)))])]) (subE (varE 7) (cstE (.int 1)))))])])
noncomputable def d11_law_b2 (Φ : Bool → FT) (hot : Bool) : DS := (seqS [exprS (moE gmC (Φ hot) 1 (varE 2) [(subE (varE 3) (cstE (.int 0))), (biE hot (.list false) [(subE (varE 3) (cstE (.int 1)))]), (subE (varE 3) (cstE (.int 2)))]), forS hot (.one 4) (subE (varE 3) (cstE (.int 3))) (seqS [exprS (moE gmC (Φ hot) 2 (varE 2) [(subE (varE 3) (cstE (.int 0))), (varE 4)])])])
noncomputable def d11_law (Φ : Bool → FT) (hot : Bool) : DS := (seqS [assignS hot (.one 1) (callE (Φ hot) 49 [(varE 0)]), assignS hot (.one 2) (newE gmC (Φ hot) 2 []), forS hot (.one 3) (subE (varE 1) (cstE (.int 0))) (d11_law_b2 Φ hot), assignS hot (.one 5) (lstE false []), forS hot (.one 6) (subE (varE 1) (cstE (.int 1))) (d11_law_b1 Φ hot), assignS hot (.one 8) (callE (Φ hot) 33 [(varE 2)]), ifS (bopE false [(ntE (isiE gmC (varE 8) [.tup])), (cmpE (biE hot .len [(varE 8)]) [.NotEq] [(cstE (.int 2))]), (ntE (isiE gmC (subE (varE 8) (cstE (.int 1))) [.lst]))]) (seqS [retS (cstE (.bool false))]) (seqS []), ifS (cmpE (callE (Φ hot) 50 [(varE 5), (subE (varE 1) (cstE (.int 0)))]) [.NotEq] [(lstE false [])]) (seqS [retS (bopE true [(cmpE (subE (varE 8) (cstE (.int 0))) [.Eq] [(cstE (.str "rota"))]), (cmpE (biE hot .len [(subE (varE 8) (cstE (.int 1)))]) [.Eq] [(biE hot .len [(varE 5)])])])]) (seqS []), retS (bopE true [(cmpE (subE (varE 8) (cstE (.int 0))) [.Eq] [(cstE (.str "short"))]), (cmpE (biE hot .len [(subE (varE 8) (cstE (.int 1)))]) [.Gt] [(cstE (.int 0))])])])
theorem r11_law (k : Nat) (hot : Bool) (args : List AV) (H : AH) (h : args.length = 1) : tx11.run (k + 1) hot 52 args H = (d11_law (tx11.run k) hot (rho0 args 9) H).done := run_of h (by kernel_rfl)
structure Law11 (R : Nat → Bool → FT) : Prop where
  bk : BookR R
  my : MayR R
  rd : ReadR R
  dl : DealR R
  name_by : ∀ k hot args H, args.length = 2 → R (k + 1) hot 35 args H = (d11_l_name_by (R k) hot (rho0 args 3) H).done
  l_may : ∀ k hot args H, args.length = 3 → R (k + 1) hot 44 args H = (d11_l_may (R k) hot (rho0 args 4) H).done
  parts : ∀ k hot args H, args.length = 1 → R (k + 1) hot 49 args H = (d11_l_small_parts (R k) hot (rho0 args 12) H).done
  ways : ∀ k hot args H, args.length = 2 → R (k + 1) hot 50 args H = (d11_l_ways (R k) hot (rho0 args 8) H).done
  held : ∀ k hot args H, args.length = 2 → R (k + 1) hot 51 args H = (d11_l_held (R k) hot (rho0 args 2) H).done
  law : ∀ k hot args H, args.length = 1 → R (k + 1) hot 52 args H = (d11_law (R k) hot (rho0 args 9) H).done
noncomputable def pV (p : Pm) : AV := .tup [.str p.name, .lst (p.skills.map .str), .int p.limit, .lst (p.rests.map stAV)]
structure PmS (p : Pm) (i : Nat) : Prop where
  ok : PmOK p
  lim : p.limit ≤ 2
  nm : ∃ c, p.name = nm i c
structure SmS (s : Sm) (i : Nat) : Prop where
  ok : SmOK s
  few : s.needs.length ≤ 2
  cnt : ∀ n ∈ s.needs, n.2 ≤ 2
  nm : ∃ c, s.name = nm (40 + i) c
section
variable {R : Nat → Bool → FT} {k : Nat} {H : AH} {PG : OutS → Prop} {xs : List Int}
theorem name11 (W : Law11 R) {p c : Int} : R (k + 2) false 35 [.int p, .int c] H = .ok (.str (nm p c)) H := by
  rw [W.name_by _ _ _ _ rfl]
  have hl := tl_len c
  have hs : 1000 ≤ sizeLine := by decide
  suffices q : d11_l_name_by (R (k + 1)) false (rho0 [.int p, .int c] 3) H = .ret (.str (nm p c)) H by rw [q]; rfl
  refine s_asg (a := .lst ((tlL c).map one)) (H₁ := H) (tail_comp W.bk rfl rfl) ?_
  rw [← nm_app]
  refine s_ret (e_bin (e_join (by lia) rfl (l_one rfl)) (e_call (l_one rfl) (sign_run W.bk)) (addS ?_))
  show (tlL c).toArray.size + 1 ≤ _
  simp; lia
theorem pick6 {a b c d e f : AV} {i : Int} {P : AV → Prop} (h1 : P a) (h2 : P b) (h3 : P c) (h4 : P d) (h5 : P e) (h6 : P f) : ∃ v, subA (.lst [a, b, c, d, e, f]) (.int (i % 6)) H = .ok v H ∧ P v := by
  have : i % 6 = 0 ∨ i % 6 = 1 ∨ i % 6 = 2 ∨ i % 6 = 3 ∨ i % 6 = 4 ∨ i % 6 = 5 := by lia
  rcases this with h | h | h | h | h | h <;> rw [h]
  · exact ⟨a, rfl, h1⟩
  · exact ⟨b, rfl, h2⟩
  · exact ⟨c, rfl, h3⟩
  · exact ⟨d, rfl, h4⟩
  · exact ⟨e, rfl, h5⟩
  · exact ⟨f, rfl, h6⟩
theorem pick5 {a b c d e : AV} {i : Int} {P : AV → Prop} (h1 : P a) (h2 : P b) (h3 : P c) (h4 : P d) (h5 : P e) : ∃ v, subA (.lst [a, b, c, d, e]) (.int (i % 5)) H = .ok v H ∧ P v := by
  have : i % 5 = 0 ∨ i % 5 = 1 ∨ i % 5 = 2 ∨ i % 5 = 3 ∨ i % 5 = 4 := by lia
  rcases this with h | h | h | h | h <;> rw [h]
  · exact ⟨a, rfl, h1⟩
  · exact ⟨b, rfl, h2⟩
  · exact ⟨c, rfl, h3⟩
  · exact ⟨d, rfl, h4⟩
  · exact ⟨e, rfl, h5⟩
theorem pick4' {a b c d : AV} {i : Int} {P : AV → Prop} (h1 : P a) (h2 : P b) (h3 : P c) (h4 : P d) : ∃ v, subA (.lst [a, b, c, d]) (.int (i % 4)) H = .ok v H ∧ P v := by
  have : i % 4 = 0 ∨ i % 4 = 1 ∨ i % 4 = 2 ∨ i % 4 = 3 := by lia
  rcases this with h | h | h | h <;> rw [h]
  · exact ⟨a, rfl, h1⟩
  · exact ⟨b, rfl, h2⟩
  · exact ⟨c, rfl, h3⟩
  · exact ⟨d, rfl, h4⟩
noncomputable def OwnV (v : AV) : Prop := ∃ l : List Str, v = .lst (l.map .str) ∧ SkillsOK l
noncomputable def RestV (v : AV) : Prop := ∃ l : List (Int × Int), v = .lst (l.map stAV) ∧ (∀ r ∈ l, stOK r = true) ∧ l.length ≤ 3
noncomputable def NeedV (v : AV) : Prop := ∃ l : List (Str × Int), v = .lst (l.map needAV) ∧ NeedsOK l ∧ l.length ≤ 2 ∧ ∀ n ∈ l, n.2 ≤ 2
theorem own_one {a : Str} (ha : nameOK a = true) : OwnV (.lst [.str a]) := ⟨[a], rfl, fun x hx => by rw [List.mem_singleton.mp hx]; exact ha, List.pairwise_singleton _ _, by simp⟩
theorem own_two {a b : Str} (ha : nameOK a = true) (hb : nameOK b = true) (hne : a ≠ b) : OwnV (.lst [.str a, .str b]) := ⟨[a, b], rfl, fun x hx => by
  rcases List.mem_cons.mp hx with rfl | hx
  · exact ha
  · rw [List.mem_singleton.mp hx]; exact hb, List.nodup_cons.mpr ⟨fun q => hne (List.mem_singleton.mp q), List.pairwise_singleton _ _⟩, by simp⟩
theorem need_one {a : Str} {n : Int} (ha : nameOK a = true) (h1 : 1 ≤ n) (h2 : n ≤ 2) : NeedV (.lst [.tup [.str a, .int n]]) := ⟨[(a, n)], rfl, ⟨fun x hx => by rw [List.mem_singleton.mp hx]; exact ha, List.pairwise_singleton _ _, fun x hx => by rw [List.mem_singleton.mp hx]; exact ⟨h1, by show n ≤ 9; lia⟩, by simp⟩, by simp, fun x hx => by rw [List.mem_singleton.mp hx]; exact h2⟩
theorem need_two {a b : Str} (ha : nameOK a = true) (hb : nameOK b = true) (hne : a ≠ b) : NeedV (.lst [.tup [.str a, .int 1], .tup [.str b, .int 1]]) := by
  have m : ∀ {P : Str × Int → Prop}, P (a, 1) → P (b, 1) → ∀ x ∈ [(a, (1 : Int)), (b, 1)], P x := fun {P} h1 h2 x hx => by
    rcases List.mem_cons.mp hx with rfl | hx
    · exact h1
    · rw [List.mem_singleton.mp hx]; exact h2
  exact ⟨[(a, 1), (b, 1)], rfl, ⟨m ha hb, List.nodup_cons.mpr ⟨fun q => hne (List.mem_singleton.mp q), List.pairwise_singleton _ _⟩, m (show (1 : Int) ≤ 1 ∧ (1 : Int) ≤ 9 by decide) (show (1 : Int) ≤ 1 ∧ (1 : Int) ≤ 9 by decide), by simp⟩, by simp, m (show (1 : Int) ≤ 2 by decide) (show (1 : Int) ≤ 2 by decide)⟩
theorem rest_one {r : Int × Int} (h : stOK r = true) : RestV (.lst [stAV r]) := ⟨[r], rfl, fun x hx => by rw [List.mem_singleton.mp hx]; exact h, by simp⟩
theorem rest_nil : RestV (.lst []) := ⟨[], rfl, fun x hx => absurd hx List.not_mem_nil, by simp⟩
theorem parts1_P (W : Law11 R) (hx : xs.length ≤ 63) {f : Int} {a b : Str} (ha : nameOK a = true) (hb : nameOK b = true) (hne : a ≠ b) {r : List DS} {a8 a9 a10 a11 : Option AV}
    (fin : ∀ (ps : List Pm) (a4 a5 a6 a7 : Option AV), (∀ i p, ps[i]? = some p → PmS p i) → ps.length ≤ 3 → PG (seqS r [some (.lst (xs.map .int)), some (.int f), some (.lst [.str a, .str b]), some (.ref H.length), a4, a5, a6, a7, a8, a9, a10, a11] (H ++ [.lst (ps.map pV)]))) :
    PG (seqS (forS false (.one 4) (biE false .range [(subE (lstE false [(cstE (.int 2)), (cstE (.int 3)), (cstE (.int 1)), (cstE (.int 2)), (cstE (.int 3)), (cstE (.int 0))]) (binE false .Mod (varE 1) (cstE (.int 6))))]) (d11_l_small_parts_b2 (R (k + 2)) false) :: r) [some (.lst (xs.map .int)), some (.int f), some (.lst [.str a, .str b]), some (.ref H.length), none, none, none, none, a8, a9, a10, a11] (H ++ [.lst []])) := by
  obtain ⟨v, hv, n, rfl, hn⟩ := pick6 (H := H ++ [.lst []]) (i := f) (P := fun v => ∃ n : Nat, v = .int n ∧ n ≤ 3) (a := .int 2) (b := .int 3) (c := .int 1) (d := .int 2) (e := .int 3) (f := .int 0) ⟨2, rfl, by decide⟩ ⟨3, rfl, by decide⟩ ⟨1, rfl, by decide⟩ ⟨2, rfl, by decide⟩ ⟨3, rfl, by decide⟩ ⟨0, rfl, by decide⟩
  refine p_for (a := .rng 0 n) (H₁ := H ++ [.lst []]) (xs := span 0 n) (e_bi (l_one (e_sub rfl (e_bin rfl rfl (mod_ok (by decide))) hv)) rfl) (range_src (by lia) (by lia)) (by rw [span_len, Int.sub_zero])
    (fun j ρ H' => Ex5 fun (ps : List Pm) (a4 a5 a6 a7 : Option AV) => A4 (∀ i p, ps[i]? = some p → PmS p i) (ps.length = j) (H' = H ++ [.lst (ps.map pV)]) (ρ = [some (.lst (xs.map .int)), some (.int f), some (.lst [.str a, .str b]), some (.ref H.length), a4, a5, a6, a7, a8, a9, a10, a11])) ⟨[], _, _, _, _, (fun i p q => nomatch q), rfl, rfl, rfl⟩ ?_ ?_
  · rintro J j v ρ H' hv ⟨ps, a4, a5, a6, a7, hps, hl, rfl, rfl⟩ hJ
    obtain ⟨hd, X, hX, rfl⟩ := span_get hv
    show Nx _ _ ((_ : DS) [some (.lst (xs.map .int)), some (.int f), some (.lst [.str a, .str b]), some (.ref H.length), some (.int X), a5, a6, a7, a8, a9, a10, a11] _)
    refine p_asg (a := .int (cell xs (1 + X))) (H₁ := H ++ [.lst (ps.map pV)]) (e_call (l_two rfl (e_bin rfl rfl addI)) (cell_run W.bk (by lia) (by lia) hx)) ?_
    generalize cell xs (1 + X) = c
    obtain ⟨v6, h6, o, rfl, ho⟩ := pick4' (H := H ++ [.lst (ps.map pV)]) (i := c) (own_two ha hb hne) (own_one ha) (own_one hb) (own_two hb ha (Ne.symm hne))
    refine p_asg (e_sub rfl (e_bin rfl rfl (mod_ok (by decide))) h6) ?_
    obtain ⟨v7, h7, rs, rfl, hr1, hr2⟩ := pick5 (H := H ++ [.lst (ps.map pV)]) (i := c / 8) rest_nil rest_nil (rest_one (r := (6, 7)) (by decide)) (rest_one (r := (20, 30)) (by decide)) (rest_one (r := (40, 41)) (by decide))
    refine p_asg (e_sub rfl (e_bin (e_bin rfl rfl (div_ok (by decide))) rfl (mod_ok (by decide))) h7) ?_
    refine p_expr (e_append rfl get_last (l_one (e_tup (l_cons (e_call (l_two rfl rfl) (name11 (k := k) W)) (l_three rfl (e_bin rfl (e_bin (e_bin rfl rfl (div_ok (by decide))) rfl (mod_ok (by decide))) addI) rfl)) (by simp))) get_last (by rw [List.length_map]; lia)) (nx_next (hJ _ _ ⟨ps ++ [⟨nm X c, o, 1 + c / 4 % 2, rs⟩], _, _, _, _, fun i p hp => ?_, by rw [List.length_append, hl]; rfl, ?_, rfl⟩))
    · by_cases q : i < ps.length
      · rw [List.getElem?_append_left q] at hp
        exact hps i p hp
      · rw [List.getElem?_append_right (by lia)] at hp
        have hi : i = ps.length := by
          have := (List.getElem?_eq_some_iff.mp hp).1
          simp at this; lia
        subst hi
        rw [Nat.sub_self] at hp
        cases hp
        refine ⟨⟨nm_ok _ _, ho, ?_, hr1, hr2⟩, ?_, c, ?_⟩
        · show 1 ≤ 1 + c / 4 % 2 ∧ 1 + c / 4 % 2 ≤ 31
          lia
        · show 1 + c / 4 % 2 ≤ 2
          lia
        · show nm X c = _
          rw [hX, hl]
    · rw [List.set_append_right _ _ (Nat.le_refl _), Nat.sub_self, List.map_append]; rfl
  · rintro ρ H' ⟨ps, a4, a5, a6, a7, hps, hl, rfl, rfl⟩
    rw [span_len, Int.sub_zero, Int.toNat_natCast] at hl
    exact fin ps a4 a5 a6 a7 hps (by lia)
theorem parts2_P (W : Law11 R) (hx : xs.length ≤ 63) {f : Int} {a b : Str} (ha : nameOK a = true) (hb : nameOK b = true) (hne : a ≠ b) {m : Nat} {r : List DS} {a4 a5 a6 a7 a9 a10 a11 : Option AV}
    (fin : ∀ (ss : List Sm) (a4 a5 a9 a10 a11 : Option AV), (∀ i s, ss[i]? = some s → SmS s i) → ss.length ≤ 2 → PG (seqS r [some (.lst (xs.map .int)), some (.int f), some (.lst [.str a, .str b]), some (.ref m), a4, a5, a6, a7, some (.ref H.length), a9, a10, a11] (H ++ [.lst (ss.map SV)]))) :
    PG (seqS (forS false (.one 4) (biE false .range [(binE false .Mod (binE false .FloorDiv (varE 1) (cstE (.int 6))) (cstE (.int 3)))]) (d11_l_small_parts_b1 (R (k + 2)) false) :: r) [some (.lst (xs.map .int)), some (.int f), some (.lst [.str a, .str b]), some (.ref m), a4, a5, a6, a7, some (.ref H.length), a9, a10, a11] (H ++ [.lst []])) := by
  obtain ⟨n, hn⟩ : ∃ n : Nat, f / 6 % 3 = n := ⟨(f / 6 % 3).toNat, by lia⟩
  refine p_for (a := .rng 0 n) (H₁ := H ++ [.lst []]) (xs := span 0 n) (e_bi (l_one (a := .int n) (by rw [← hn]; exact e_bin (e_bin rfl rfl (div_ok (by decide))) rfl (mod_ok (by decide)))) rfl) (range_src (by lia) (by lia)) (by rw [span_len, Int.sub_zero])
    (fun j ρ H' => Ex6 fun (ss : List Sm) (a4 a5 a9 a10 a11 : Option AV) => A4 (∀ i s, ss[i]? = some s → SmS s i) (ss.length = j) (H' = H ++ [.lst (ss.map SV)]) (ρ = [some (.lst (xs.map .int)), some (.int f), some (.lst [.str a, .str b]), some (.ref m), a4, a5, a6, a7, some (.ref H.length), a9, a10, a11])) ⟨[], _, _, _, _, _, (fun i p q => nomatch q), rfl, rfl, rfl⟩ ?_ ?_
  · rintro J j v ρ H' hv ⟨ss, a4, a5, a9, a10, a11, hss, hl, rfl, rfl⟩ hJ
    obtain ⟨hd, X, hX, rfl⟩ := span_get hv
    show Nx _ _ ((_ : DS) [some (.lst (xs.map .int)), some (.int f), some (.lst [.str a, .str b]), some (.ref m), some (.int X), a5, a6, a7, some (.ref H.length), a9, a10, a11] _)
    refine p_asg (a := .int (cell xs (5 + X))) (H₁ := H ++ [.lst (ss.map SV)]) (e_call (l_two rfl (e_bin rfl rfl addI)) (cell_run W.bk (by lia) (by lia) hx)) ?_
    generalize cell xs (5 + X) = c
    obtain ⟨B, hB⟩ : ∃ B : Int, 24 * (c % 2) + 4 * (c / 2 % 4) = B := ⟨_, rfl⟩
    refine p_asg (a := .int B) (H₁ := H ++ [.lst (ss.map SV)]) (by rw [← hB]; exact e_bin (e_bin rfl (e_bin rfl rfl (mod_ok (by decide))) (mulI (.inl (by decide)))) (e_bin rfl (e_bin (e_bin rfl rfl (div_ok (by decide))) rfl (mod_ok (by decide))) (mulI (.inl (by decide)))) addI) ?_
    have hB' : (0 ≤ B ∧ B ≤ 12) ∨ (24 ≤ B ∧ B ≤ 36) := by lia
    clear hB
    refine p_asg (e_lst (l_two (e_tup (l_two (e_sub rfl rfl rfl) rfl) (by simp)) (e_tup (l_two (e_sub rfl rfl rfl) rfl) (by simp))) (by simp) rfl) ?_
    obtain ⟨v11, h11, ns, rfl, hns, hn1, hn2⟩ := pick6 (H := H ++ [.lst (ss.map SV)]) (i := c / 8) (need_one ha (by decide) (by decide) : NeedV (.lst [.tup [.str a, .int 1]])) (need_one hb (by decide) (by decide) : NeedV (.lst [.tup [.str b, .int 2]])) (need_two ha hb hne) (need_two hb ha (Ne.symm hne)) (need_one ha (by decide) (by decide) : NeedV (.lst [.tup [.str a, .int 2]])) (need_two ha hb hne)
    refine p_asg (e_sub (e_lst (l_cons (e_lst (l_one (e_tup (l_two (e_sub rfl rfl rfl) rfl) (by simp))) (by simp) rfl) (l_cons (e_lst (l_one (e_tup (l_two (e_sub rfl rfl rfl) rfl) (by simp))) (by simp) rfl) (l_cons rfl (l_three (e_lst (l_two (e_sub rfl rfl rfl) (e_sub rfl rfl rfl)) (by simp) rfl) (e_lst (l_one (e_tup (l_two (e_sub rfl rfl rfl) rfl) (by simp))) (by simp) rfl) rfl)))) (by simp) rfl) (e_bin (e_bin rfl rfl (div_ok (by decide))) rfl (mod_ok (by decide))) h11) ?_
    refine p_expr (e_append rfl get_last (l_one (e_tup (l_three (e_call (l_two (e_bin rfl rfl addI) rfl) (name11 (k := k) W)) (e_tup (l_two rfl (e_bin rfl rfl addI)) (by simp)) rfl) (by simp))) get_last (by rw [List.length_map]; lia)) (nx_next (hJ _ _ ⟨ss ++ [⟨nm (40 + X) c, (B, B + 12), ns⟩], _, _, _, _, _, fun i p hp => ?_, by rw [List.length_append, hl]; rfl, ?_, rfl⟩))
    · by_cases q : i < ss.length
      · rw [List.getElem?_append_left q] at hp
        exact hss i p hp
      · rw [List.getElem?_append_right (by lia)] at hp
        have hi : i = ss.length := by
          have := (List.getElem?_eq_some_iff.mp hp).1
          simp at this; lia
        subst hi
        rw [Nat.sub_self] at hp
        cases hp
        refine ⟨⟨nm_ok _ _, ?_, ?_, hns⟩, hn1, hn2, c, ?_⟩
        · show stOK (B, B + 12) = true
          unfold stOK
          simp; lia
        · show dayOK (B, B + 12) = true
          unfold dayOK
          simp; lia
        · show nm (40 + X) c = _
          rw [hX, hl]
    · rw [List.set_append_right _ _ (Nat.le_refl _), Nat.sub_self, List.map_append]; rfl
  · rintro ρ H' ⟨ss, a4, a5, a9, a10, a11, hss, hl, rfl, rfl⟩
    rw [span_len, Int.sub_zero, Int.toNat_natCast] at hl
    exact fin ss a4 a5 a9 a10 a11 hss (by lia)
structure Mk11 (ps : List Pm) (ss : List Sm) : Prop where
  pok : ∀ p ∈ ps, PmOK p ∧ p.limit ≤ 2
  sok : ∀ s ∈ ss, SmOK s ∧ s.needs.length ≤ 2 ∧ ∀ n ∈ s.needs, n.2 ≤ 2
  pn : (ps.map (·.name)).Nodup
  sn : (ss.map (·.name)).Nodup
  pl : ps.length ≤ 3
  sl : ss.length ≤ 2
theorem nd_names {α : Type} {l : List α} {f : α → Str} {o : Int} (ho : 0 ≤ o ∧ o ≤ 40) (h : ∀ (i : Nat) x, l[i]? = some x → ∃ c, f x = nm (o + i) c) (hl : l.length ≤ 3) : (l.map f).Nodup := by
  rw [List.Nodup, List.pairwise_iff_getElem]
  intro i j hi hj hij e
  rw [List.length_map] at hi hj
  rw [List.getElem_map, List.getElem_map] at e
  obtain ⟨c, h1⟩ := h i _ (List.getElem?_eq_getElem hi)
  obtain ⟨d, h2⟩ := h j _ (List.getElem?_eq_getElem hj)
  rw [h1, h2] at e
  exact nm_ne' (by lia) (by lia) (by lia) e
theorem parts11_P (W : Law11 R) (hx : xs.length ≤ 63) (fin : ∀ ps ss, Mk11 ps ss → PG (.ret (.tup [.ref H.length, .ref (H.length + 1)]) (H ++ [.lst (ps.map pV)] ++ [.lst (ss.map SV)]))) : PG (d11_l_small_parts (R (k + 2)) false (rho0 [.lst (xs.map .int)] 12) H) := by
  refine p_asg (a := .int (cell xs 0)) (H₁ := H) (e_call (l_two rfl rfl) (cell_n W.bk hx rfl)) ?_
  generalize cell xs 0 = f
  have hne : nm 90 f ≠ nm 91 (f / 3) := nm_ne' (by decide) (by decide) (by decide)
  refine p_asg (e_lst (l_two (e_call (l_two rfl rfl) (name11 (k := k) W)) (e_call (l_two rfl (e_bin rfl rfl (div_ok (by decide)))) (name11 (k := k) W))) (by simp) rfl) ?_
  have ha := nm_ok 90 f
  have hb := nm_ok 91 (f / 3)
  generalize nm 90 f = a at ha hne
  generalize nm 91 (f / 3) = b at hb hne
  refine p_asg (e_lst l_nil (by simp) rfl) ?_
  refine parts1_P (k := k) W hx ha hb hne ?_
  intro ps a4 a5 a6 a7 hps hpl
  refine p_asg (a := .ref (H ++ [AO.lst (ps.map pV)]).length) (H₁ := H ++ [.lst (ps.map pV)] ++ [.lst []]) (e_lst l_nil (by simp) rfl) ?_
  refine parts2_P (k := k) (H := H ++ [.lst (ps.map pV)]) W hx ha hb hne ?_
  intro ss a4 a5 a9 a10 a11 hss hsl
  have gp : ∀ p ∈ ps, ∃ i, PmS p i := fun p hp => let ⟨i, hi⟩ := List.getElem?_of_mem hp; ⟨i, hps i p hi⟩
  have gs : ∀ s ∈ ss, ∃ i, SmS s i := fun s hs => let ⟨i, hi⟩ := List.getElem?_of_mem hs; ⟨i, hss i s hi⟩
  have key := fin ps ss ⟨fun p hp => let ⟨i, z⟩ := gp p hp; ⟨z.ok, z.lim⟩, fun s hs => let ⟨i, z⟩ := gs s hs; ⟨z.ok, z.few, z.cnt⟩, nd_names (o := 0) (by decide) (fun i x h => by rw [Int.zero_add]; exact (hps i x h).nm) hpl, nd_names (o := 40) (by decide) (fun i x h => (hss i x h).nm) (by lia), hpl, hsl⟩
  refine p_ret (e_tup (l_two rfl rfl) (by simp)) ?_
  rw [List.length_append]
  exact key
theorem parts11_run (W : Law11 R) (hx : xs.length ≤ 63) : ∃ ps ss, R (k + 3) false 49 [.lst (xs.map .int)] H = .ok (.tup [.ref H.length, .ref (H.length + 1)]) (H ++ [.lst (ps.map pV)] ++ [.lst (ss.map SV)]) ∧ Mk11 ps ss := by
  rw [W.parts _ _ _ _ rfl]
  exact parts11_P (PG := fun o => ∃ ps ss, o.done = .ok (.tup [.ref H.length, .ref (H.length + 1)]) (H ++ [.lst (ps.map pV)] ++ [.lst (ss.map SV)]) ∧ Mk11 ps ss) W hx fun ps ss h => ⟨ps, ss, rfl, h⟩
end
theorem meet_eq {r h : Int × Int} (hr : stOK r = true) (hh : stOK h = true) : decide ((if r.1 < h.1 then h.1 else r.1) < (if h.2 < r.2 then h.2 else r.2)) = meet r h := by
  unfold stOK at hr hh
  simp only [Bool.and_eq_true, decide_eq_true_eq] at hr hh
  unfold meet
  rw [Bool.eq_iff_iff]
  simp only [decide_eq_true_eq, Bool.and_eq_true]
  split <;> split <;> omega
section
variable {H : AH} {a : AV}
theorem den_ints {n : Nat} {is : List Int} : denL (den (n + 1) H) (is.map .int) = some (is.map .int) := by
  induction is with
  | nil => rfl
  | cons x r ih => show ((some (PyData.int x)).bind fun d => (denL (den (n + 1) H) (r.map .int)).map (d :: ·)) = _; rw [ih]; rfl
theorem in_ints {d : Int} {is : List Int} (hd : dcOf H a = none) (h : lsOf H a = some (is.map .int)) : cmpA H .In (.int d) a = some (decide (d ∈ is)) := by
  show inA H (.int d) a = _
  unfold inA
  rw [hd, h]
  show ((some (PyData.int d)).bind fun x => (denL (den deep H) (is.map .int)).map fun ds => ds.any fun y => PyData.eqv y x) = _
  rw [show denL (den deep H) (is.map .int) = _ from den_ints (n := 19)]
  show some ((is.map PyData.int).any fun y => PyData.eqv y (.int d)) = _
  congr 1
  rw [Bool.eq_iff_iff]
  simp only [List.any_eq_true, List.mem_map, decide_eq_true_eq]
  constructor
  · rintro ⟨_, ⟨y, hy, rfl⟩, e⟩
    have e : (y == d) = true := e
    rw [beq_iff_eq] at e
    exact e ▸ hy
  · intro h
    exact ⟨_, ⟨d, h, rfl⟩, by show (d == d) = true; simp⟩
end
theorem nin_ints {H : AH} {d : Int} {is : List Int} : cmpA H .NotIn (.int d) (.lst (is.map .int)) = some (!decide (d ∈ is)) := by
  show (inA H (.int d) (.lst (is.map .int))).map (!·) = _
  rw [show inA H (.int d) (.lst (is.map .int)) = _ from in_ints (a := .lst (is.map .int)) rfl rfl]; rfl
noncomputable def placeAV (e : Sm × (Str × Int)) : AV := .tup [SV e.1, .str e.2.1]
noncomputable def svx (ss : List Sm) (x : Nat) : AV := match (allSN ss)[x]? with | some e => SV e.1 | none => .none
noncomputable def wayAV (ss : List Sm) (w : List (Nat × Pm)) : AV := .lst (w.map fun z => .tup [svx ss z.1, pV z.2])
theorem svx_at {ss : List Sm} {x : Nat} {e : Sm × (Str × Int)} (h : (allSN ss)[x]? = some e) : svx ss x = SV e.1 := by unfold svx; simp only [h]
section
variable {R : Nat → Bool → FT} {k : Nat} {H : AH} {p : Pm} {s : Sm} {x : Str} {PG : OutS → Prop} {ps : List Pm} {ss : List Sm} {w : List (Nat × Pm)} {pA : AV}
theorem lmay_P (hr : ∀ r ∈ p.rests, stOK r = true) (hh : stOK s.hours = true) (fin : PG (.ret (.bool (mayM p s x)) H)) : PG (d11_l_may (R k) false (rho0 [pV p, SV s, .str x] 4) H) := by
  refine p_for (a := .lst (p.rests.map stAV)) (H₁ := H) (xs := p.rests.map stAV) rfl rfl rfl
    (fun j ρ H' => A3 (H' = H) ((p.rests.take j).all (fun r => !meet r s.hours) = true) (∃ a3, ρ = [some (pV p), some (SV s), some (.str x), a3])) ⟨rfl, by simp, _, rfl⟩ ?_ ?_
  · rintro J j v ρ H' hv ⟨rfl, hno, a3, rfl⟩ hJ
    rw [List.getElem?_map] at hv
    refine x1_2 (Option.map_eq_some_iff.mp hv) fun r hj e2' => ?_; subst e2'
    have hm := List.mem_of_getElem? hj
    show Nx _ _ ((_ : DS) [some (pV p), some (SV s), some (.str x), some (stAV r)] H')
    refine p_if (x := meet r s.hours) (H₁ := H') ?_ (fun h => ?_) fun h => ?_
    · rw [← meet_eq (hr r hm) hh]
      exact e_cmp (e_bi (l_two (e_sub rfl rfl rfl) (e_sub (e_sub rfl rfl rfl) rfl rfl)) rfl) (e_bi (l_two (e_sub rfl rfl rfl) (e_sub (e_sub rfl rfl rfl) rfl rfl)) rfl) rfl
    · have e : mayM p s x = false := by
        unfold mayM
        rw [Bool.and_eq_false_iff]
        right
        rw [List.all_eq_false]
        exact ⟨r, hm, by rw [h]; decide⟩
      rw [e] at fin
      exact p_ret (P := Th _ _) rfl fin
    · refine th_next (hJ _ _ ⟨rfl, ?_, _, rfl⟩)
      rw [List.take_add_one, hj, List.all_append, hno]
      simp [h]
  · rintro ρ H' ⟨rfl, hno, a3, rfl⟩
    rw [List.length_map, List.take_length] at hno
    refine p_ret (a := .bool (mayM p s x)) ((e_cmp rfl (e_sub rfl rfl rfl) (in_strs (xs := p.skills) rfl rfl)).trans ?_) fin
    unfold mayM
    rw [hno, Bool.and_true]
theorem lmay11 (W : Law11 R) (hr : ∀ r ∈ p.rests, stOK r = true) (hh : stOK s.hours = true) : R (k + 1) false 44 [pV p, SV s, .str x] H = .ok (.bool (mayM p s x)) H := by
  rw [W.l_may _ _ _ _ rfl]
  exact lmay_P (PG := fun o => o.done = .ok (.bool (mayM p s x)) H) hr hh rfl
theorem held11 (W : Law11 R) (hl : w.length ≤ 1000) : R (k + 1) false 51 [wayAV ss w, pV p] H = .ok (.lst ((w.filter fun z => decide (z.2.name = p.name)).map fun z => svx ss z.1)) H := by
  rw [W.held _ _ _ _ rfl]
  suffices q : d11_l_held (R k) false (rho0 [wayAV ss w, pV p] 2) H = .ret (.lst ((w.filter fun z => decide (z.2.name = p.name)).map fun z => svx ss z.1)) H by rw [q]; rfl
  exact s_ret (e_compF (l := w) (fx := fun z => .tup [svx ss z.1, pV z.2]) (fy := fun z => svx ss z.1) (p := fun z => decide (z.2.name = p.name)) rfl (.inl rfl) (by lia) (fun z _ => e_cmp (e_sub (e_sub (var_new rfl) rfl rfl) rfl rfl) (e_sub (var_app rfl) rfl rfl) eq_strs) (fun z _ _ => e_sub (var_new rfl) rfl rfl) rfl)
theorem e_and3 {l r r' : DE} {ρ : RE} {H₁ : AH} {x y z : Bool} (h1 : l ρ H = .ok (.bool x) H₁) (h2 : r ρ H₁ = .ok (.bool y) H₁) (h3 : r' ρ H₁ = .ok (.bool z) H₁) : bopE true [l, r, r'] ρ H = .ok (.bool (x && (y && z))) H₁ := by
  have := e_and2 h2 h3
  unfold bopE; rw [h1]; show (if x = true then _ else _) = _
  cases x with
  | true => exact this
  | false => rfl
structure WOK (ps : List Pm) (ss : List Sm) (j : Nat) (W : List (List (Nat × Pm))) : Prop where
  len : W.length ≤ 3 ^ j
  ok : ∀ w ∈ W, w.length = j ∧ ∀ z ∈ w, z.1 < (allSN ss).length
theorem flat_len {α β : Type} {f : α → List β} {l : List α} {n : Nat} (h : ∀ x ∈ l, (f x).length ≤ n) : (l.flatMap f).length ≤ l.length * n := by
  induction l with
  | nil => exact Nat.zero_le _
  | cons x r ih =>
    rw [List.flatMap_cons, List.length_append, List.length_cons, Nat.succ_mul, Nat.add_comm]
    exact Nat.add_le_add (ih fun y hy => h y (.tail _ hy)) (h x (.head _))
theorem wok_step {D : Dk} {j i : Nat} {W : List (List (Nat × Pm))} (A : WOK ps ss j W) (hp : ps.length ≤ 3) (hi : i < (allSN ss).length) : WOK ps ss (j + 1) (stepW D ps W i) := by
  refine ⟨?_, fun v hv => ?_⟩
  · unfold stepW
    refine Nat.le_trans (flat_len (n := 3) fun w _ => ?_) ?_
    · rw [List.length_map]
      exact Nat.le_trans (List.length_filter_le _ _) hp
    · rw [Nat.pow_succ]
      exact Nat.mul_le_mul_right _ A.len
  · obtain ⟨w, hw, p, hp, o, rfl⟩ := mem_step.mp hv
    have := A.ok w hw
    refine ⟨by rw [List.length_append, this.1]; rfl, fun z hz => ?_⟩
    rcases List.mem_append.mp hz with hz | hz
    · exact this.2 z hz
    · rw [List.mem_singleton.mp hz]; exact hi
theorem try_P (W : Law11 R) (hpn : (ps.map (·.name)).Nodup) (hp : p ∈ ps) (hok : PmOK p) (hso : ∀ s ∈ ss, SmOK s) {e : Sm × (Str × Int)} {i : Nat} (he : (allSN ss)[i]? = some e) (hw : w.length ≤ 100 ∧ ∀ z ∈ w, z.1 < (allSN ss).length) {L : List (List (Nat × Pm))} (hL : L.length ≤ 100000) {v0 v2 : Option AV} {a7 : Option AV} {J : RE → AH → Prop}
    (hJ : ∀ a7, J [v0, some pA, v2, some (placeAV e), some (.ref H.length), some (wayAV ss w), some (pV p), a7] (H ++ [.lst ((L ++ (if okW (dkOf ps ss) w i p = true then [w ++ [(i, p)]] else [])).map (wayAV ss))])) :
    Nx J PG (d11_l_ways_b1 (R (k + 1)) false [v0, some pA, v2, some (placeAV e), some (.ref H.length), some (wayAV ss w), some (pV p), a7] (H ++ [.lst (L.map (wayAV ss))])) := by
  have hes := (all_mem (List.mem_of_getElem? he)).1
  have hfl : (w.filter fun z => decide (z.2.name = p.name)).length ≤ 100 := Nat.le_trans (List.length_filter_le _ _) hw.1
  have hown : (ownW (dkOf ps ss) w p).length ≤ 100 := by unfold ownW; rw [List.length_map]; exact hfl
  refine p_asg (a := .lst ((ownW (dkOf ps ss) w p).map .int)) (e_mapF (l := w.filter fun z => decide (z.2.name = p.name)) (fx := fun z => svx ss z.1) (fy := fun z => .int ((dkOf ps ss).day z.1)) (e_call (l_two rfl rfl) (held11 (k := k) W (by lia))) (.inl rfl) (by lia) (fun z hz => ?_) (by unfold ownW; rw [List.map_map]; rfl)) ?_
  · have hz := hw.2 z (List.mem_filter.mp hz).1
    obtain ⟨e', he'⟩ : ∃ e', (allSN ss)[z.1]? = some e' := ⟨_, List.getElem?_eq_getElem hz⟩
    rw [svx_at he', dk_day he']
    exact e_bin (e_sub (e_sub (var_new rfl) rfl rfl) rfl rfl) rfl (div_ok (by decide))
  · have hc : (mayM p e.1 e.2.1 && (!decide (e.1.hours.1 / 24 ∈ ownW (dkOf ps ss) w p) && decide (((ownW (dkOf ps ss) w p).length : Int) < p.limit))) = okW (dkOf ps ss) w i p := by
      unfold okW
      rw [dk_day he, dk_most hpn hp, dk_fits he]
      congr 1
      · rw [Bool.eq_iff_iff, decide_eq_true_eq, List.mem_map]
        refine ⟨fun q => ⟨p, List.mem_filter.mpr ⟨hp, q⟩, rfl⟩, fun ⟨q, hq, en⟩ => ?_⟩
        have hq := List.mem_filter.mp hq
        have : q = p := nd_inj hpn hq.1 hp en
        exact this ▸ hq.2
      · congr 1
        rw [decide_not]
    have hrow : ∀ l : List AV, (H ++ [AO.lst l])[H.length]? = some (.lst l) := fun l => get_last
    refine p_if (x := okW (dkOf ps ss) w i p) (by
      rw [← hc]
      exact e_and3 (e_call (l_three rfl (e_sub rfl rfl rfl) (e_sub rfl rfl rfl)) (lmay11 (k := k) W hok.rests (hso _ hes).hours)) (e_cmp (e_bin (e_sub (e_sub (e_sub rfl rfl rfl) rfl rfl) rfl rfl) rfl (div_ok (by decide))) rfl nin_ints) (e_cmp (e_bi (l_one rfl) ((bi_len (by rw [List.length_map]; lia)).trans (by rw [List.length_map]))) (e_sub rfl rfl rfl) rfl)) (fun q => ?_) fun q => ?_
    · have hJ := hJ (some (.lst ((ownW (dkOf ps ss) w p).map .int)))
      rw [if_pos q] at hJ
      have hadd : binA false .Add (wayAV ss w) (.lst [.tup [SV e.1, pV p]]) (H ++ [.lst (L.map (wayAV ss))]) = .ok (wayAV ss (w ++ [(i, p)])) (H ++ [.lst (L.map (wayAV ss))]) := by
        have hs : 1000 ≤ sizeLine := by decide
        have := hw.1
        refine (addL (by rw [List.length_map, List.length_cons, List.length_nil]; lia)).trans ?_
        show Out.ok (AV.lst _) _ = _
        unfold wayAV
        rw [List.map_append, List.map_cons, List.map_nil, svx_at he]
      refine p_expr (P := Th _ _) (e_append rfl (hrow _) (l_one (e_bin rfl (e_lst (l_one (e_tup (l_two (e_sub rfl rfl rfl) rfl) (by simp))) (by simp) rfl) hadd)) (hrow _) (by rw [List.length_map]; lia)) (th_next ?_)
      rw [List.set_append_right _ _ (Nat.le_refl _), Nat.sub_self]
      rw [List.map_append] at hJ
      exact hJ
    · have hJ := hJ (some (.lst ((ownW (dkOf ps ss) w p).map .int)))
      rw [if_neg (by rw [q]; decide), List.append_nil] at hJ
      exact th_next hJ
theorem place_P (W : Law11 R) (M : Mk11 ps ss) {e : Sm × (Str × Int)} {i j : Nat} (he : (allSN ss)[i]? = some e) {Ws : List (List (Nat × Pm))} (A : WOK ps ss j Ws) (hj : j ≤ 8) {v2 : AV} (h2 : IsL H.length H v2 (Ws.map (wayAV ss))) (hP : IsL H.length H pA (ps.map pV)) {v0 a4 a5 a6 a7 : Option AV} {J : RE → AH → Prop}
    (hJ : ∀ a4 a5 a6 a7, J [v0, some pA, some (.ref H.length), some (placeAV e), a4, a5, a6, a7] (H ++ [.lst ((stepW (dkOf ps ss) ps Ws i).map (wayAV ss))])) :
    Nx J PG (d11_l_ways_b2 (R (k + 1)) false [v0, some pA, some v2, some (placeAV e), a4, a5, a6, a7] H) := by
  have hb : 3 ^ j ≤ 6561 := Nat.le_trans (Nat.pow_le_pow_right (by decide) hj) (by decide)
  have hil := (List.getElem?_eq_some_iff.mp he).1
  refine p_asg (e_lst l_nil (by simp) rfl) ?_
  refine p_forL (N := H.length) (a := v2) (H₁ := H ++ [.lst []]) (xs := Ws.map (wayAV ss)) rfl (h2.up Up.app)
    (fun q ρ H' => Ex3 fun (a5 a6 a7 : Option AV) => A2 (H' = H ++ [.lst ((stepW (dkOf ps ss) ps (Ws.take q) i).map (wayAV ss))]) (ρ = [v0, some pA, some v2, some (placeAV e), some (.ref H.length), a5, a6, a7])) ⟨_, _, _, rfl, rfl⟩ (fun q ρ H' z => ?_) ?_ ?_
  · obtain ⟨_, _, _, rfl, _⟩ := z
    refine ⟨by simp, fun n hn => ?_⟩
    rw [List.getElem?_append_left hn, List.getElem?_append_left hn]
  · rintro J' q v ρ H' hv ⟨a5, a6, a7, rfl, rfl⟩ hJ'
    rw [List.getElem?_map] at hv
    refine x1_2 (Option.map_eq_some_iff.mp hv) fun w hq e2' => ?_; subst e2'
    have hw := A.ok w (List.mem_of_getElem? hq)
    have e1 : stepW (dkOf ps ss) ps (Ws.take (q + 1)) i = stepW (dkOf ps ss) ps (Ws.take q) i ++ (ps.filter (okW (dkOf ps ss) w i)).map fun p => w ++ [(i, p)] := by
      unfold stepW
      rw [List.take_add_one, hq, List.flatMap_append]; simp
    rw [e1] at hJ'
    have hL : (stepW (dkOf ps ss) ps (Ws.take q) i).length ≤ 6561 * 3 := by
      unfold stepW
      refine Nat.le_trans (flat_len (n := 3) fun w _ => ?_) (Nat.mul_le_mul_right _ ?_)
      · rw [List.length_map]
        exact Nat.le_trans (List.length_filter_le _ _) M.pl
      · rw [List.length_take]; have := A.len; lia
    clear e1 hv
    generalize stepW (dkOf ps ss) ps (Ws.take q) i = L at hJ' hL
    show Nx _ _ ((_ : DS) [v0, some pA, some v2, some (placeAV e), some (.ref H.length), some (wayAV ss w), a6, a7] _)
    refine p_forL (N := H.length) (a := pA) (H₁ := H ++ [.lst (L.map (wayAV ss))]) (xs := ps.map pV) rfl (hP.up Up.app)
      (fun t ρ H' => Ex2 fun (a6 a7 : Option AV) => A2 (H' = H ++ [.lst ((L ++ ((ps.take t).filter (okW (dkOf ps ss) w i)).map fun p => w ++ [(i, p)]).map (wayAV ss))]) (ρ = [v0, some pA, some v2, some (placeAV e), some (.ref H.length), some (wayAV ss w), a6, a7])) ⟨_, _, by simp, rfl⟩ (fun t ρ H' z => ?_) ?_ ?_
    · obtain ⟨_, _, rfl, _⟩ := z
      refine ⟨by simp, fun n hn => ?_⟩
      rw [List.getElem?_append_left hn, List.getElem?_append_left hn]
    · rintro J2 t v ρ H' hv ⟨a6, a7, rfl, rfl⟩ hJ2
      rw [List.getElem?_map] at hv
      refine x1_2 (Option.map_eq_some_iff.mp hv) fun p ht e2' => ?_; subst e2'
      have hp := List.mem_of_getElem? ht
      have e3 : ((ps.take (t + 1)).filter (okW (dkOf ps ss) w i)).map (fun p => w ++ [(i, p)]) = ((ps.take t).filter (okW (dkOf ps ss) w i)).map (fun p => w ++ [(i, p)]) ++ (if okW (dkOf ps ss) w i p = true then [w ++ [(i, p)]] else []) := by
        rw [List.take_add_one, ht, List.filter_append, List.map_append]
        congr 1
        cases h : okW (dkOf ps ss) w i p with
        | true => rw [if_pos rfl, Option.toList_some, List.filter_cons_of_pos h]; rfl
        | false => rw [if_neg (by decide), Option.toList_some, List.filter_cons_of_neg (by rw [h]; decide)]; rfl
      rw [e3, ← List.append_assoc] at hJ2
      have hl2 : (L ++ ((ps.take t).filter (okW (dkOf ps ss) w i)).map fun p => w ++ [(i, p)]).length ≤ 100000 := by
        have := List.length_filter_le (okW (dkOf ps ss) w i) (ps.take t)
        rw [List.length_take] at this
        have := M.pl
        rw [List.length_append, List.length_map]; lia
      generalize (L ++ ((ps.take t).filter (okW (dkOf ps ss) w i)).map fun p => w ++ [(i, p)]) = L2 at hJ2 hl2
      exact try_P (k := k) W M.pn hp (M.pok p hp).1 (fun s hs => (M.sok s hs).1) he ⟨by lia, hw.2⟩ hl2 fun a7 => hJ2 _ _ ⟨_, _, rfl, rfl⟩
    · rintro ρ H' ⟨a6, a7, rfl, rfl⟩
      rw [List.length_map, List.take_length]
      exact nx_next (hJ' _ _ ⟨_, _, _, rfl, rfl⟩)
  · rintro ρ H' ⟨a5, a6, a7, rfl, rfl⟩
    rw [List.length_map, List.take_length]
    exact p_asg rfl (nx_next (hJ _ _ _ _))
theorem ways_P (W : Law11 R) (M : Mk11 ps ss) {PL : List ((Sm × (Str × Int)) × Nat)} (hPL : ∀ q ∈ PL, (allSN ss)[q.2]? = some q.1) (hl : PL.length ≤ 8) (hP : IsL H.length H pA (ps.map pV))
    (fin : ∀ v H', IsL H'.length H' v ((waysM (dkOf ps ss) ps (PL.map (·.2))).map (wayAV ss)) → (∀ w ∈ waysM (dkOf ps ss) ps (PL.map (·.2)), ∀ z ∈ w, z.1 < (allSN ss).length) → Up H.length H H' → PG (.ret v H')) : PG (d11_l_ways (R (k + 1)) false (rho0 [.lst (PL.map fun q => placeAV q.1), pA] 8) H) := by
  refine p_asg (e_lst (l_one (e_lst l_nil (by simp) rfl)) (by simp) rfl) ?_
  refine p_for (a := .lst (PL.map fun q => placeAV q.1)) (H₁ := H) (xs := PL.map fun q => placeAV q.1) rfl rfl rfl
    (fun j ρ H' => Ex6 fun (v2 : AV) (a3 a4 a5 a6 a7 : Option AV) => A4 (WOK ps ss j (waysM (dkOf ps ss) ps ((PL.take j).map (·.2)))) (IsL H'.length H' v2 ((waysM (dkOf ps ss) ps ((PL.take j).map (·.2))).map (wayAV ss))) (Up H.length H H') (ρ = [some (.lst (PL.map fun q => placeAV q.1)), some pA, some v2, a3, a4, a5, a6, a7])) ⟨_, _, _, _, _, _, ⟨Nat.le_refl 1, fun w hw => ?_⟩, .inl rfl, Up.refl, rfl⟩ ?_ ?_
  · rw [List.mem_singleton.mp hw]
    exact ⟨rfl, fun z hz => absurd hz List.not_mem_nil⟩
  · rintro J j v ρ H' hv ⟨v2, a3, a4, a5, a6, a7, A, h2, u, rfl⟩ hJ
    rw [List.getElem?_map] at hv
    refine x1_2 (Option.map_eq_some_iff.mp hv) fun q hj e2' => ?_; subst e2'
    have he := hPL q (List.mem_of_getElem? hj)
    have hjl := (List.getElem?_eq_some_iff.mp hj).1
    have e1 : (PL.take (j + 1)).map (·.2) = (PL.take j).map (·.2) ++ [q.2] := take_snoc' hj
    rw [e1, ways_snoc] at hJ
    have A' := wok_step (D := dkOf ps ss) A M.pl (List.getElem?_eq_some_iff.mp he).1
    generalize waysM (dkOf ps ss) ps ((PL.take j).map (·.2)) = Ws at A A' h2 hJ
    show Nx _ _ ((_ : DS) [some (.lst (PL.map fun q => placeAV q.1)), some pA, some v2, some (placeAV q.1), a4, a5, a6, a7] H')
    exact place_P (k := k) W M he A (by lia) h2 ((hP.up u).mono u.1) fun a4 a5 a6 a7 => hJ _ _ ⟨_, _, _, _, _, _, A', .inr ⟨_, rfl, by simp, get_last⟩, u.trans (Up.app.mono u.1), rfl⟩
  · rintro ρ H' ⟨v2, a3, a4, a5, a6, a7, A, h2, u, rfl⟩
    rw [List.length_map, List.take_length] at h2 A
    exact p_ret rfl (fin v2 H' h2 (fun w hw => (A.ok w hw).2) u)
theorem ways_run (W : Law11 R) (M : Mk11 ps ss) {PL : List ((Sm × (Str × Int)) × Nat)} (hPL : ∀ q ∈ PL, (allSN ss)[q.2]? = some q.1) (hl : PL.length ≤ 8) (hP : IsL H.length H pA (ps.map pV)) :
    ∃ v H', R (k + 2) false 50 [.lst (PL.map fun q => placeAV q.1), pA] H = .ok v H' ∧ IsL H'.length H' v ((waysM (dkOf ps ss) ps (PL.map (·.2))).map (wayAV ss)) ∧ (∀ w ∈ waysM (dkOf ps ss) ps (PL.map (·.2)), ∀ z ∈ w, z.1 < (allSN ss).length) ∧ Up H.length H H' := by
  rw [W.ways _ _ _ _ rfl]
  exact ways_P (PG := fun o => ∃ v H', o.done = .ok v H' ∧ IsL H'.length H' v ((waysM (dkOf ps ss) ps (PL.map (·.2))).map (wayAV ss)) ∧ (∀ w ∈ waysM (dkOf ps ss) ps (PL.map (·.2)), ∀ z ∈ w, z.1 < (allSN ss).length) ∧ Up H.length H H') W M hPL hl hP fun v H' h o u => ⟨v, H', rfl, h, o, u⟩
end
noncomputable def plS (ss : List Sm) : List (Sm × (Str × Int)) := (allSN ss).flatMap fun e => List.replicate e.2.2.toNat e
noncomputable def PLof (ss : List Sm) : List ((Sm × (Str × Int)) × Nat) := (allSN ss).zipIdx.flatMap fun q => List.replicate q.1.2.2.toNat q
section
variable {ss : List Sm} {x : Nat}
theorem pl_fst : (PLof ss).map (·.1) = plS ss := by
  unfold PLof plS
  rw [List.map_flatMap]
  conv => rhs; rw [← List.zipIdx_map_fst 0 (allSN ss), List.flatMap_map]
  congr 1
  funext q
  rw [List.map_replicate]
theorem pl_at : ∀ q ∈ PLof ss, (allSN ss)[q.2]? = some q.1 := fun q hq => by
  unfold PLof at hq
  refine x1_2 (List.mem_flatMap.mp hq) fun r hr h => ?_
  rw [(List.mem_replicate.mp h).2]
  exact List.mk_mem_zipIdx_iff_getElem?.mp hr
theorem cnt_zip (A : List (Sm × (Str × Int))) : ∀ o x : Nat, (((A.zipIdx o).flatMap fun q => List.replicate q.1.2.2.toNat q).map (·.2)).count x = if o ≤ x then (match A[x - o]? with | some e => e.2.2.toNat | none => 0) else 0 := by
  induction A with
  | nil => intro o x; split <;> rfl
  | cons e r ih =>
    intro o x
    rw [List.zipIdx_cons, List.flatMap_cons, List.map_append, List.count_append, ih, List.map_replicate, List.count_replicate]
    by_cases q : o = x
    · subst q
      rw [if_pos (by simp), if_neg (by lia), if_pos (Nat.le_refl _), Nat.sub_self]; rfl
    · rw [if_neg (by simpa using q)]
      by_cases w : o ≤ x
      · rw [if_pos w, if_pos (by lia), show x - o = x - (o + 1) + 1 by lia, List.getElem?_cons_succ]; simp
      · rw [if_neg w, if_neg (by lia)]
theorem pl_count : ((PLof ss).map (·.2)).count x = cntS ss x := by
  unfold PLof
  rw [cnt_zip, if_pos (Nat.zero_le _), Nat.sub_zero]; rfl
theorem range_map {α : Type} {A : List α} {f : α → Nat} : ((List.range A.length).map fun x => (A[x]?.map f).getD 0) = A.map f := by
  refine List.ext_getElem? fun i => ?_
  rw [List.getElem?_map, List.getElem?_map]
  by_cases q : i < A.length
  · rw [List.getElem?_range q, List.getElem?_eq_getElem q]
    show some ((A[i]?.map f).getD 0) = _
    rw [List.getElem?_eq_getElem q]; rfl
  · rw [List.getElem?_eq_none (by rw [List.length_range]; lia), List.getElem?_eq_none (by lia)]; rfl
theorem cnt_get : cntS ss x = (((allSN ss)[x]?).map fun e => e.2.2.toNat).getD 0 := by
  unfold cntS
  cases (allSN ss)[x]? <;> rfl
theorem pl_len : (plS ss).length = ((List.range (allSN ss).length).map fun x => cntS ss x).sum := by
  rw [List.map_congr_left fun x _ => cnt_get (ss := ss) (x := x), range_map]
  unfold plS
  induction allSN ss with
  | nil => rfl
  | cons e r ih => rw [List.flatMap_cons, List.length_append, ih, List.length_replicate, List.map_cons, List.sum_cons]
theorem all_snoc {s : Sm} {l : List Sm} : allSN (l ++ [s]) = allSN l ++ s.needs.map fun n => (s, n) := by unfold allSN; rw [List.flatMap_append]; simp
end
section
variable {H : AH}
theorem denL_some {f : AV → Option PyData} : ∀ {xs : List AV}, (∀ x ∈ xs, ∃ d, f x = some d) → ∃ ds, denL f xs = some ds
  | [], _ => ⟨[], rfl⟩
  | x :: r, h => by
    obtain ⟨d, hd⟩ := h x (.head _)
    obtain ⟨ds, hds⟩ := denL_some (f := f) (xs := r) fun y hy => h y (.tail _ hy)
    exact ⟨d :: ds, by unfold denL; rw [hd, hds]; rfl⟩
theorem den_strL {n : Nat} {xs : List Str} : ∃ ds, denL (den (n + 1) H) (xs.map .str) = some ds := denL_some fun x hx => by
  refine x1_2 (List.mem_map.mp hx) fun y _ e2' => ?_; subst e2'
  exact ⟨_, rfl⟩
theorem den_stL {n : Nat} {xs : List (Int × Int)} : ∃ ds, denL (den (n + 2) H) (xs.map stAV) = some ds := denL_some fun x hx => by
  refine x1_2 (List.mem_map.mp hx) fun y _ e2' => ?_; subst e2'
  exact ⟨_, rfl⟩
theorem den_needL {n : Nat} {xs : List (Str × Int)} : ∃ ds, denL (den (n + 2) H) (xs.map needAV) = some ds := denL_some fun x hx => by
  refine x1_2 (List.mem_map.mp hx) fun y _ e2' => ?_; subst e2'
  exact ⟨_, rfl⟩
theorem den_lst {n : Nat} {xs : List AV} (h : ∃ ds, denL (den n H) xs = some ds) : ∃ d, den (n + 1) H (.lst xs) = some d := by
  obtain ⟨ds, h⟩ := h
  exact ⟨.list ds, by show (denL (den n H) xs).map PyData.list = _; rw [h]; rfl⟩
theorem den_tup {n : Nat} {xs : List AV} (h : ∃ ds, denL (den n H) xs = some ds) : ∃ d, den (n + 1) H (.tup xs) = some d := by
  obtain ⟨ds, h⟩ := h
  exact ⟨.tuple ds, by show (denL (den n H) xs).map PyData.tuple = _; rw [h]; rfl⟩
theorem den_SV {n : Nat} {s : Sm} : ∃ d, den (n + 4) H (SV s) = some d := by
  refine den_tup (n := n + 3) (denL_some fun x hx => ?_)
  simp only [List.mem_cons, List.not_mem_nil, or_false] at hx
  rcases hx with rfl | rfl | rfl
  · exact ⟨_, rfl⟩
  · exact ⟨_, rfl⟩
  · exact den_lst (den_needL (n := n))
theorem den_pV {n : Nat} {p : Pm} : ∃ d, den (n + 4) H (pV p) = some d := by
  refine den_tup (n := n + 3) (denL_some fun x hx => ?_)
  simp only [List.mem_cons, List.not_mem_nil, or_false] at hx
  rcases hx with rfl | rfl | rfl | rfl
  · exact ⟨_, rfl⟩
  · exact den_lst (den_strL (n := n + 1))
  · exact ⟨_, rfl⟩
  · exact den_lst (den_stL (n := n))
theorem ne_nil {N : Nat} {v : AV} {ys : List AV} (h : IsL N H v ys) (hd : ∀ y ∈ ys, ∃ d, den 19 H y = some d) : cmpA H .NotEq v (.lst []) = some (!decide (ys = [])) := by
  obtain ⟨ds, e⟩ := denL_some hd
  have hv : den deep H v = some (.list ds) := by
    rcases h with rfl | ⟨r, rfl, _, h⟩
    · show (denL (den 19 H) ys).map PyData.list = _
      rw [e]; rfl
    · rw [show den deep H (.ref r) = _ from den_at (m := 19) h]
      show (denL (den 19 H) ys).map PyData.list = _
      rw [e]; rfl
  show (eqA H v (.lst [])).map (!·) = _
  unfold eqA
  rw [hv]
  show some (!(PyData.eqv (.list ds) (.list []))) = _
  cases ys with
  | nil => cases e; rfl
  | cons y r =>
    unfold denL at e
    refine x1_2 (Option.bind_eq_some_iff.mp e) fun d _ e => ?_
    refine x1_2 (Option.map_eq_some_iff.mp e) fun l _ e => ?_
    subst e
    rfl
theorem kd_lst {n : Nat} {xs : List AV} (h : H[n]? = some (.lst xs)) : kdOf H (.ref n) = some .lst := by show (match H[n]? with | some (.lst _) => some Kd.lst | _ => none) = _; rw [h]
theorem isi_list {ρ : RE} {H₁ : AH} {e : DE} {n : Nat} {xs : List AV} (h1 : e ρ H = .ok (.ref n) H₁) (h3 : H₁[n]? = some (.lst xs)) : isiE gmC e [.lst] ρ H = .ok (.bool true) H₁ := by
  unfold isiE
  rw [h1]
  show orBad ((kdOf H₁ (.ref n)).map fun k => isK k .lst) _ = _
  rw [kd_lst h3]; rfl
end
section
variable {R : Nat → Bool → FT} {k : Nat} {H : AH} {PG : OutS → Prop} {xs : List Int} {ps : List Pm} {ss : List Sm} {a b : Nat} {r : List DS} {N : Nat}
theorem Mk11.good (M : Mk11 ps ss) : Good ps ss := ⟨M.pn, M.sn, fun s hs => Nat.le_trans (M.sok s hs).2.1 (by decide), fun s hs => (M.sok s hs).1.needs.nodup, Nat.le_trans M.pl (by decide), Nat.le_trans M.sl (by decide), fun p hp => Nat.le_trans (M.pok p hp).1.few (by decide)⟩
theorem Mk11.few (M : Mk11 ps ss) : (allSN ss).length ≤ 4 := by
  unfold allSN
  refine Nat.le_trans (flat_len (n := 2) fun s hs => ?_) ?_
  · rw [List.length_map]; exact (M.sok s hs).2.1
  · have := M.sl; lia
theorem Mk11.cnt (M : Mk11 ps ss) : ∀ e ∈ allSN ss, 1 ≤ e.2.2 ∧ e.2.2 ≤ 2 := fun e he => by
  have h := all_mem he
  exact ⟨((M.sok _ h.1).1.needs.counts _ h.2).1, (M.sok _ h.1).2.2 _ h.2⟩
theorem Mk11.plen (M : Mk11 ps ss) : (plS ss).length ≤ 8 := by
  unfold plS
  refine Nat.le_trans (flat_len (n := 2) fun e he => ?_) ?_
  · rw [List.length_replicate]; have := M.cnt e he; lia
  · have := M.few; lia
theorem folk_P (W : Law11 R) (M : Mk11 ps ss) (B : BookOf N H b [] []) (hP : IsL N H (.ref a) (ps.map pV)) {m : Nat} {a3 a4 a5 a6 a7 a8 : Option AV}
    (fin : ∀ H' a3 a4, BookOf N H' b ps [] → Up N H H' → PG (seqS r [some (.lst (xs.map .int)), some (.tup [.ref a, .ref m]), some (.ref b), a3, a4, a5, a6, a7, a8] H')) :
    PG (seqS (forS false (.one 3) (subE (varE 1) (cstE (.int 0))) (d11_law_b2 (R (k + 3)) false) :: r) [some (.lst (xs.map .int)), some (.tup [.ref a, .ref m]), some (.ref b), a3, a4, a5, a6, a7, a8] H) := by
  have hpl := M.pl
  refine p_forL (N := N) (a := .ref a) (H₁ := H) (xs := ps.map pV) (e_sub rfl rfl rfl) hP
    (fun j ρ H' => Ex2 fun (a3 a4 : Option AV) => A3 (BookOf N H' b (ps.take j) []) (Up N H H') (ρ = [some (.lst (xs.map .int)), some (.tup [.ref a, .ref m]), some (.ref b), a3, a4, a5, a6, a7, a8])) ⟨_, _, B, Up.refl, rfl⟩ (fun j ρ H' z => by obtain ⟨_, _, _, u, _⟩ := z; exact u) ?_ ?_
  · rintro J j v ρ H' hv ⟨a3, a4, B, u, rfl⟩ hJ
    rw [List.getElem?_map] at hv
    refine x1_2 (Option.map_eq_some_iff.mp hv) fun p hj e2' => ?_; subst e2'
    have ok := (M.pok p (List.mem_of_getElem? hj)).1
    have hjn : (ps.map (·.name))[j]? = some p.name := by rw [List.getElem?_map, hj]; rfl
    have hno : p.name ∉ (ps.take j).map (·.name) := by rw [List.map_take]; exact not_before M.pn hjn
    obtain ⟨fs, hb⟩ := B.at
    show Nx _ _ ((_ : DS) [some (.lst (xs.map .int)), some (.tup [.ref a, .ref m]), some (.ref b), some (pV p), a4, a5, a6, a7, a8] H')
    refine x1_3 (add_person_of (k := k) W.bk B ok.name ok.skills ok.limit hno (by rw [List.length_take]; simp; lia)) fun H2 run B2 u2 => ?_
    refine p_expr (e_mo rfl hb (i := 13) rfl (l_three (e_sub rfl rfl rfl) (e_bi (l_one (e_sub rfl rfl rfl)) (list_of (by rw [List.length_map]; exact ok.skills.few))) (e_sub rfl rfl rfl)) run) ?_
    have hlen : (ps.take j).length = j := take_len hj
    have hnd2 : ((ps.take j ++ [p]).map (·.name)).Nodup := by
      have : ps.take j ++ [p] = ps.take (j + 1) := by rw [List.take_add_one, hj]; rfl
      rw [this, List.map_take]
      exact List.Nodup.sublist (List.take_sublist _ _) M.pn
    refine p_for (a := .lst (p.rests.map stAV)) (H₁ := H2) (xs := p.rests.map stAV) (e_sub rfl rfl rfl) rfl rfl
      (fun t ρ H' => ∃ a4 : Option AV, A3 (BookOf N H' b (ps.take j ++ [{ p with rests := p.rests.take t }]) []) (Up N H H') (ρ = [some (.lst (xs.map .int)), some (.tup [.ref a, .ref m]), some (.ref b), some (pV p), a4, a5, a6, a7, a8])) ⟨_, B2, u.trans u2, rfl⟩ ?_ ?_
    · rintro J2 t v ρ H' hv ⟨a4, B3, u3, rfl⟩ hJ2
      rw [List.getElem?_map] at hv
      refine x1_2 (Option.map_eq_some_iff.mp hv) fun q ht e2' => ?_; subst e2'
      have hq := List.mem_of_getElem? ht
      obtain ⟨fs, hb⟩ := B3.at
      show Nx _ _ ((_ : DS) [some (.lst (xs.map .int)), some (.tup [.ref a, .ref m]), some (.ref b), some (pV p), some (stAV q), a5, a6, a7, a8] H')
      refine x1_3 (add_rest_of (k := k) (i := j) (p := { p with rests := p.rests.take t }) W.bk B3 (by rw [List.map_append] at hnd2 ⊢; exact hnd2) (by rw [List.getElem?_append_right (by lia), hlen, Nat.sub_self]; rfl) (ok.rests q hq) (by have := ok.few; show (p.rests.take t).length ≤ _; rw [List.length_take]; lia)) fun H4 run4 B4 u4 => ?_
      refine p_expr (e_mo rfl hb (i := 14) rfl (l_two (e_sub rfl rfl rfl) rfl) run4) (nx_next (hJ2 _ _ ⟨_, ?_, u3.trans u4, rfl⟩))
      have e := set_snoc (l := ps.take j) (x := { p with rests := p.rests.take t }) (y := { p with rests := p.rests.take t ++ [q] })
      rw [hlen] at e
      rw [e] at B4
      rw [List.take_add_one, ht]
      exact B4
    · rintro ρ H' ⟨a4, B3, u3, rfl⟩
      rw [List.length_map, List.take_length] at B3
      refine nx_next (hJ _ _ ⟨_, _, ?_, u3, rfl⟩)
      rw [List.take_add_one, hj]
      exact B3
  · rintro ρ H' ⟨a3, a4, B, u, rfl⟩
    rw [List.length_map, List.take_length] at B
    exact fin H' a3 a4 B u
theorem work_P (W : Law11 R) (M : Mk11 ps ss) (B : BookOf N H b ps []) (hS : IsL N H (.ref a) (ss.map SV)) {m : Nat} {a3 a4 a6 a7 a8 : Option AV}
    (fin : ∀ H' a6 a7, BookOf N H' b ps ss → Up N H H' → PG (seqS r [some (.lst (xs.map .int)), some (.tup [.ref m, .ref a]), some (.ref b), a3, a4, some (.lst ((plS ss).map placeAV)), a6, a7, a8] H')) :
    PG (seqS (forS false (.one 6) (subE (varE 1) (cstE (.int 1))) (d11_law_b1 (R (k + 3)) false) :: r) [some (.lst (xs.map .int)), some (.tup [.ref m, .ref a]), some (.ref b), a3, a4, some (.lst []), a6, a7, a8] H) := by
  have hsl := M.sl
  have hpl := M.pl
  refine p_forL (N := N) (a := .ref a) (H₁ := H) (xs := ss.map SV) (e_sub rfl rfl rfl) hS
    (fun j ρ H' => Ex2 fun (a6 a7 : Option AV) => A4 (BookOf N H' b ps (ss.take j)) (Up N H H') ((plS (ss.take j)).length ≤ 8 * j) (ρ = [some (.lst (xs.map .int)), some (.tup [.ref m, .ref a]), some (.ref b), a3, a4, some (.lst ((plS (ss.take j)).map placeAV)), a6, a7, a8])) ⟨_, _, B, Up.refl, Nat.le_refl _, rfl⟩ (fun j ρ H' z => by obtain ⟨_, _, _, u, _, _⟩ := z; exact u) ?_ ?_
  · rintro J j v ρ H' hv ⟨a6, a7, B, u, hl, rfl⟩ hJ
    rw [List.getElem?_map] at hv
    refine x1_2 (Option.map_eq_some_iff.mp hv) fun s hj e2' => ?_; subst e2'
    have hss := M.sok s (List.mem_of_getElem? hj)
    have ok := hss.1
    have hjl := (List.getElem?_eq_some_iff.mp hj).1
    have hjn : (ss.map (·.name))[j]? = some s.name := by rw [List.getElem?_map, hj]; rfl
    have hno : s.name ∉ (ss.take j).map (·.name) := by rw [List.map_take]; exact not_before M.sn hjn
    obtain ⟨fs, hb⟩ := B.at
    show Nx _ _ ((_ : DS) [some (.lst (xs.map .int)), some (.tup [.ref m, .ref a]), some (.ref b), a3, a4, some (.lst ((plS (ss.take j)).map placeAV)), some (SV s), a7, a8] H')
    refine x1_3 (add_shift_of (k := k) W.bk B ok.name ok.hours ok.day ok.needs hno (by rw [List.length_take]; lia)) fun H2 run B2 u2 => ?_
    refine p_expr (e_mo rfl hb (i := 15) rfl (l_three (e_sub rfl rfl rfl) (e_sub rfl rfl rfl) (e_bi (l_one (e_sub rfl rfl rfl)) (list_of (by rw [List.length_map]; exact ok.needs.few)))) run) ?_
    have e1 : ss.take (j + 1) = ss.take j ++ [s] := by rw [List.take_add_one, hj]; rfl
    have e2 : plS (ss.take j ++ [s]) = plS (ss.take j) ++ (s.needs.flatMap fun n => List.replicate n.2.toNat (s, n)) := by
      unfold plS
      rw [all_snoc, List.flatMap_append, List.flatMap_map]
    rw [e1, e2] at hJ
    generalize plS (ss.take j) = Z at hl hJ
    refine p_for (a := .lst (s.needs.map needAV)) (H₁ := H2) (xs := s.needs.map needAV) (e_sub rfl rfl rfl) rfl rfl
      (fun t ρ H' => ∃ a7 : Option AV, A3 (H' = H2) ((Z ++ ((s.needs.take t).flatMap fun n => List.replicate n.2.toNat (s, n))).length ≤ 8 * j + 2 * t) (ρ = [some (.lst (xs.map .int)), some (.tup [.ref m, .ref a]), some (.ref b), a3, a4, some (.lst ((Z ++ ((s.needs.take t).flatMap fun n => List.replicate n.2.toNat (s, n))).map placeAV)), some (SV s), a7, a8])) ⟨_, rfl, by rw [List.take_zero, List.flatMap_nil, List.append_nil]; exact hl, by rw [List.take_zero, List.flatMap_nil, List.append_nil]⟩ ?_ ?_
    · rintro J2 t v ρ H' hv ⟨a7, rfl, hl, rfl⟩ hJ2
      rw [List.getElem?_map] at hv
      refine x1_2 (Option.map_eq_some_iff.mp hv) fun n ht e2' => ?_; subst e2'
      have hn := List.mem_of_getElem? ht
      have hn1 := (ok.needs.counts n hn).1
      have hn2 := hss.2.2 n hn
      have htl := (List.getElem?_eq_some_iff.mp ht).1
      have hfew := hss.2.1
      rw [flat_take ht, ← List.append_assoc] at hJ2
      generalize (Z ++ ((s.needs.take t).flatMap fun n => List.replicate n.2.toNat (s, n))) = Y at hl hJ2
      show Nx _ _ ((_ : DS) [some (.lst (xs.map .int)), some (.tup [.ref m, .ref a]), some (.ref b), a3, a4, some (.lst (Y.map placeAV)), some (SV s), some (needAV n), a8] H')
      have hmul : binA false .Mult (.lst [.tup [SV s, .str n.1]]) (.int n.2) H' = .ok (.lst ((List.replicate n.2.toNat (s, n)).map placeAV)) H' := by
        show (if -1000 < n.2 ∧ n.2 < 1000 ∧ [AV.tup [SV s, .str n.1]].length < 1000 then Out.ok (AV.lst ((List.replicate n.2.toNat [AV.tup [SV s, .str n.1]]).flatten)) H' else .bad) = _
        rw [if_pos ⟨by lia, by lia, by simp⟩, List.map_replicate, List.flatten_replicate_singleton]; rfl
      have hadd : binA false .Add (.lst (Y.map placeAV)) (.lst ((List.replicate n.2.toNat (s, n)).map placeAV)) H' = .ok (.lst ((Y ++ List.replicate n.2.toNat (s, n)).map placeAV)) H' := by
        have hs : 1000 ≤ sizeLine := by decide
        refine (addL (by rw [List.length_map, List.length_map, List.length_replicate]; lia)).trans ?_
        show Out.ok (AV.lst _) _ = _
        rw [List.map_append]
      refine p_asg (e_bin rfl (e_bin (e_lst (l_one (e_tup (l_two rfl (e_sub rfl rfl rfl)) (by simp))) (by simp) rfl) (e_sub rfl rfl rfl) hmul) hadd) (nx_next (hJ2 _ _ ⟨_, rfl, ?_, rfl⟩))
      rw [List.length_append, List.length_replicate]; lia
    · rintro ρ H' ⟨a7, rfl, hl, rfl⟩
      rw [List.length_map, List.take_length] at hl ⊢
      exact nx_next (hJ _ _ ⟨_, _, e1 ▸ B2, u.trans u2, by have := hss.2.1; lia, rfl⟩)
  · rintro ρ H' ⟨a6, a7, B, u, hl, rfl⟩
    rw [List.length_map, List.take_length] at B ⊢
    exact fin H' a6 a7 B u
end
set_option Elab.async false
set_option maxRecDepth 100000
set_option maxHeartbeats 8000000
theorem ends11 (w : World) : openEnds treeTable PySem.Challenge.pw_uf030014_11 w 6000 = ends PySem.Challenge.pw_uf030014_11 w 6000 3504 (lit11 w) (thr11 w) := ends_cut (by decide) (boot11 w) (halfS11 w) (halfT11 w)
theorem left11 : LeftO PySem.Challenge.rw_uf030014_11.row.prog q11 [] (xtOf PySem.Challenge.rw_uf030014_11 q11) (fun s => tx11.ask (fragAt 600 s.heap)) (fun _ => tx11.said) 6000 :=
  left_and (p := PySem.Challenge.pw_uf030014_11) (fun w => (congrArg _ (ends11 w)).trans (base11 w)) fun w => (congrArg _ (ends11 w)).trans (map_and (fit11 w) (body11 w))
theorem wellSaid11 : PySem.Challenge.rw_uf030014_11.wellSaid = true := by kernel_rfl
theorem isDef11 : (defOf q11 PySem.Challenge.rw_uf030014_11.row.name).isSome = true := by kernel_rfl
set_option maxHeartbeats 4000000
section
variable {R : Nat → Bool → FT} {k : Nat} {H : AH} {PG : OutS → Prop} {xs : List Int} {ps : List Pm} {ss : List Sm}
theorem fills_ways (M : Mk11 ps ss) : (∃ g, Fills ps ss g) ↔ waysM (dkOf ps ss) ps ((PLof ss).map (·.2)) ≠ [] := by
  have hm : ∀ r, 0 ≤ (dkOf ps ss).most r := sd_mo fun p hp => Int.le_trans (by decide) (M.pok p hp).1.limit.1
  constructor
  · rintro ⟨g, F⟩ e
    refine x1_2 (ways_ex M.pn hm F.1 _ ((PLof ss).map (·.2)) rfl fun x => ?_) fun w hw _ => ?_
    · rw [pl_count]
      by_cases q : x < (allSN ss).length
      · exact Nat.le_of_eq (F.2 x q).symm
      · rw [cnt_get, List.getElem?_eq_none (Nat.not_lt.mp q)]; exact Nat.zero_le _
    · rw [e] at hw
      exact List.not_mem_nil hw
  · intro e
    obtain ⟨w, hw⟩ := List.exists_mem_of_ne_nil _ e
    obtain ⟨g, A⟩ := ways_hold M.pn hm _ _ rfl w hw
    exact ⟨g, A.ok, fun x _ => by rw [A.ld, pl_count]⟩
theorem law11_P (W : Law11 R) (hx : xs.length ≤ 63) (fin : ∀ H', PG (.ret (.bool true) H')) : PG (d11_law (R (k + 5)) false (rho0 [.lst (xs.map .int)] 9) []) := by
  refine x2_2 (parts11_run (k := k + 2) (H := []) W hx) fun ps ss run1 M => ?_
  refine p_asg (e_call (l_one rfl) run1) ?_
  show PG (seqS _ [some (.lst (xs.map .int)), some (.tup [.ref 0, .ref 1]), none, none, none, none, none, none, none] [.lst (ps.map pV), .lst (ss.map SV)])
  refine p_asg (book_new (k := k + 4) W.bk) ?_
  have B0 : BookOf 2 _ 2 [] [] := BookOf.new (H := [.lst (ps.map pV), .lst (ss.map SV)])
  have hP0 : ∀ L : AH, IsL 2 ([AO.lst (ps.map pV), .lst (ss.map SV)] ++ L) (.ref 0) (ps.map pV) := fun L => .inr ⟨0, rfl, by decide, rfl⟩
  have hS0 : ∀ L : AH, IsL 2 ([AO.lst (ps.map pV), .lst (ss.map SV)] ++ L) (.ref 1) (ss.map SV) := fun L => .inr ⟨1, rfl, by decide, rfl⟩
  refine folk_P (k := k + 2) W M B0 (hP0 _) ?_
  intro H2 a3 a4 B2 u2
  refine p_asg (e_lst l_nil (by simp) rfl) ?_
  refine work_P (k := k + 2) W M B2 ((hS0 _).up u2) ?_
  intro H3 a6 a7 B3 u3
  have hP3 := ((hP0 _).up u2).up u3
  have h2 : 2 ≤ H3.length := B3.le
  have hfew := M.few
  refine x2_3 (dealt_run (k := k) W.dl W.bk W.my W.rd B3 M.good (fun p hp => ⟨Int.le_trans (by decide) (M.pok p hp).1.limit.1, Int.le_trans (M.pok p hp).2 (by decide)⟩) (by lia) (fun e he => ⟨Int.le_trans (by decide) (M.cnt e he).1, Int.le_trans (M.cnt e he).2 (by decide)⟩)) fun v H4 run4 u4 hv => ?_
  refine p_asg (e_call (l_one rfl) run4) ?_
  have hpl : (PLof ss).length = (plS ss).length := by rw [← pl_fst, List.length_map]
  have hp8 := M.plen
  have hP4 : IsL H4.length H4 (.ref 0) (ps.map pV) := ((hP3.mono h2).up u4).mono u4.1
  have iff := fills_ways M
  have hpa : (PLof ss).map (fun q => placeAV q.1) = (plS ss).map placeAV := by rw [← pl_fst, List.map_map]; rfl
  refine x2_4 (ways_run (k := k + 3) W M pl_at (by lia) hP4) fun wv H5 run5 hw ho u5 => ?_
  rw [hpa] at run5
  have hne := ne_nil hw fun y hy => by
    refine x1_2 (List.mem_map.mp hy) fun w hw e => ?_; subst e
    refine den_lst (n := 18) (denL_some fun y hy => ?_)
    refine x1_2 (List.mem_map.mp hy) fun z hz e => ?_; subst e
    obtain ⟨e', he'⟩ : ∃ e', (allSN ss)[z.1]? = some e' := ⟨_, List.getElem?_eq_getElem (ho w hw z hz)⟩
    rw [svx_at he']
    refine den_tup (n := 17) (denL_some fun y hy => ?_)
    rcases List.mem_cons.mp hy with rfl | hy
    · exact den_SV (n := 13)
    · rw [List.mem_singleton.mp hy]; exact den_pV (n := 13)
  have hemp : decide ((waysM (dkOf ps ss) ps ((PLof ss).map (·.2))).map (wayAV ss) = []) = decide (waysM (dkOf ps ss) ps ((PLof ss).map (·.2)) = []) := decide_eq_decide.mpr List.map_eq_nil_iff
  rw [hemp] at hne
  clear hemp ho hw hpa
  generalize waysM (dkOf ps ss) ps ((PLof ss).map (·.2)) = Ws at iff hne
  rcases hv with ⟨l, rfl, l0, l60, no⟩ | ⟨h, m, rfl, F, hm⟩
  · refine p_skip (e_or3 (x := false) (y := false) (z := false) (e_nt (x := true) rfl) (e_cmp (e_bi (l_one rfl) rfl) rfl rfl) (e_nt (x := true) rfl)) ?_
    have hW : Ws = [] := Classical.byContradiction fun q => (iff.mpr q).elim fun g F => no g F
    rw [decide_eq_true hW] at hne
    refine p_skip (e_cmp (e_call (l_two rfl (e_sub rfl rfl rfl)) run5) rfl hne) ?_
    refine p_ret (a := .bool true) ((e_and2 (x := true) (y := true) (e_cmp (e_sub rfl rfl rfl) rfl (eq_strs.trans (by rw [decide_eq_true rfl]))) (e_cmp (e_bi (l_one (e_sub rfl rfl rfl)) (bi_len (by lia))) rfl ?_))) (fin _)
    show some (decide ((0 : Int) < (l.length : Nat))) = _
    rw [decide_eq_true (by lia)]
  · refine p_skip (e_or3 (x := false) (y := false) (z := false) (e_nt (x := true) rfl) (e_cmp (e_bi (l_one rfl) rfl) rfl rfl) (e_nt (x := true) (isi_list (e_sub rfl rfl rfl) hm))) ?_
    have hW : Ws ≠ [] := iff.mp ⟨h, F⟩
    rw [decide_eq_false hW] at hne
    have hm5 := u5.get hm
    have hlen : (rowsH (ps.map (·.name)) h ss (allSN ss).length).length = (plS ss).length := by
      rw [rows_len (Nat.le_refl _), pl_len]
      congr 1
      exact List.map_congr_left fun x hx => F.2 x (List.mem_range.mp hx)
    have hm5' : H5[m]? = some (.lst (rowsH (ps.map (·.name)) h ss (allSN ss).length)) := hm5
    generalize rowsH (ps.map (·.name)) h ss (allSN ss).length = Z at hlen hm5'
    refine p_if (x := true) (e_cmp (e_call (l_two rfl (e_sub rfl rfl rfl)) run5) rfl hne) (fun _ => ?_) fun q => nomatch q
    refine p_ret (P := Th _ _) (a := .bool true) (e_and2 (x := true) (y := true) (e_cmp (e_sub rfl rfl rfl) rfl (eq_strs.trans (by rw [decide_eq_true rfl]))) (e_cmp (e_bi (l_one (e_sub rfl rfl rfl)) (IsL.len (N := H5.length) (.inr ⟨m, rfl, (List.getElem?_eq_some_iff.mp hm5').1, hm5'⟩) (by lia))) (e_bi (l_one rfl) (bi_len (by rw [List.length_map]; lia))) ?_)) (fin _)
    rw [List.length_map, hlen]
    refine ceq_int.trans ?_
    rw [decide_eq_true rfl]
theorem law11 (W : Law11 R) (hx : xs.length ≤ 63) : ∃ H', R (k + 6) false 52 [.lst (xs.map .int)] [] = .ok (.bool true) H' := by
  rw [W.law _ _ _ _ rfl]
  exact law11_P (PG := fun o => ∃ H', o.done = .ok (.bool true) H') W hx fun H' => ⟨H', rfl⟩
end
theorem law11R : Law11 tx11.run := ⟨⟨r11_is_whole, r11_is_stretch, r11_day_of, r11_in_one_day, r11_is_name, r11_checked_skills, r11_checked_needs, r11_l_cell, r11_l_sign, r11_Person_init, r11_Shift_init, r11_Book_init, r11_Book_add_person, r11_Book_add_rest, r11_Book_add_shift, r11_Book_person, r11_Book_shift⟩, ⟨r11_meets, r11_Book_may⟩, ⟨r11_Book_people, r11_Book_posts, r11_Book_limit_of, r11_Book_stretch_of, r11_Book_count_of, r11_day_at⟩, ⟨r11_Deal_init, r11_Deal_left_by, r11_Deal_sought, r11_Deal_done, r11_Deal_shift_on, r11_dealt⟩, r11_l_name_by, r11_l_may, r11_l_small_parts, r11_l_ways, r11_l_held, r11_law⟩
end Mine
set_option maxRecDepth 100000 in
set_option maxHeartbeats 8000000 in
theorem PySem.Challenge.cw_uf030014_11_holds : PySem.Challenge.rw_uf030014_11.Holds := by
  refine Mine.head_of Mine.wellSaid11 Mine.isDef11 Mine.left11 (by kernel_rfl) (by kernel_rfl) (by rfl) (by decide +kernel) ⟨rfl, rfl, rfl, rfl, rfl, by decide +kernel⟩ (by w_witness2) ?_
  intro w s₀ s₁ mg mb G Y fa o pm cd doc dV kV ho hd hcd hD hmg hg args vals as hpre hlay hrd hwl hlo
  obtain ⟨K, KX, hK⟩ := Y
  refine Ground.open G ?_
  intro T B D TE TW
  have T' := topRead_of T
  have sr := T.seer (by kernel_rfl)
  clear hd hcd hD TE TW D B G ho T
  wrow_args hpre hlay hrd hwl hlo
  rename_i xs _ _ _ _ _ _ _ l vs _ hL _ hW _ hI _ hn _
  let S : Mine.Stat := { prog := PySem.Challenge.rw_uf030014_11.row.prog, w := w, base := s₁.heap, K := K, pr := _, loose := _, mg := mg, mb := mb, hK := KX, hT := T', seer := sr, X := Mine.exA K Mine.tx11.T, cl := Mine.clA K Mine.tx11.T, fa := Mine.faA K Mine.tx11.T Mine.tx11.src, T := Mine.tx11.T }
  have F := Mine.Tx.facts (t := Mine.tx11) (S := S) rfl rfl rfl rfl hK
  exact Mine.law_ok (l := PySem.Challenge.rw_uf030014_11) (i := 52) S Mine.tx11.G rfl rfl rfl rfl hg hmg F.1 rfl (F.2 20 false) hI hL hW hn fun ys hy => Mine.law11 (k := 14) Mine.law11R hy
