import PyProof.Rows.All
import PyProof.ForAny
import PyProof.CompUse
import PyProof.StrWalks
import PyProof.DictWalks
import PyProof.ExcBaseAll.ValueError
import PyProof.StationsW
import PyProof.StrOps2
import PyProof.WalksMore
import PyProof.RulesAs
import PyProof.NsDelKeeps
import PyProof.WalksPairs
import PyProof.Rows.ListMul
import PyProof.Rows.ListMulCarried
import PyProof.Rows.TopTwo
import PyProof.RulesAssignMore
import Wide.Tac
import Wide.BridgeG
import Wide.Loose
import Wide.Line
import Open.Line
import OpenK.TopRead
import OpenK.KWalk
import OpenK.KLine
import OpenK.KRaise
import KE.KItem
import KE.LcSums
import KE.KListMore
import KE.KDictAny
import KE.KDictList
import KE.KDictSum
import KE.KDictObj
import OpenK.KOwn
import KE.KIsAll
import KE.KSorted
import KE.KxSplit
import PySem.Challenge.RW_uf030014_05
open PySem PySem.W PyProof.Rows
set_option genInjectivity false
set_option genSizeOf false
set_option Elab.async false
set_option autoImplicit false
set_option linter.unusedVariables false
namespace Mine
inductive AV where
  | none
  | bool (b : Bool)
  | int (i : Int)
  | str (s : Str)
  | tup (xs : List AV)
  | lst (xs : List AV)
  | ref (n : Nat)
  | rng (a b : Int)
  | exc (c : Nat)
set_option genInjectivity true in
inductive Key where
  | str (s : Str)
  | int (i : Int)
  deriving DecidableEq
inductive AO where
  | lst (xs : List AV)
  | dict (es : List (Key × AV))
  /-- a dict that a loop goes over: it stays -/
  | ldict (es : List (Key × AV))
  | inst (c : Nat) (fs : List (Option AV))
noncomputable abbrev AH := List AO
inductive Out (α : Type) where
  | ok (a : α) (H : AH)
  | exc (c : Nat) (H : AH)
  | bad
noncomputable def Out.bind {α β : Type} (o : Out α) (f : α → AH → Out β) : Out β := match o with
  | .ok a H => f a H
  | .exc c H => .exc c H
  | .bad => .bad
inductive OutS where
  | next (ρ : List (Option AV)) (H : AH)
  | ret (a : AV) (H : AH)
  | exc (c : Nat) (ρ : List (Option AV)) (H : AH)
  | bad
noncomputable abbrev RE := List (Option AV)
noncomputable abbrev DS := RE → AH → OutS
noncomputable def AV.isNone : AV → Bool
  | .none => true
  | _ => false
noncomputable def clip (k : Option Int) (n : Nat) (dflt : Nat) : Nat := match k with
  | none => dflt
  | some k => if k < 0 then (if k + n < 0 then 0 else (k + n).toNat) else if k < n then k.toNat else n
noncomputable def cut {α : Type} (xs : List α) (lo hi : Option Int) : List α := (xs.drop (clip lo xs.length 0)).take (clip hi xs.length xs.length - clip lo xs.length 0)
noncomputable def freeH (l : Option Nat) (H : AH) : AH := match l with
  | none => H
  | some n => match H[n]? with
    | some (.ldict es) => H.set n (.dict es)
    | _ => H
inductive Bm where
  | append | extend | clear | get | pop | join
structure Gm where
  mth : List (List (Option Nat))
  na : Nat
  up : List (List Nat)
inductive Ty where
  | int | bool | str | tup | lst | val
  | exc (c : Nat)
inductive Kd where
  | none | bool | int | str | tup | lst
noncomputable def isK : Kd → Ty → Bool
  | .bool, t => match t with
    | .bool => true
    | .int => true
    | _ => false
  | .int, t => match t with
    | .int => true
    | _ => false
  | .str, t => match t with
    | .str => true
    | _ => false
  | .tup, t => match t with
    | .tup => true
    | _ => false
  | .lst, t => match t with
    | .lst => true
    | _ => false
  | .none, _ => false
noncomputable def isX (G : Gm) (c : Nat) : Ty → Bool
  | .val => true
  | .exc d => match G.up[c]? with
    | some l => l.any fun x => decide (x = d)
    | none => false
  | _ => false
structure Tb where
  fns : List (Option Str)
  cls : List Str
  exs : List Str
  an : List Str
  mn : List Str
  gi : List (Str × Int)
noncomputable def OutS.then (o : OutS) (k : DS) : OutS := match o with
  | .next ρ H => k ρ H
  | o => o
noncomputable def OutS.free (l : Option Nat) : OutS → OutS
  | .next ρ H => .next ρ (freeH l H)
  | .ret a H => .ret a (freeH l H)
  | .exc c ρ H => .exc c ρ (freeH l H)
  | .bad => .bad
noncomputable def OutS.done : OutS → Out AV
  | .next _ H => .ok .none H
  | .ret a H => .ok a H
  | .exc c _ H => .exc c H
  | .bad => .bad
structure Stat where
  prog : Program
  w : World
  base : Heap
  K : Frag
  pr : Program
  loose : List Str
  mg : Str → Option Value
  mb : Str → Option Value
  hK : K.In base
  hT : TopRead pr loose mg mb base
  seer : base.NoSeer
  /-- the exceptions' classes, the other classes, the functions, the names -/
  X : Nat → Option Addr
  cl : Nat → Option Addr
  fa : Nat → Option Addr
  T : Tb
noncomputable abbrev Stat.an (S : Stat) : List Str := S.T.an
structure Cx where
  S : Stat
  A : Around
  fe : List Env
  d : Nat
  hot : Bool
  pv : List Addr × List Addr
noncomputable def Cx.fs (C : Cx) : List Addr := C.fe.filterMap (·.frame)
noncomputable def Key.ok : Key → Bool
  | .str x => PyData.strOk x
  | .int _ => true
noncomputable def Bm.name : Bm → Str
  | .append => "append"
  | .extend => "extend"
  | .clear => "clear"
  | .get => "get"
  | .pop => "pop"
  | .join => "join"
noncomputable def clsOK (K : Frag) (C : Addr) : Bool :=
  (findIn K (.ref C) "__getattribute__" == some (some (.builtin "object.__getattribute__"))) && (findIn K (.ref C) "__getattr__" == some none) &&
  (findIn K (.ref C) "__setattr__" == some (some (.builtin "object.__setattr__"))) && plainOver K C && hasDictIn K C && makesIn K C
noncomputable def veMro : List Value := [.type "ValueError", .type "Exception", .type "BaseException", .type "object"]
noncomputable def seesIn (K : Frag) (D : Addr) : Bool := (clsIn K D).isSome && findIn K (.ref D) "__getattribute__" == some (some (.builtin "BaseException.__getattribute__")) && findIn K (.ref D) "__getattr__" == some none &&
  findIn K (.ref D) "__class__" == some (some (.builtin "object.__class__")) && specialIn K (.builtin "object.__class__") "__get__" == some (some (.builtin "getset_descriptor.__get__")) && takesIn K (.builtin "object.__class__") == some true &&
  mroIn K D (.type "object") == some true && mroIn K D (.type "BaseException") == some true
noncomputable def Kd.type : Kd → String
  | .none => "NoneType"
  | .bool => "bool"
  | .int => "int"
  | .str => "str"
  | .tup => "tuple"
  | .lst => "list"
noncomputable def biNames : List Str := ["len", "range", "list", "min", "max", "sum", "sorted", "int", "isinstance", "bool", "str", "tuple", "dict", "ValueError"]
noncomputable def plainPrm (p : Arguments) (names : List Str) : Bool := p.posonlyargs.isEmpty && p.kwonlyargs.isEmpty && p.vararg.isNone && p.kwarg.isNone && decide (p.args.map (·.arg) = names) && decide names.Nodup
noncomputable def scopeOK (sc : Scope) (prm : List Str) : Bool :=
  sc.kind == .function && !sc.isCoroutine && !sc.isGenerator && (prm.all fun x => sc.names.lookup x == some .local || sc.names.lookup x == some .cell) && (sc.names.all fun y => y.2 != .free)
noncomputable def nsOK (ns : List (Option Str)) (prm : List Str) : Bool := decide (ns.take prm.length = prm.map some) && decide (ns.filterMap id).Nodup && decide (prm.length ≤ ns.length)
noncomputable def noDef : Value → Bool
  | .none => true
  | _ => false
noncomputable def fdOK (K : Frag) (prm : List Str) (ns : List (Option Str)) (fd : FuncData) : Bool :=
  decide (fd.globals = mainGlobals) && decide (fd.builtins = builtinsNs) && fd.closure.isEmpty && codeIn K fd.code fd.qualname && plainPrm fd.params prm && noDef fd.defaults && scopeOK fd.scope prm && nsOK ns prm
noncomputable def funOf : Data → Option FuncData
  | .func fd => some fd
  | _ => none
noncomputable def stmsOf : FuncBody → Option (List Stmt)
  | .stmts b => some b
  | _ => none
noncomputable def fnAt (K : Frag) (f : Addr) (prm : List Str) (ns : List (Option Str)) : Option (List (Str × NameKind) × List Stmt) := (K.lookup f).bind fun o => (funOf o.data).bind fun fd => if fdOK K prm ns fd then (stmsOf fd.body).map fun b => (fd.scope.names, b) else none
structure Df where
  prm : List Str
  names : List (Str × NameKind)
  body : List Stmt
noncomputable def Df.ns (f : Df) : List (Option Str) := (f.prm ++ (f.names.filter fun y => (y.2 == .local || y.2 == .cell) && !(f.prm.any fun x => x == y.1)).map (·.1)).map some
noncomputable def dfIn (x : Str) : List Stmt → Option Df
  | [] => none
  | .FunctionDef n a b _ _ _ sc _ _ _ :: r => if n == x then some ⟨a.args.map (·.arg), sc.names, b⟩ else dfIn x r
  | _ :: r => dfIn x r
noncomputable def clIn (x : Str) : List Stmt → List Stmt
  | [] => []
  | .ClassDef n _ _ b _ _ _ _ _ _ _ :: r => if n == x then b else clIn x r
  | _ :: r => clIn x r
inductive At where
  | top (x : Str)
  | meth (c m : Nat)
noncomputable def dfAt (p : Program) (T : Tb) : At → Option Df
  | .top x => dfIn x p.main.body
  | .meth c m => (T.cls[c]?).bind fun x => (T.mn[m]?).bind fun y => dfIn y (clIn x p.main.body)
noncomputable def refOf : Value → Option Addr
  | .ref a => some a
  | _ => none
noncomputable def intOf : Value → Option Int
  | .int i _ => some i
  | _ => none
noncomputable def glRef (K : Frag) (x : Str) : Option Addr := (nsIn K mainGlobals x).bind fun o => o.bind refOf
noncomputable def exA (K : Frag) (T : Tb) (c : Nat) : Option Addr := (T.exs[c]?).bind (glRef K)
noncomputable def clA (K : Frag) (T : Tb) (c : Nat) : Option Addr := (T.cls[c]?).bind (glRef K)
noncomputable def atA' (K : Frag) (D : Addr) (x : Str) : Option Addr := (findIn K (.ref D) x).bind fun o => o.bind refOf
noncomputable def faAt (K : Frag) (T : Tb) : At → Option Addr
  | .top x => glRef K x
  | .meth c m => (clA K T c).bind fun D => (T.mn[m]?).bind (atA' K D)
noncomputable def faA (K : Frag) (T : Tb) (src : List At) (i : Nat) : Option Addr := (src[i]?).bind (faAt K T)
noncomputable def fitCls (K : Frag) (T : Tb) (x : Str) : Bool := match glRef K x with
  | some D => clsOK K D && keepIn K (.ref D) && T.an.all fun a => findIn K (.ref D) a == some none
  | none => false
noncomputable def fitMth (K : Frag) (T : Tb) (src : List At) (c m : Nat) : Option Nat → Bool
  | none => true
  | some f => match clA K T c with
    | none => true
    | some D => match T.mn[m]?, faA K T src f with
      | some x, some fa => !(T.an.any fun a => a == x) && findIn K (.ref D) x == some (some (.ref fa)) && isFn K (.ref fa) && fnIn K fa
      | _, _ => false
noncomputable def fitExc (K : Frag) (x : Str) : Bool := match glRef K x with
  | some D => excIn K D veMro "ValueError.__new__" && seesIn K D
  | none => false
noncomputable def fitUp (K : Frag) (T : Tb) (c d : Nat) (l : List Nat) : Bool := match exA K T c, exA K T d with
  | some D, some E => subIn K (.ref D) (.ref E) == some (l.any fun x => decide (x = d))
  | _, _ => true
noncomputable def fitFn (K : Frag) (T : Tb) (src : List At) (f : Nat) : Option Str → Bool
  | none => true
  | some x => match faA K T src f with
    | some a => nsIn K mainGlobals x == some (some (.ref a)) && fnIn K a
    | none => false
noncomputable def fitGi (K : Frag) (x : Str) (i : Int) : Bool := (nsIn K mainGlobals x).bind (fun o => o.bind intOf) == some i
noncomputable def tyA (K : Frag) (T : Tb) : Ty → Option Value
  | .int => some (.type "int")
  | .bool => some (.type "bool")
  | .str => some (.type "str")
  | .tup => some (.type "tuple")
  | .lst => some (.type "list")
  | .val => some (.type "ValueError")
  | .exc c => (exA K T c).map .ref
noncomputable def tys (n : Nat) : List Ty := [.int, .bool, .str, .tup, .lst, .val] ++ (List.range n).map .exc
noncomputable def kds : List Kd := [.none, .bool, .int, .str, .tup, .lst]
noncomputable def fitK (K : Frag) (T : Tb) (t : Value) (f : Ty → Bool) : Bool := (tys T.exs.length).all fun ty => match tyA K T ty with
  | some v => kitOne K t v == some (f ty)
  | none => true
noncomputable def fitX (K : Frag) (T : Tb) (G : Gm) (c : Nat) : Bool := match exA K T c with
  | some D => fitK K T (.ref D) (isX G c)
  | none => true
noncomputable def each {α : Type} (l : List α) (f : Nat → α → Bool) : Bool := l.zipIdx.all fun p => f p.2 p.1
noncomputable def fitB (K : Frag) (T : Tb) (G : Gm) (src : List At) : Bool :=
  T.cls.all (fitCls K T) && decide T.an.Nodup && decide (G.na = T.an.length) && decide (T.an.length ≤ 1000) && each G.mth (fun c l => each l fun m f => fitMth K T src c m f) && decide (T.mn[0]? = some ("__init__" : Str)) &&
  T.exs.all (fitExc K) && each G.up (fun c l => each T.exs fun d _ => fitUp K T c d l) && each T.fns (fitFn K T src) && (T.gi.all fun p => fitGi K p.1 p.2) && (biNames.all fun x => nsIn K mainGlobals x == some none) &&
  (kds.all fun k => fitK K T (.type k.type) (isK k)) && each T.exs fun c _ => fitX K T G c
noncomputable def bodyK (K : Frag) (T : Tb) (a : At) (f : Option Df) : Option (List (Str × NameKind) × List Stmt) := f.bind fun f => (faAt K T a).bind fun fa => fnAt K fa f.prm f.ns
noncomputable def fragAt (n : Nat) (h : Heap) : Frag := (List.range n).filterMap fun a => (h.get? a).map fun o => (a, o)
noncomputable def xtOf (l : OpenLaw) (q : Program) (s : Shared) : Bool := xlAt q [] s && recOk (RowW.records l.row.toRowW) s
structure Tx where
  prog : Program
  T : Tb
  G : Gm
  src : List At
  mts : List (Nat × Nat × Nat)
noncomputable def Tx.ask (t : Tx) (K : Frag) : Bool × List (Option (List (Str × NameKind) × List Stmt)) := (fitB K t.T t.G t.src, t.src.map fun a => bodyK K t.T a (dfAt t.prog t.T a))
noncomputable def Tx.said (t : Tx) : Bool × List (Option (List (Str × NameKind) × List Stmt)) := (true, t.src.map fun a => (dfAt t.prog t.T a).map fun f => (f.names, f.body))
noncomputable def topN (tb : String → Option Builtin) (p : Program) (w : World) (n₀ : Nat) (ann : Option Value) : Nat → Shared → Thread → Option (Shared × Thread)
  | 0, s, t => some (s, t)
  | n + 1, s, t => match through t with
    | true => none
    | false => match stepOk n₀ ann t with
      | false => none
      | true => match step (denote tb) p w s t with
        | .go s' t' => topN tb p w n₀ ann n s' t'
        | .halt _ _ => none
noncomputable def en (w : World) (s : Str) (t : Tok) (v : Value) : DictEntry := ⟨if s.cps.isEmpty then 0 else reduceHash (w.params.strHash s.cps), .str s t, v⟩
noncomputable def topF (p : Program) (i : Nat) : Option Stmt := p.main.body[i]?
noncomputable def inF (p : Program) (i j : Nat) : Option Stmt := match p.main.body[i]? with
  | some (.ClassDef _ _ _ body ..) => body[j]?
  | _ => none
noncomputable def fd (s : Option Stmt) (name qual : Str) (d k doc m code ct : Value) (g b : Addr) : FuncData := match s with
  | some (.FunctionDef _ a body _ _ _ sc ..) => { name, qualname := qual, params := a, body := .stmts body, scope := sc, globals := g, closure := [], defaults := d, kwdefaults := k, doc, pyModule := m, annotations := none, code, closureTuple := ct, builtins := b }
  | _ => default
noncomputable def tu0 : Obj := ⟨.type "tuple", none, .seq ⟨[]⟩ 0, ⟨[]⟩⟩
noncomputable def fl0 : Obj := ⟨.none, none, .fields ⟨[]⟩, ⟨[]⟩⟩
noncomputable def cp (t : Tok) : Value := .str "/claim/cut.py" t
noncomputable def zi (i : Int) : Value := .int i 0
noncomputable def co (l : List Value) : Obj := ⟨.type "code", none, .fields ⟨l⟩, ⟨[]⟩⟩
noncomputable def fo (f : FuncData) : Obj := ⟨.type "function", none, .func f, ⟨[]⟩⟩
noncomputable def fo' (f : FuncData) : Obj := ⟨.none, none, .func f, ⟨[]⟩⟩
noncomputable def tu (l : List Value) : Obj := ⟨.type "tuple", none, .seq ⟨l⟩ 0, ⟨[]⟩⟩
noncomputable def s0 (p : Program) (w : World) (N : Nat) : Shared := (fencedOpening treeTable p w N).getD {}
noncomputable def ann0 (p : Program) (w : World) (N : Nat) : Option Value := (s0 p w N).heap.nsMap mainGlobals "__annotations__"
noncomputable def stk (p : Program) (w : World) (N : Nat) : List Frame := match topN treeTable p w (s0 p w N).heap.objs.size (ann0 p w N) 12 (s0 p w N) (topStub p) with
  | some (_, t) => t.stack
  | none => []
noncomputable def thr (p : Program) (w : World) (N i : Nat) (pos : Pos) (env : Env) : Thread :=
  ⟨((execs ((behindTheImports p).drop i) env).onRaise (leaving env)).bind fun x => .pure (.done x), .body (behindTheImports p) env, pos, stk p w N⟩
noncomputable def chk (p : Program) (s₀ s₁ : Shared) : Option Shared := match staticsOk (importedModules p.main.body) s₀.heap s₁.heap && namesBound p s₁.heap && gensDone s₁ && laidKept s₀.heap s₁.heap with
  | true => some s₁
  | false => none
noncomputable def ends (p : Program) (w : World) (N m : Nat) (s : Shared) (t : Thread) : Option Shared :=
  (topRun treeTable p w (s0 p w N).heap.objs.size (ann0 p w N) m s t).bind (chk p (s0 p w N))
noncomputable def anC : List Str := ["skills", "limit", "away", "hours", "needs", "folk", "work", "places", "days", "fits", "at", "most"]
noncomputable def mnC : List Str := ["__init__", "add_person", "add_rest", "add_shift", "person", "shift", "people", "shifts", "posts", "skills_of", "rests_of", "limit_of", "stretch_of", "count_of", "may", "left_by", "sought", "done", "shift_on"]
noncomputable def gmC : Gm where
  mth := [[some 10, none, none, none, none, none, none, none, none, none, none, none, none, none, none, none, none, none, none], [some 11, none, none, none, none, none, none, none, none, none, none, none, none, none, none, none, none, none, none], [some 12, some 13, some 14, some 15, some 16, some 17, some 18, some 19, some 20, some 21, some 22, some 23, some 24, some 25, some 26, none, none, none, none], [some 28, none, none, none, none, none, none, none, none, none, none, none, none, none, none, some 29, some 30, some 31, some 32]]
  na := 12
  up := [[0], [1, 0], [2, 0], [3, 0], [4, 0], [5, 0], [6, 0]]
noncomputable def cell (xs : List Int) (k : Int) : Int := xs.getD k.toNat 0
noncomputable def tb05 : Tb where
  fns := [some ("is_whole" : Str), some ("is_stretch" : Str), none, some ("day_of" : Str), some ("in_one_day" : Str), some ("is_name" : Str), some ("checked_skills" : Str), some ("checked_needs" : Str), some ("_law_cell" : Str), some ("_law_sign" : Str), none, none, none, none, none, none, none, none, none, none, none, none, none, none, none, none, none, none, none, none, none, none, none, none, none, none, none, none, none, none, none, none, none, none, none, some ("_law_posts" : Str), none, none, none, some ("_law_name_of" : Str), some ("_law_is_name" : Str), some ("_law_counted" : Str), some ("_law_stretch_of" : Str), some ("_law_good_stretch" : Str), some ("_law_person_word" : Str), some ("_law_shift_word" : Str), some ("_law_word" : Str), some ("_law_tried" : Str), some ("_law_caught" : Str), some ("_law_tried_bare" : Str), some ("_law_deed" : Str), some ("_law_lists" : Str), some ("_law_rows" : Str), some ("_law_beside" : Str), some ("_law_no_post" : Str), some ("_law_all_missing" : Str), some ("law" : Str)]
  cls := ["Person", "Shift", "Book"]
  exs := ["RotaError", "BadName", "BadStretch", "BadCount", "Twice", "Missing", "BadLine"]
  an := anC
  mn := mnC
  gi := [("LAST", 1000000), ("DAY", 24), ("LONGEST", 20), ("MOST_DAYS", 31), ("MOST_COUNT", 9)]
noncomputable def tx05 : Tx where
  prog := PySem.Challenge.pw_uf030014_05
  T := tb05
  G := gmC
  src := [At.top "is_whole", At.top "is_stretch", At.top "meets", At.top "day_of", At.top "in_one_day", At.top "is_name", At.top "checked_skills", At.top "checked_needs", At.top "_law_cell", At.top "_law_sign", At.meth 0 0, At.meth 1 0, At.meth 2 0, At.meth 2 1, At.meth 2 2, At.meth 2 3, At.meth 2 4, At.meth 2 5, At.meth 2 6, At.meth 2 7, At.meth 2 8, At.meth 2 9, At.meth 2 10, At.meth 2 11, At.meth 2 12, At.meth 2 13, At.meth 2 14, At.top "day_at", At.meth 3 0, At.meth 3 15, At.meth 3 16, At.meth 3 17, At.meth 3 18, At.top "dealt", At.top "_law_tail", At.top "_law_name_by", At.top "_law_called", At.top "_law_person", At.top "_law_shift", At.top "_law_tight", At.top "_law_parts", At.top "_law_rested", At.top "_law_refused_deed", At.top "_law_book_of", At.top "_law_may", At.top "_law_posts", At.top "_law_wanted", At.top "_law_days", At.top "_law_room", At.top "_law_name_of", At.top "_law_is_name", At.top "_law_counted", At.top "_law_stretch_of", At.top "_law_good_stretch", At.top "_law_person_word", At.top "_law_shift_word", At.top "_law_word", At.top "_law_tried", At.top "_law_caught", At.top "_law_tried_bare", At.top "_law_deed", At.top "_law_lists", At.top "_law_rows", At.top "_law_beside", At.top "_law_no_post", At.top "_law_all_missing", At.top "law"]
  mts := [(49, 20, 22), (56, 11, 13), (65, 11, 13), (66, 12, 14), (120, 15, 30), (123, 15, 30), (126, 16, 18), (133, 15, 45), (136, 15, 43), (250, 20, 35), (250, 88, 104), (262, 66, 68), (339, 16, 18)]
noncomputable def q05 : Program := view PySem.Challenge.pw_uf030014_05 [0, 2, 3, 4, 5, 6, 7, 8, 10, 11, 12, 13, 14, 15, 17, 18, 20, 21, 22, 23, 24, 25, 26, 28, 29, 30, 31, 32, 33, 34, 35, 36, 37, 38, 39, 40, 41, 42, 43, 44, 45, 46, 47, 48]
noncomputable def tF05 := topF PySem.Challenge.pw_uf030014_05
noncomputable def iF05 := inF PySem.Challenge.pw_uf030014_05
noncomputable def lit05 (w : World) : Shared := { toks := 445, heap := { objs := ⟨[⟨(.type "dict"), none, (.dict ⟨[en w "__name__" 1 (.str "builtins" 160), en w "__doc__" 2 (.builtin "builtins.__doc__:str#opaque"), en w "__package__" 3 (.builtin "builtins.__package__:str#opaque"), en w "__loader__" 4 (.builtin "builtins.__loader__:shared#opaque"), en w "__spec__" 5 (.builtin "builtins.__spec__#opaque"), en w "__build_class__" 6 (.builtin "__build_class__"), en w "__import__" 7 (.builtin "__import__"), en w "abs" 8 (.builtin "abs"), en w "all" 9 (.builtin "all"), en w "any" 10 (.builtin "any"), en w "ascii" 11 (.builtin "ascii"), en w "bin" 12 (.builtin "bin"), en w "breakpoint" 13 (.builtin "breakpoint"), en w "callable" 14 (.builtin "callable"), en w "chr" 15 (.builtin "chr"), en w "compile" 16 (.builtin "compile"), en w "delattr" 17 (.builtin "delattr"), en w "dir" 18 (.builtin "dir"), en w "divmod" 19 (.builtin "divmod"), en w "eval" 20 (.builtin "eval"), en w "exec" 21 (.builtin "exec"), en w "format" 22 (.builtin "format"), en w "getattr" 23 (.builtin "getattr"), en w "globals" 24 (.builtin "globals"), en w "hasattr" 25 (.builtin "hasattr"), en w "hash" 26 (.builtin "hash"), en w "hex" 27 (.builtin "hex"), en w "id" 28 (.builtin "id"), en w "input" 29 (.builtin "input"), en w "isinstance" 30 (.builtin "isinstance"), en w "issubclass" 31 (.builtin "issubclass"), en w "iter" 32 (.builtin "iter"), en w "aiter" 33 (.builtin "aiter"), en w "len" 34 (.builtin "len"), en w "locals" 35 (.builtin "locals"), en w "max" 36 (.builtin "max"), en w "min" 37 (.builtin "min"), en w "next" 38 (.builtin "next"), en w "anext" 39 (.builtin "anext"), en w "oct" 40 (.builtin "oct"), en w "ord" 41 (.builtin "ord"), en w "pow" 42 (.builtin "pow"), en w "print" 43 (.builtin "print"), en w "repr" 44 (.builtin "repr"), en w "round" 45 (.builtin "round"), en w "setattr" 46 (.builtin "setattr"), en w "sorted" 47 (.builtin "sorted"), en w "sum" 48 (.builtin "sum"), en w "vars" 49 (.builtin "vars"), en w "None" 50 .none, en w "Ellipsis" 51 .ellipsis, en w "NotImplemented" 52 .notImplemented, en w "False" 53 (.bool false), en w "True" 54 (.bool true), en w "bool" 55 (.type "bool"), en w "memoryview" 56 (.type "memoryview"), en w "bytearray" 57 (.type "bytearray"), en w "bytes" 58 (.type "bytes"), en w "classmethod" 59 (.type "classmethod"), en w "complex" 60 (.type "complex"), en w "dict" 61 (.type "dict"), en w "enumerate" 62 (.type "enumerate"), en w "filter" 63 (.type "filter"), en w "float" 64 (.type "float"), en w "frozenset" 65 (.type "frozenset"), en w "property" 66 (.type "property"), en w "int" 67 (.type "int"), en w "list" 68 (.type "list"), en w "map" 69 (.type "map"), en w "object" 70 (.type "object"), en w "range" 71 (.type "range"), en w "reversed" 72 (.type "reversed"), en w "set" 73 (.type "set"), en w "slice" 74 (.type "slice"), en w "staticmethod" 75 (.type "staticmethod"), en w "str" 76 (.type "str"), en w "super" 77 (.type "super"), en w "tuple" 78 (.type "tuple"), en w "type" 79 (.type "type"), en w "zip" 80 (.type "zip"), en w "__debug__" 81 (.bool true), en w "BaseException" 82 (.type "BaseException"), en w "BaseExceptionGroup" 83 (.type "BaseExceptionGroup"), en w "Exception" 84 (.type "Exception"), en w "GeneratorExit" 85 (.type "GeneratorExit"), en w "KeyboardInterrupt" 86 (.type "KeyboardInterrupt"), en w "SystemExit" 87 (.type "SystemExit"), en w "ArithmeticError" 88 (.type "ArithmeticError"), en w "AssertionError" 89 (.type "AssertionError"), en w "AttributeError" 90 (.type "AttributeError"), en w "BufferError" 91 (.type "BufferError"), en w "EOFError" 92 (.type "EOFError"), en w "ImportError" 93 (.type "ImportError"), en w "LookupError" 94 (.type "LookupError"), en w "MemoryError" 95 (.type "MemoryError"), en w "NameError" 96 (.type "NameError"), en w "OSError" 97 (.type "OSError"), en w "ReferenceError" 98 (.type "ReferenceError"), en w "RuntimeError" 99 (.type "RuntimeError"), en w "StopAsyncIteration" 100 (.type "StopAsyncIteration"), en w "StopIteration" 101 (.type "StopIteration"), en w "SyntaxError" 102 (.type "SyntaxError"), en w "SystemError" 103 (.type "SystemError"), en w "TypeError" 104 (.type "TypeError"), en w "ValueError" 105 (.type "ValueError"), en w "Warning" 106 (.type "Warning"), en w "FloatingPointError" 107 (.type "FloatingPointError"), en w "OverflowError" 108 (.type "OverflowError"), en w "ZeroDivisionError" 109 (.type "ZeroDivisionError"), en w "BytesWarning" 110 (.type "BytesWarning"), en w "DeprecationWarning" 111 (.type "DeprecationWarning"), en w "EncodingWarning" 112 (.type "EncodingWarning"), en w "FutureWarning" 113 (.type "FutureWarning"), en w "ImportWarning" 114 (.type "ImportWarning"), en w "PendingDeprecationWarning" 115 (.type "PendingDeprecationWarning"), en w "ResourceWarning" 116 (.type "ResourceWarning"), en w "RuntimeWarning" 117 (.type "RuntimeWarning"), en w "SyntaxWarning" 118 (.type "SyntaxWarning"), en w "UnicodeWarning" 119 (.type "UnicodeWarning"), en w "UserWarning" 120 (.type "UserWarning"), en w "BlockingIOError" 121 (.type "BlockingIOError"), en w "ChildProcessError" 122 (.type "ChildProcessError"), en w "ConnectionError" 123 (.type "ConnectionError"), en w "FileExistsError" 124 (.type "FileExistsError"), en w "FileNotFoundError" 125 (.type "FileNotFoundError"), en w "InterruptedError" 126 (.type "InterruptedError"), en w "IsADirectoryError" 127 (.type "IsADirectoryError"), en w "NotADirectoryError" 128 (.type "NotADirectoryError"), en w "PermissionError" 129 (.type "PermissionError"), en w "ProcessLookupError" 130 (.type "ProcessLookupError"), en w "TimeoutError" 131 (.type "TimeoutError"), en w "IndentationError" 132 (.type "IndentationError"), en w "_IncompleteInputError" 133 (.type "_IncompleteInputError"), en w "IndexError" 134 (.type "IndexError"), en w "KeyError" 135 (.type "KeyError"), en w "ModuleNotFoundError" 136 (.type "ModuleNotFoundError"), en w "NotImplementedError" 137 (.type "NotImplementedError"), en w "PythonFinalizationError" 138 (.type "PythonFinalizationError"), en w "RecursionError" 139 (.type "RecursionError"), en w "UnboundLocalError" 140 (.type "UnboundLocalError"), en w "UnicodeError" 141 (.type "UnicodeError"), en w "BrokenPipeError" 142 (.type "BrokenPipeError"), en w "ConnectionAbortedError" 143 (.type "ConnectionAbortedError"), en w "ConnectionRefusedError" 144 (.type "ConnectionRefusedError"), en w "ConnectionResetError" 145 (.type "ConnectionResetError"), en w "TabError" 146 (.type "TabError"), en w "UnicodeDecodeError" 147 (.type "UnicodeDecodeError"), en w "UnicodeEncodeError" 148 (.type "UnicodeEncodeError"), en w "UnicodeTranslateError" 149 (.type "UnicodeTranslateError"), en w "ExceptionGroup" 150 (.type "ExceptionGroup"), en w "EnvironmentError" 151 (.type "OSError"), en w "IOError" 152 (.type "OSError"), en w "open" 153 (.builtin "open"), en w "quit" 154 (.builtin "builtins.quit#opaque"), en w "exit" 155 (.builtin "builtins.exit#opaque"), en w "copyright" 156 (.builtin "builtins.copyright#opaque"), en w "credits" 157 (.builtin "builtins.credits#opaque"), en w "license" 158 (.builtin "builtins.license#opaque"), en w "help" 159 (.builtin "builtins.help#opaque")]⟩ 159), ⟨[]⟩⟩,
  ⟨(.type "dict"), none, (.dict ⟨[en w "builtins" 162 (.ref 4), en w "__main__" 163 (.ref 5)]⟩ 2), ⟨[]⟩⟩,
  ⟨.none, none, (.dict ⟨[]⟩ 0), ⟨[]⟩⟩,
  ⟨(.type "dict"), none, (.dict ⟨[en w "__name__" 165 (.str "rota.book" 356), en w "__doc__" 166 .none, en w "__package__" 167 .none, en w "__loader__" 168 (.builtin "__main__.__loader__#opaque"), en w "__spec__" 169 .none, en w "__annotations__" 170 (.ref 6), en w "__builtins__" 171 (.ref 4), en w "__file__" 173 (cp 172), en w "__cached__" 174 .none, en w "_wall" 193 (.ref 21), en w "RotaError" 213 (.ref 31), en w "BadName" 229 (.ref 44), en w "BadStretch" 245 (.ref 56), en w "BadCount" 261 (.ref 68), en w "Twice" 277 (.ref 80), en w "Missing" 293 (.ref 92), en w "BadLine" 309 (.ref 104), en w "LAST" 313 (.int 1000000 312), en w "DAY" 315 (.int 24 314), en w "is_whole" 322 (.ref 113), en w "is_stretch" 329 (.ref 120), en w "day_of" 336 (.ref 127), en w "in_one_day" 343 (.ref 134), en w "LONGEST" 347 (.int 20 346), en w "is_name" 355 (.ref 141), en w "MOST_DAYS" 359 (.int 31 358), en w "MOST_COUNT" 361 (.int 9 360), en w "Person" 393 (.ref 158), en w "Shift" 424 (.ref 179), en w "checked_skills" 433 (.ref 190), en w "checked_needs" 444 (.ref 197)]⟩ 31), ⟨[]⟩⟩,
  ⟨(.type "module"), (some 0), .plain, ⟨[]⟩⟩,
  ⟨(.type "module"), (some 3), .plain, ⟨[]⟩⟩,
  ⟨(.type "dict"), none, (.dict ⟨[]⟩ 0), ⟨[]⟩⟩,
  tu0,
  fl0,
  co [.str "<module>" 176, .str "<module>" 177, cp 178, zi 1, zi 0, zi 0, zi 0, zi 0, .ref 7, .bool false, zi 175, .ref 8, .none, .none, .none, .none, zi 179, zi 1, cp 180],
  ⟨(.type "frame"), none, .plain, ⟨[(some (.ref 9)), (some (.ref 3)), (some (.ref 3)), none, (some (.str "__main__" 164)), none, (some (.ref 0))]⟩⟩,
  tu0,
  ⟨.none, none, (.fields ⟨[zi 1, zi 0, .ref 20, zi 5, zi 0, .ref 27, zi 7, zi 0, .ref 40, zi 9, zi 0, .ref 52, zi 11, zi 0, .ref 64, zi 13, zi 0, .ref 76, zi 15, zi 0, .ref 88, zi 17, zi 0, .ref 100, zi 22, zi 0, .ref 112, zi 24, zi 0, .ref 119, zi 28, zi 0, .ref 126, zi 30, zi 0, .ref 133, zi 34, zi 0, .ref 140, zi 44, zi 0, .ref 147, zi 50, zi 0, .ref 168, zi 55, zi 0, .ref 189, zi 64, zi 0, .ref 196]⟩), ⟨[]⟩⟩,
  co [.str "<module>" 182, .str "<module>" 183, cp 184, zi 1, zi 0, zi 0, zi 0, zi 0, .ref 11, .bool false, zi 181, .ref 12, .none, .none, .none, .none, zi 185, zi 1, cp 186],
  ⟨(.type "frame"), none, .plain, ⟨[(some (.ref 13)), (some (.ref 3)), (some (.ref 3)), none, (some (.str "__main__" 164)), none, (some (.ref 0))]⟩⟩,
  tu0,
  fl0,
  tu [.str "k" 190],
  tu0,
  fo' (fd (tF05 0) "_wall" "_wall" .none .none .none .none .none .none 0 0),
  co [.str "_wall" 187, .str "_wall" 188, cp 189, zi 1, zi 1, zi 0, zi 0, zi 3, .ref 15, .bool true, zi 181, .ref 16, .none, .ref 17, .ref 18, .ref 19, zi 191, zi 1, cp 192],
  fo (fd (tF05 0) "_wall" "_wall" .none .none .none (.str "__main__" 164) (.ref 20) .none 3 0),
  tu [(.type "ValueError")],
  ⟨(.type "builtin_function_or_method"), none, (.fields ⟨[(.builtin "type.__prepare__"), (.type "type")]⟩), ⟨[]⟩⟩,
  ⟨(.type "dict"), none, (.dict ⟨[en w "__module__" 203 (.str "rota.errors" 194), en w "__qualname__" 205 (.str "RotaError" 204), en w "__firstlineno__" 207 (.int 5 206), en w "__static_attributes__" 208 (.ref 29)]⟩ 4), ⟨[]⟩⟩,
  tu0,
  fl0,
  co [.str "RotaError" 198, .str "RotaError" 199, cp 200, zi 5, zi 0, zi 0, zi 0, zi 0, .ref 25, .bool false, zi 181, .ref 26, .none, .none, .none, .none, zi 201, zi 5, cp 202],
  ⟨(.type "frame"), none, .plain, ⟨[(some (.ref 27)), (some (.ref 3)), (some (.ref 24)), none, (some (.str "rota.errors" 194)), none, (some (.ref 0))]⟩⟩,
  tu0,
  ⟨(.type "dict"), none, (.dict ⟨[en w "__module__" 203 (.str "rota.errors" 194), en w "__firstlineno__" 207 (.int 5 206), en w "__static_attributes__" 208 (.ref 29), en w "__weakref__" 210 (.ref 32), en w "__doc__" 211 .none]⟩ 3), ⟨[]⟩⟩,
  ⟨(.type "type"), none, (.cls ⟨"RotaError", [(.type "ValueError")], [.ref 31, (.type "ValueError"), (.type "Exception"), (.type "BaseException"), (.type "object")], 30, "RotaError", true, [], [.ref 44, .ref 56, .ref 68, .ref 80, .ref 92, .ref 104], false, none, false⟩), ⟨[(some (.ref 22)), none, (some (.str "RotaError" 196)), (some (.str "RotaError" 204)), (some (.builtin "ValueError.__new__")), (some (.bool true))]⟩⟩,
  ⟨(.type "getset_descriptor"), none, (.fields ⟨[.str "__weakref__" 209, .ref 31, (.builtin "ExceptionGroup.__weakref__"), .none]⟩), ⟨[]⟩⟩,
  ⟨(.type "super"), none, (.fields ⟨[.ref 31, .ref 31, .ref 31]⟩), ⟨[]⟩⟩,
  ⟨(.type "builtin_function_or_method"), none, (.fields ⟨[(.builtin "object.__init_subclass__"), .ref 31]⟩), ⟨[]⟩⟩,
  tu [.ref 31],
  ⟨(.type "builtin_function_or_method"), none, (.fields ⟨[(.builtin "type.__prepare__"), (.type "type")]⟩), ⟨[]⟩⟩,
  ⟨(.type "dict"), none, (.dict ⟨[en w "__module__" 221 (.str "rota.errors" 194), en w "__qualname__" 223 (.str "BadName" 222), en w "__firstlineno__" 225 (.int 7 224), en w "__static_attributes__" 226 (.ref 42)]⟩ 4), ⟨[]⟩⟩,
  tu0,
  fl0,
  co [.str "BadName" 216, .str "BadName" 217, cp 218, zi 7, zi 0, zi 0, zi 0, zi 0, .ref 38, .bool false, zi 181, .ref 39, .none, .none, .none, .none, zi 219, zi 7, cp 220],
  ⟨(.type "frame"), none, .plain, ⟨[(some (.ref 40)), (some (.ref 3)), (some (.ref 37)), none, (some (.str "rota.errors" 194)), none, (some (.ref 0))]⟩⟩,
  tu0,
  ⟨(.type "dict"), none, (.dict ⟨[en w "__module__" 221 (.str "rota.errors" 194), en w "__firstlineno__" 225 (.int 7 224), en w "__static_attributes__" 226 (.ref 42), en w "__doc__" 227 .none]⟩ 2), ⟨[]⟩⟩,
  ⟨(.type "type"), none, (.cls ⟨"BadName", [.ref 31], [.ref 44, .ref 31, (.type "ValueError"), (.type "Exception"), (.type "BaseException"), (.type "object")], 43, "BadName", true, [], [], false, none, false⟩), ⟨[(some (.ref 35)), none, (some (.str "BadName" 214)), (some (.str "BadName" 222)), (some (.builtin "ValueError.__new__")), (some (.bool true))]⟩⟩,
  ⟨(.type "super"), none, (.fields ⟨[.ref 44, .ref 44, .ref 44]⟩), ⟨[]⟩⟩,
  ⟨(.type "builtin_function_or_method"), none, (.fields ⟨[(.builtin "object.__init_subclass__"), .ref 44]⟩), ⟨[]⟩⟩,
  tu [.ref 31],
  ⟨(.type "builtin_function_or_method"), none, (.fields ⟨[(.builtin "type.__prepare__"), (.type "type")]⟩), ⟨[]⟩⟩,
  ⟨(.type "dict"), none, (.dict ⟨[en w "__module__" 237 (.str "rota.errors" 194), en w "__qualname__" 239 (.str "BadStretch" 238), en w "__firstlineno__" 241 (.int 9 240), en w "__static_attributes__" 242 (.ref 54)]⟩ 4), ⟨[]⟩⟩,
  tu0,
  fl0,
  co [.str "BadStretch" 232, .str "BadStretch" 233, cp 234, zi 9, zi 0, zi 0, zi 0, zi 0, .ref 50, .bool false, zi 181, .ref 51, .none, .none, .none, .none, zi 235, zi 9, cp 236],
  ⟨(.type "frame"), none, .plain, ⟨[(some (.ref 52)), (some (.ref 3)), (some (.ref 49)), none, (some (.str "rota.errors" 194)), none, (some (.ref 0))]⟩⟩,
  tu0,
  ⟨(.type "dict"), none, (.dict ⟨[en w "__module__" 237 (.str "rota.errors" 194), en w "__firstlineno__" 241 (.int 9 240), en w "__static_attributes__" 242 (.ref 54), en w "__doc__" 243 .none]⟩ 2), ⟨[]⟩⟩,
  ⟨(.type "type"), none, (.cls ⟨"BadStretch", [.ref 31], [.ref 56, .ref 31, (.type "ValueError"), (.type "Exception"), (.type "BaseException"), (.type "object")], 55, "BadStretch", true, [], [], false, none, false⟩), ⟨[(some (.ref 47)), none, (some (.str "BadStretch" 230)), (some (.str "BadStretch" 238)), (some (.builtin "ValueError.__new__")), (some (.bool true))]⟩⟩,
  ⟨(.type "super"), none, (.fields ⟨[.ref 56, .ref 56, .ref 56]⟩), ⟨[]⟩⟩,
  ⟨(.type "builtin_function_or_method"), none, (.fields ⟨[(.builtin "object.__init_subclass__"), .ref 56]⟩), ⟨[]⟩⟩,
  tu [.ref 31],
  ⟨(.type "builtin_function_or_method"), none, (.fields ⟨[(.builtin "type.__prepare__"), (.type "type")]⟩), ⟨[]⟩⟩,
  ⟨(.type "dict"), none, (.dict ⟨[en w "__module__" 253 (.str "rota.errors" 194), en w "__qualname__" 255 (.str "BadCount" 254), en w "__firstlineno__" 257 (.int 11 256), en w "__static_attributes__" 258 (.ref 66)]⟩ 4), ⟨[]⟩⟩,
  tu0,
  fl0,
  co [.str "BadCount" 248, .str "BadCount" 249, cp 250, zi 11, zi 0, zi 0, zi 0, zi 0, .ref 62, .bool false, zi 181, .ref 63, .none, .none, .none, .none, zi 251, zi 11, cp 252],
  ⟨(.type "frame"), none, .plain, ⟨[(some (.ref 64)), (some (.ref 3)), (some (.ref 61)), none, (some (.str "rota.errors" 194)), none, (some (.ref 0))]⟩⟩,
  tu0,
  ⟨(.type "dict"), none, (.dict ⟨[en w "__module__" 253 (.str "rota.errors" 194), en w "__firstlineno__" 257 (.int 11 256), en w "__static_attributes__" 258 (.ref 66), en w "__doc__" 259 .none]⟩ 2), ⟨[]⟩⟩,
  ⟨(.type "type"), none, (.cls ⟨"BadCount", [.ref 31], [.ref 68, .ref 31, (.type "ValueError"), (.type "Exception"), (.type "BaseException"), (.type "object")], 67, "BadCount", true, [], [], false, none, false⟩), ⟨[(some (.ref 59)), none, (some (.str "BadCount" 246)), (some (.str "BadCount" 254)), (some (.builtin "ValueError.__new__")), (some (.bool true))]⟩⟩,
  ⟨(.type "super"), none, (.fields ⟨[.ref 68, .ref 68, .ref 68]⟩), ⟨[]⟩⟩,
  ⟨(.type "builtin_function_or_method"), none, (.fields ⟨[(.builtin "object.__init_subclass__"), .ref 68]⟩), ⟨[]⟩⟩,
  tu [.ref 31],
  ⟨(.type "builtin_function_or_method"), none, (.fields ⟨[(.builtin "type.__prepare__"), (.type "type")]⟩), ⟨[]⟩⟩,
  ⟨(.type "dict"), none, (.dict ⟨[en w "__module__" 269 (.str "rota.errors" 194), en w "__qualname__" 271 (.str "Twice" 270), en w "__firstlineno__" 273 (.int 13 272), en w "__static_attributes__" 274 (.ref 78)]⟩ 4), ⟨[]⟩⟩,
  tu0,
  fl0,
  co [.str "Twice" 264, .str "Twice" 265, cp 266, zi 13, zi 0, zi 0, zi 0, zi 0, .ref 74, .bool false, zi 181, .ref 75, .none, .none, .none, .none, zi 267, zi 13, cp 268],
  ⟨(.type "frame"), none, .plain, ⟨[(some (.ref 76)), (some (.ref 3)), (some (.ref 73)), none, (some (.str "rota.errors" 194)), none, (some (.ref 0))]⟩⟩,
  tu0,
  ⟨(.type "dict"), none, (.dict ⟨[en w "__module__" 269 (.str "rota.errors" 194), en w "__firstlineno__" 273 (.int 13 272), en w "__static_attributes__" 274 (.ref 78), en w "__doc__" 275 .none]⟩ 2), ⟨[]⟩⟩,
  ⟨(.type "type"), none, (.cls ⟨"Twice", [.ref 31], [.ref 80, .ref 31, (.type "ValueError"), (.type "Exception"), (.type "BaseException"), (.type "object")], 79, "Twice", true, [], [], false, none, false⟩), ⟨[(some (.ref 71)), none, (some (.str "Twice" 262)), (some (.str "Twice" 270)), (some (.builtin "ValueError.__new__")), (some (.bool true))]⟩⟩,
  ⟨(.type "super"), none, (.fields ⟨[.ref 80, .ref 80, .ref 80]⟩), ⟨[]⟩⟩,
  ⟨(.type "builtin_function_or_method"), none, (.fields ⟨[(.builtin "object.__init_subclass__"), .ref 80]⟩), ⟨[]⟩⟩,
  tu [.ref 31],
  ⟨(.type "builtin_function_or_method"), none, (.fields ⟨[(.builtin "type.__prepare__"), (.type "type")]⟩), ⟨[]⟩⟩,
  ⟨(.type "dict"), none, (.dict ⟨[en w "__module__" 285 (.str "rota.errors" 194), en w "__qualname__" 287 (.str "Missing" 286), en w "__firstlineno__" 289 (.int 15 288), en w "__static_attributes__" 290 (.ref 90)]⟩ 4), ⟨[]⟩⟩,
  tu0,
  fl0,
  co [.str "Missing" 280, .str "Missing" 281, cp 282, zi 15, zi 0, zi 0, zi 0, zi 0, .ref 86, .bool false, zi 181, .ref 87, .none, .none, .none, .none, zi 283, zi 15, cp 284],
  ⟨(.type "frame"), none, .plain, ⟨[(some (.ref 88)), (some (.ref 3)), (some (.ref 85)), none, (some (.str "rota.errors" 194)), none, (some (.ref 0))]⟩⟩,
  tu0,
  ⟨(.type "dict"), none, (.dict ⟨[en w "__module__" 285 (.str "rota.errors" 194), en w "__firstlineno__" 289 (.int 15 288), en w "__static_attributes__" 290 (.ref 90), en w "__doc__" 291 .none]⟩ 2), ⟨[]⟩⟩,
  ⟨(.type "type"), none, (.cls ⟨"Missing", [.ref 31], [.ref 92, .ref 31, (.type "ValueError"), (.type "Exception"), (.type "BaseException"), (.type "object")], 91, "Missing", true, [], [], false, none, false⟩), ⟨[(some (.ref 83)), none, (some (.str "Missing" 278)), (some (.str "Missing" 286)), (some (.builtin "ValueError.__new__")), (some (.bool true))]⟩⟩,
  ⟨(.type "super"), none, (.fields ⟨[.ref 92, .ref 92, .ref 92]⟩), ⟨[]⟩⟩,
  ⟨(.type "builtin_function_or_method"), none, (.fields ⟨[(.builtin "object.__init_subclass__"), .ref 92]⟩), ⟨[]⟩⟩,
  tu [.ref 31],
  ⟨(.type "builtin_function_or_method"), none, (.fields ⟨[(.builtin "type.__prepare__"), (.type "type")]⟩), ⟨[]⟩⟩,
  ⟨(.type "dict"), none, (.dict ⟨[en w "__module__" 301 (.str "rota.errors" 194), en w "__qualname__" 303 (.str "BadLine" 302), en w "__firstlineno__" 305 (.int 17 304), en w "__static_attributes__" 306 (.ref 102)]⟩ 4), ⟨[]⟩⟩,
  tu0,
  fl0,
  co [.str "BadLine" 296, .str "BadLine" 297, cp 298, zi 17, zi 0, zi 0, zi 0, zi 0, .ref 98, .bool false, zi 181, .ref 99, .none, .none, .none, .none, zi 299, zi 17, cp 300],
  ⟨(.type "frame"), none, .plain, ⟨[(some (.ref 100)), (some (.ref 3)), (some (.ref 97)), none, (some (.str "rota.errors" 194)), none, (some (.ref 0))]⟩⟩,
  tu0,
  ⟨(.type "dict"), none, (.dict ⟨[en w "__module__" 301 (.str "rota.errors" 194), en w "__firstlineno__" 305 (.int 17 304), en w "__static_attributes__" 306 (.ref 102), en w "__doc__" 307 .none]⟩ 2), ⟨[]⟩⟩,
  ⟨(.type "type"), none, (.cls ⟨"BadLine", [.ref 31], [.ref 104, .ref 31, (.type "ValueError"), (.type "Exception"), (.type "BaseException"), (.type "object")], 103, "BadLine", true, [], [], false, none, false⟩), ⟨[(some (.ref 95)), none, (some (.str "BadLine" 294)), (some (.str "BadLine" 302)), (some (.builtin "ValueError.__new__")), (some (.bool true))]⟩⟩,
  ⟨(.type "super"), none, (.fields ⟨[.ref 104, .ref 104, .ref 104]⟩), ⟨[]⟩⟩,
  ⟨(.type "builtin_function_or_method"), none, (.fields ⟨[(.builtin "object.__init_subclass__"), .ref 104]⟩), ⟨[]⟩⟩,
  tu0,
  fl0,
  tu [.str "thing" 319],
  tu0,
  fo' (fd (tF05 12) "is_whole" "is_whole" .none .none .none .none .none .none 0 0),
  co [.str "is_whole" 316, .str "is_whole" 317, cp 318, zi 22, zi 1, zi 0, zi 0, zi 3, .ref 107, .bool true, zi 181, .ref 108, .none, .ref 109, .ref 110, .ref 111, zi 320, zi 22, cp 321],
  fo (fd (tF05 12) "is_whole" "is_whole" .none .none .none (.str "rota.hours" 310) (.ref 112) .none 3 0),
  tu0,
  fl0,
  tu [.str "pair" 326],
  tu0,
  fo' (fd (tF05 13) "is_stretch" "is_stretch" .none .none .none .none .none .none 0 0),
  co [.str "is_stretch" 323, .str "is_stretch" 324, cp 325, zi 24, zi 1, zi 0, zi 0, zi 3, .ref 114, .bool true, zi 181, .ref 115, .none, .ref 116, .ref 117, .ref 118, zi 327, zi 24, cp 328],
  fo (fd (tF05 13) "is_stretch" "is_stretch" .none .none .none (.str "rota.hours" 310) (.ref 119) .none 3 0),
  tu0,
  fl0,
  tu [.str "stretch" 333],
  tu0,
  fo' (fd (tF05 14) "day_of" "day_of" .none .none .none .none .none .none 0 0),
  co [.str "day_of" 330, .str "day_of" 331, cp 332, zi 28, zi 1, zi 0, zi 0, zi 3, .ref 121, .bool true, zi 181, .ref 122, .none, .ref 123, .ref 124, .ref 125, zi 334, zi 28, cp 335],
  fo (fd (tF05 14) "day_of" "day_of" .none .none .none (.str "rota.hours" 310) (.ref 126) .none 3 0),
  tu0,
  fl0,
  tu [.str "stretch" 340],
  tu0,
  fo' (fd (tF05 15) "in_one_day" "in_one_day" .none .none .none .none .none .none 0 0),
  co [.str "in_one_day" 337, .str "in_one_day" 338, cp 339, zi 30, zi 1, zi 0, zi 0, zi 3, .ref 128, .bool true, zi 181, .ref 129, .none, .ref 130, .ref 131, .ref 132, zi 341, zi 30, cp 342],
  fo (fd (tF05 15) "in_one_day" "in_one_day" .none .none .none (.str "rota.hours" 310) (.ref 133) .none 3 0),
  tu0,
  fl0,
  tu [.str "text" 351, .str "sign" 352],
  tu0,
  fo' (fd (tF05 18) "is_name" "is_name" .none .none .none .none .none .none 0 0),
  co [.str "is_name" 348, .str "is_name" 349, cp 350, zi 34, zi 1, zi 0, zi 0, zi 3, .ref 135, .bool true, zi 181, .ref 136, .none, .ref 137, .ref 138, .ref 139, zi 353, zi 34, cp 354],
  fo (fd (tF05 18) "is_name" "is_name" .none .none .none (.str "rota.names" 344) (.ref 140) .none 3 0),
  tu0,
  ⟨(.type "builtin_function_or_method"), none, (.fields ⟨[(.builtin "type.__prepare__"), (.type "type")]⟩), ⟨[]⟩⟩,
  ⟨(.type "dict"), none, (.dict ⟨[en w "__module__" 369 (.str "rota.book" 356), en w "__qualname__" 371 (.str "Person" 370), en w "__firstlineno__" 373 (.int 44 372), en w "__init__" 382 (.ref 155), en w "__static_attributes__" 386 (.ref 156)]⟩ 5), ⟨[]⟩⟩,
  tu0,
  ⟨.none, none, (.fields ⟨[zi 46, zi 4, .ref 154]⟩), ⟨[]⟩⟩,
  co [.str "Person" 364, .str "Person" 365, cp 366, zi 44, zi 0, zi 0, zi 0, zi 0, .ref 145, .bool false, zi 181, .ref 146, .none, .none, .none, .none, zi 367, zi 44, cp 368],
  ⟨(.type "frame"), none, .plain, ⟨[(some (.ref 147)), (some (.ref 3)), (some (.ref 144)), none, (some (.str "rota.book" 356)), none, (some (.ref 0))]⟩⟩,
  tu0,
  fl0,
  tu [.str "self" 377, .str "skills" 378, .str "limit" 379],
  tu0,
  fo' (fd (iF05 22 0) "__init__" "Person.__init__" .none .none .none .none .none .none 0 0),
  co [.str "__init__" 374, .str "Person.__init__" 375, cp 376, zi 46, zi 3, zi 0, zi 0, zi 3, .ref 149, .bool true, zi 181, .ref 150, .none, .ref 151, .ref 152, .ref 153, zi 380, zi 46, cp 381],
  fo (fd (iF05 22 0) "__init__" "Person.__init__" .none .none .none (.str "rota.book" 356) (.ref 154) .none 3 0),
  tu [.str "away" 383, .str "limit" 384, .str "skills" 385],
  ⟨(.type "dict"), none, (.dict ⟨[en w "__module__" 369 (.str "rota.book" 356), en w "__firstlineno__" 373 (.int 44 372), en w "__init__" 382 (.ref 155), en w "__static_attributes__" 386 (.ref 156), en w "__dict__" 388 (.ref 159), en w "__weakref__" 390 (.ref 160), en w "__doc__" 391 .none]⟩ 4), ⟨[]⟩⟩,
  ⟨(.type "type"), none, (.cls ⟨"Person", [(.type "object")], [.ref 158, (.type "object")], 157, "Person", true, [], [], false, none, false⟩), ⟨[none, none, (some (.str "Person" 362)), (some (.str "Person" 370)), (some (.builtin "object.__new__")), (some (.bool true))]⟩⟩,
  ⟨(.type "getset_descriptor"), none, (.fields ⟨[.str "__dict__" 387, .ref 158, (.builtin "function.__dict__"), (.builtin "function.__dict__#set")]⟩), ⟨[]⟩⟩,
  ⟨(.type "getset_descriptor"), none, (.fields ⟨[.str "__weakref__" 389, .ref 158, (.builtin "ExceptionGroup.__weakref__"), .none]⟩), ⟨[]⟩⟩,
  ⟨(.type "super"), none, (.fields ⟨[.ref 158, .ref 158, .ref 158]⟩), ⟨[]⟩⟩,
  ⟨(.type "builtin_function_or_method"), none, (.fields ⟨[(.builtin "object.__init_subclass__"), .ref 158]⟩), ⟨[]⟩⟩,
  tu0,
  ⟨(.type "builtin_function_or_method"), none, (.fields ⟨[(.builtin "type.__prepare__"), (.type "type")]⟩), ⟨[]⟩⟩,
  ⟨(.type "dict"), none, (.dict ⟨[en w "__module__" 401 (.str "rota.book" 356), en w "__qualname__" 403 (.str "Shift" 402), en w "__firstlineno__" 405 (.int 50 404), en w "__init__" 414 (.ref 176), en w "__static_attributes__" 417 (.ref 177)]⟩ 5), ⟨[]⟩⟩,
  tu0,
  ⟨.none, none, (.fields ⟨[zi 52, zi 4, .ref 175]⟩), ⟨[]⟩⟩,
  co [.str "Shift" 396, .str "Shift" 397, cp 398, zi 50, zi 0, zi 0, zi 0, zi 0, .ref 166, .bool false, zi 181, .ref 167, .none, .none, .none, .none, zi 399, zi 50, cp 400],
  ⟨(.type "frame"), none, .plain, ⟨[(some (.ref 168)), (some (.ref 3)), (some (.ref 165)), none, (some (.str "rota.book" 356)), none, (some (.ref 0))]⟩⟩,
  tu0,
  fl0,
  tu [.str "self" 409, .str "hours" 410, .str "needs" 411],
  tu0,
  fo' (fd (iF05 23 0) "__init__" "Shift.__init__" .none .none .none .none .none .none 0 0),
  co [.str "__init__" 406, .str "Shift.__init__" 407, cp 408, zi 52, zi 3, zi 0, zi 0, zi 3, .ref 170, .bool true, zi 181, .ref 171, .none, .ref 172, .ref 173, .ref 174, zi 412, zi 52, cp 413],
  fo (fd (iF05 23 0) "__init__" "Shift.__init__" .none .none .none (.str "rota.book" 356) (.ref 175) .none 3 0),
  tu [.str "hours" 415, .str "needs" 416],
  ⟨(.type "dict"), none, (.dict ⟨[en w "__module__" 401 (.str "rota.book" 356), en w "__firstlineno__" 405 (.int 50 404), en w "__init__" 414 (.ref 176), en w "__static_attributes__" 417 (.ref 177), en w "__dict__" 419 (.ref 180), en w "__weakref__" 421 (.ref 181), en w "__doc__" 422 .none]⟩ 4), ⟨[]⟩⟩,
  ⟨(.type "type"), none, (.cls ⟨"Shift", [(.type "object")], [.ref 179, (.type "object")], 178, "Shift", true, [], [], false, none, false⟩), ⟨[none, none, (some (.str "Shift" 394)), (some (.str "Shift" 402)), (some (.builtin "object.__new__")), (some (.bool true))]⟩⟩,
  ⟨(.type "getset_descriptor"), none, (.fields ⟨[.str "__dict__" 418, .ref 179, (.builtin "function.__dict__"), (.builtin "function.__dict__#set")]⟩), ⟨[]⟩⟩,
  ⟨(.type "getset_descriptor"), none, (.fields ⟨[.str "__weakref__" 420, .ref 179, (.builtin "ExceptionGroup.__weakref__"), .none]⟩), ⟨[]⟩⟩,
  ⟨(.type "super"), none, (.fields ⟨[.ref 179, .ref 179, .ref 179]⟩), ⟨[]⟩⟩,
  ⟨(.type "builtin_function_or_method"), none, (.fields ⟨[(.builtin "object.__init_subclass__"), .ref 179]⟩), ⟨[]⟩⟩,
  tu0,
  fl0,
  tu [.str "skills" 428, .str "seen" 429, .str "skill" 430],
  tu0,
  fo' (fd (tF05 24) "checked_skills" "checked_skills" .none .none .none .none .none .none 0 0),
  co [.str "checked_skills" 425, .str "checked_skills" 426, cp 427, zi 55, zi 1, zi 0, zi 0, zi 3, .ref 184, .bool true, zi 181, .ref 185, .none, .ref 186, .ref 187, .ref 188, zi 431, zi 55, cp 432],
  fo (fd (tF05 24) "checked_skills" "checked_skills" .none .none .none (.str "rota.book" 356) (.ref 189) .none 3 0),
  tu0,
  fl0,
  tu [.str "needs" 437, .str "seen" 438, .str "found" 439, .str "skill" 440, .str "count" 441],
  tu0,
  fo' (fd (tF05 25) "checked_needs" "checked_needs" .none .none .none .none .none .none 0 0),
  co [.str "checked_needs" 434, .str "checked_needs" 435, cp 436, zi 64, zi 1, zi 0, zi 0, zi 3, .ref 191, .bool true, zi 181, .ref 192, .none, .ref 193, .ref 194, .ref 195, zi 442, zi 64, cp 443],
  fo (fd (tF05 25) "checked_needs" "checked_needs" .none .none .none (.str "rota.book" 356) (.ref 196) .none 3 0)]⟩ } }
noncomputable def thr05 (w : World) : Thread := thr PySem.Challenge.pw_uf030014_05 w 6000 26 ⟨64, 0, 76, 16⟩ { scope := Program.main PySem.Challenge.pw_uf030014_05 |>.scope, locals := mainNs, globals := mainNs, cells := [], code := .ref 13, frame := some 14 }
set_option maxRecDepth 100000 in
set_option maxHeartbeats 8000000 in
theorem boot05 : ∀ w, ((fencedOpening treeTable PySem.Challenge.pw_uf030014_05 w 6000).isSome && (s0 PySem.Challenge.pw_uf030014_05 w 6000).heap.isNs mainGlobals && (s0 PySem.Challenge.pw_uf030014_05 w 6000).gens.size == 0) = true := by
  intro w
  kernel_rfl
set_option maxRecDepth 100000 in
set_option maxHeartbeats 8000000 in
theorem halfS05 : ∀ w, (topN treeTable PySem.Challenge.pw_uf030014_05 w (s0 PySem.Challenge.pw_uf030014_05 w 6000).heap.objs.size (ann0 PySem.Challenge.pw_uf030014_05 w 6000) 2245 (s0 PySem.Challenge.pw_uf030014_05 w 6000) (topStub PySem.Challenge.pw_uf030014_05)).map (fun x => x.1) = some (lit05 w) := by
  intro w
  kernel_rfl
set_option maxRecDepth 100000 in
set_option maxHeartbeats 8000000 in
theorem halfT05 : ∀ w, (topN treeTable PySem.Challenge.pw_uf030014_05 w (s0 PySem.Challenge.pw_uf030014_05 w 6000).heap.objs.size (ann0 PySem.Challenge.pw_uf030014_05 w 6000) 2245 (s0 PySem.Challenge.pw_uf030014_05 w 6000) (topStub PySem.Challenge.pw_uf030014_05)).map (fun x => x.2) = some (thr05 w) := by
  intro w
  kernel_rfl
set_option maxRecDepth 100000 in
set_option maxHeartbeats 8000000 in
theorem base05 : ∀ w, (ends PySem.Challenge.pw_uf030014_05 w 6000 3755 (lit05 w) (thr05 w)).map (fun s => (openSeen q05 [] (importedModules (Program.main PySem.Challenge.pw_uf030014_05).body) (xtOf PySem.Challenge.rw_uf030014_05 q05) true s, ())) = some (openGood q05 [], ()) := by
  intro w
  kernel_rfl
set_option maxRecDepth 100000 in
set_option maxHeartbeats 8000000 in
theorem fit05 : ∀ w, (ends PySem.Challenge.pw_uf030014_05 w 6000 3755 (lit05 w) (thr05 w)).map (fun s => fitB (fragAt 600 s.heap) tx05.T tx05.G tx05.src) = some true := by
  intro w
  kernel_rfl
set_option maxRecDepth 100000 in
set_option maxHeartbeats 8000000 in
theorem body05 : ∀ w, (ends PySem.Challenge.pw_uf030014_05 w 6000 3755 (lit05 w) (thr05 w)).map (fun s => (tx05.ask (fragAt 600 s.heap)).2) = some tx05.said.2 := by
  intro w
  kernel_rfl
open PySem PyProof.Rows
set_option autoImplicit false
set_option linter.unusedVariables false
theorem no_some {α : Type} {x : α} {P : Prop} (h : (none : Option α) = some x) : P := nomatch h
theorem no_tf {P : Prop} (h : false = true) : P := nomatch h
theorem y2_2 {A0 A1 : Sort _} {q : Prop} {p0 p1 : A0 → A1 → Prop} {G : Prop} (h : q ∧ ∃ a b, p0 a b ∧ p1 a b) (k : q → ∀ a b, p0 a b → p1 a b → G) : G := by
  obtain ⟨h0, a, b, h1, h2⟩ := h; exact k h0 a b h1 h2
theorem w4 {p1 p2 p3 p4 G : Prop} (h : ((p1 ∧ p2) ∧ p3) ∧ p4) (k : p1 → p2 → p3 → p4 → G) : G := by
  obtain ⟨⟨⟨h1, h2⟩, h3⟩, h4⟩ := h; exact k h1 h2 h3 h4
theorem w5 {p1 p2 p3 p4 p5 G : Prop} (h : (((p1 ∧ p2) ∧ p3) ∧ p4) ∧ p5) (k : p1 → p2 → p3 → p4 → p5 → G) : G := by
  obtain ⟨⟨⟨⟨h1, h2⟩, h3⟩, h4⟩, h5⟩ := h; exact k h1 h2 h3 h4 h5
theorem w6 {p1 p2 p3 p4 p5 p6 G : Prop} (h : ((((p1 ∧ p2) ∧ p3) ∧ p4) ∧ p5) ∧ p6) (k : p1 → p2 → p3 → p4 → p5 → p6 → G) : G := by
  obtain ⟨⟨⟨⟨⟨h1, h2⟩, h3⟩, h4⟩, h5⟩, h6⟩ := h; exact k h1 h2 h3 h4 h5 h6
theorem w12 {p1 p2 p3 p4 p5 p6 p7 p8 p9 p10 p11 p12 G : Prop} (h : ((((((((((p1 ∧ p2) ∧ p3) ∧ p4) ∧ p5) ∧ p6) ∧ p7) ∧ p8) ∧ p9) ∧ p10) ∧ p11) ∧ p12) (k : p1 → p2 → p3 → p4 → p5 → p6 → p7 → p8 → p9 → p10 → p11 → p12 → G) : G := by
  obtain ⟨⟨⟨⟨⟨⟨⟨⟨⟨⟨⟨h1, h2⟩, h3⟩, h4⟩, h5⟩, h6⟩, h7⟩, h8⟩, h9⟩, h10⟩, h11⟩, h12⟩ := h; exact k h1 h2 h3 h4 h5 h6 h7 h8 h9 h10 h11 h12
theorem y1_2 {A0 : Sort _} {q : Prop} {p0 p1 : A0 → Prop} {G : Prop} (h : q ∧ ∃ a, p0 a ∧ p1 a) (k : q → ∀ a, p0 a → p1 a → G) : G := by
  obtain ⟨h0, a, h1, h2⟩ := h; exact k h0 a h1 h2
theorem x0_3  {p0 p1 p2 : Prop} {G : Prop} (h : p0 ∧ p1 ∧ p2) (k : p0 → p1 → p2 → G) : G := by
  obtain ⟨h0, h1, h2⟩ := h; exact k h0 h1 h2
theorem x0_4  {p0 p1 p2 p3 : Prop} {G : Prop} (h : p0 ∧ p1 ∧ p2 ∧ p3) (k : p0 → p1 → p2 → p3 → G) : G := by
  obtain ⟨h0, h1, h2, h3⟩ := h; exact k h0 h1 h2 h3
theorem x0_6  {p0 p1 p2 p3 p4 p5 : Prop} {G : Prop} (h : p0 ∧ p1 ∧ p2 ∧ p3 ∧ p4 ∧ p5) (k : p0 → p1 → p2 → p3 → p4 → p5 → G) : G := by
  obtain ⟨h0, h1, h2, h3, h4, h5⟩ := h; exact k h0 h1 h2 h3 h4 h5
theorem x1_2 {A0 : Sort _} {p0 p1 : A0 → Prop} {G : Prop} (h : ∃ a0, p0 a0 ∧ p1 a0) (k : ∀ a0, p0 a0 → p1 a0 → G) : G := by
  obtain ⟨a0, h0, h1⟩ := h; exact k a0 h0 h1
theorem x1_3 {A0 : Sort _} {p0 p1 p2 : A0 → Prop} {G : Prop} (h : ∃ a0, p0 a0 ∧ p1 a0 ∧ p2 a0) (k : ∀ a0, p0 a0 → p1 a0 → p2 a0 → G) : G := by
  obtain ⟨a0, h0, h1, h2⟩ := h; exact k a0 h0 h1 h2
theorem x1_4 {A0 : Sort _} {p0 p1 p2 p3 : A0 → Prop} {G : Prop} (h : ∃ a0, p0 a0 ∧ p1 a0 ∧ p2 a0 ∧ p3 a0) (k : ∀ a0, p0 a0 → p1 a0 → p2 a0 → p3 a0 → G) : G := by
  obtain ⟨a0, h0, h1, h2, h3⟩ := h; exact k a0 h0 h1 h2 h3
theorem x1_5 {A0 : Sort _} {p0 p1 p2 p3 p4 : A0 → Prop} {G : Prop} (h : ∃ a0, p0 a0 ∧ p1 a0 ∧ p2 a0 ∧ p3 a0 ∧ p4 a0) (k : ∀ a0, p0 a0 → p1 a0 → p2 a0 → p3 a0 → p4 a0 → G) : G := by
  obtain ⟨a0, h0, h1, h2, h3, h4⟩ := h; exact k a0 h0 h1 h2 h3 h4
theorem x2_1 {A0 : Sort _} {A1 : Sort _} {p0 : A0 → A1 → Prop} {G : Prop} (h : ∃ a0 a1, p0 a0 a1) (k : ∀ a0 a1, p0 a0 a1 → G) : G := by
  obtain ⟨a0, a1, h0⟩ := h; exact k a0 a1 h0
theorem x2_2 {A0 : Sort _} {A1 : Sort _} {p0 p1 : A0 → A1 → Prop} {G : Prop} (h : ∃ a0 a1, p0 a0 a1 ∧ p1 a0 a1) (k : ∀ a0 a1, p0 a0 a1 → p1 a0 a1 → G) : G := by
  obtain ⟨a0, a1, h0, h1⟩ := h; exact k a0 a1 h0 h1
theorem x2_3 {A0 : Sort _} {A1 : Sort _} {p0 p1 p2 : A0 → A1 → Prop} {G : Prop} (h : ∃ a0 a1, p0 a0 a1 ∧ p1 a0 a1 ∧ p2 a0 a1) (k : ∀ a0 a1, p0 a0 a1 → p1 a0 a1 → p2 a0 a1 → G) : G := by
  obtain ⟨a0, a1, h0, h1, h2⟩ := h; exact k a0 a1 h0 h1 h2
theorem x2_4 {A0 : Sort _} {A1 : Sort _} {p0 p1 p2 p3 : A0 → A1 → Prop} {G : Prop} (h : ∃ a0 a1, p0 a0 a1 ∧ p1 a0 a1 ∧ p2 a0 a1 ∧ p3 a0 a1) (k : ∀ a0 a1, p0 a0 a1 → p1 a0 a1 → p2 a0 a1 → p3 a0 a1 → G) : G := by
  obtain ⟨a0, a1, h0, h1, h2, h3⟩ := h; exact k a0 a1 h0 h1 h2 h3
theorem x2_5 {A0 : Sort _} {A1 : Sort _} {p0 p1 p2 p3 p4 : A0 → A1 → Prop} {G : Prop} (h : ∃ a0 a1, p0 a0 a1 ∧ p1 a0 a1 ∧ p2 a0 a1 ∧ p3 a0 a1 ∧ p4 a0 a1) (k : ∀ a0 a1, p0 a0 a1 → p1 a0 a1 → p2 a0 a1 → p3 a0 a1 → p4 a0 a1 → G) : G := by
  obtain ⟨a0, a1, h0, h1, h2, h3, h4⟩ := h; exact k a0 a1 h0 h1 h2 h3 h4
theorem x2_6 {A0 : Sort _} {A1 : Sort _} {p0 p1 p2 p3 p4 p5 : A0 → A1 → Prop} {G : Prop} (h : ∃ a0 a1, p0 a0 a1 ∧ p1 a0 a1 ∧ p2 a0 a1 ∧ p3 a0 a1 ∧ p4 a0 a1 ∧ p5 a0 a1) (k : ∀ a0 a1, p0 a0 a1 → p1 a0 a1 → p2 a0 a1 → p3 a0 a1 → p4 a0 a1 → p5 a0 a1 → G) : G := by
  obtain ⟨a0, a1, h0, h1, h2, h3, h4, h5⟩ := h; exact k a0 a1 h0 h1 h2 h3 h4 h5
theorem x2_7 {A0 : Sort _} {A1 : Sort _} {p0 p1 p2 p3 p4 p5 p6 : A0 → A1 → Prop} {G : Prop} (h : ∃ a0 a1, p0 a0 a1 ∧ p1 a0 a1 ∧ p2 a0 a1 ∧ p3 a0 a1 ∧ p4 a0 a1 ∧ p5 a0 a1 ∧ p6 a0 a1) (k : ∀ a0 a1, p0 a0 a1 → p1 a0 a1 → p2 a0 a1 → p3 a0 a1 → p4 a0 a1 → p5 a0 a1 → p6 a0 a1 → G) : G := by
  obtain ⟨a0, a1, h0, h1, h2, h3, h4, h5, h6⟩ := h; exact k a0 a1 h0 h1 h2 h3 h4 h5 h6
theorem x3_2 {A0 : Sort _} {A1 : Sort _} {A2 : Sort _} {p0 p1 : A0 → A1 → A2 → Prop} {G : Prop} (h : ∃ a0 a1 a2, p0 a0 a1 a2 ∧ p1 a0 a1 a2) (k : ∀ a0 a1 a2, p0 a0 a1 a2 → p1 a0 a1 a2 → G) : G := by
  obtain ⟨a0, a1, a2, h0, h1⟩ := h; exact k a0 a1 a2 h0 h1
theorem x3_3 {A0 : Sort _} {A1 : Sort _} {A2 : Sort _} {p0 p1 p2 : A0 → A1 → A2 → Prop} {G : Prop} (h : ∃ a0 a1 a2, p0 a0 a1 a2 ∧ p1 a0 a1 a2 ∧ p2 a0 a1 a2) (k : ∀ a0 a1 a2, p0 a0 a1 a2 → p1 a0 a1 a2 → p2 a0 a1 a2 → G) : G := by
  obtain ⟨a0, a1, a2, h0, h1, h2⟩ := h; exact k a0 a1 a2 h0 h1 h2
theorem x3_4 {A0 : Sort _} {A1 : Sort _} {A2 : Sort _} {p0 p1 p2 p3 : A0 → A1 → A2 → Prop} {G : Prop} (h : ∃ a0 a1 a2, p0 a0 a1 a2 ∧ p1 a0 a1 a2 ∧ p2 a0 a1 a2 ∧ p3 a0 a1 a2) (k : ∀ a0 a1 a2, p0 a0 a1 a2 → p1 a0 a1 a2 → p2 a0 a1 a2 → p3 a0 a1 a2 → G) : G := by
  obtain ⟨a0, a1, a2, h0, h1, h2, h3⟩ := h; exact k a0 a1 a2 h0 h1 h2 h3
theorem x4_1 {A0 : Sort _} {A1 : Sort _} {A2 : Sort _} {A3 : Sort _} {p0 : A0 → A1 → A2 → A3 → Prop} {G : Prop} (h : ∃ a0 a1 a2 a3, p0 a0 a1 a2 a3) (k : ∀ a0 a1 a2 a3, p0 a0 a1 a2 a3 → G) : G := by
  obtain ⟨a0, a1, a2, a3, h0⟩ := h; exact k a0 a1 a2 a3 h0
theorem x4_2 {A0 : Sort _} {A1 : Sort _} {A2 : Sort _} {A3 : Sort _} {p0 p1 : A0 → A1 → A2 → A3 → Prop} {G : Prop} (h : ∃ a0 a1 a2 a3, p0 a0 a1 a2 a3 ∧ p1 a0 a1 a2 a3) (k : ∀ a0 a1 a2 a3, p0 a0 a1 a2 a3 → p1 a0 a1 a2 a3 → G) : G := by
  obtain ⟨a0, a1, a2, a3, h0, h1⟩ := h; exact k a0 a1 a2 a3 h0 h1
theorem x4_3 {A0 : Sort _} {A1 : Sort _} {A2 : Sort _} {A3 : Sort _} {p0 p1 p2 : A0 → A1 → A2 → A3 → Prop} {G : Prop} (h : ∃ a0 a1 a2 a3, p0 a0 a1 a2 a3 ∧ p1 a0 a1 a2 a3 ∧ p2 a0 a1 a2 a3) (k : ∀ a0 a1 a2 a3, p0 a0 a1 a2 a3 → p1 a0 a1 a2 a3 → p2 a0 a1 a2 a3 → G) : G := by
  obtain ⟨a0, a1, a2, a3, h0, h1, h2⟩ := h; exact k a0 a1 a2 a3 h0 h1 h2
theorem x4_4 {A0 : Sort _} {A1 : Sort _} {A2 : Sort _} {A3 : Sort _} {p0 p1 p2 p3 : A0 → A1 → A2 → A3 → Prop} {G : Prop} (h : ∃ a0 a1 a2 a3, p0 a0 a1 a2 a3 ∧ p1 a0 a1 a2 a3 ∧ p2 a0 a1 a2 a3 ∧ p3 a0 a1 a2 a3) (k : ∀ a0 a1 a2 a3, p0 a0 a1 a2 a3 → p1 a0 a1 a2 a3 → p2 a0 a1 a2 a3 → p3 a0 a1 a2 a3 → G) : G := by
  obtain ⟨a0, a1, a2, a3, h0, h1, h2, h3⟩ := h; exact k a0 a1 a2 a3 h0 h1 h2 h3
theorem x4_5 {A0 : Sort _} {A1 : Sort _} {A2 : Sort _} {A3 : Sort _} {p0 p1 p2 p3 p4 : A0 → A1 → A2 → A3 → Prop} {G : Prop} (h : ∃ a0 a1 a2 a3, p0 a0 a1 a2 a3 ∧ p1 a0 a1 a2 a3 ∧ p2 a0 a1 a2 a3 ∧ p3 a0 a1 a2 a3 ∧ p4 a0 a1 a2 a3) (k : ∀ a0 a1 a2 a3, p0 a0 a1 a2 a3 → p1 a0 a1 a2 a3 → p2 a0 a1 a2 a3 → p3 a0 a1 a2 a3 → p4 a0 a1 a2 a3 → G) : G := by
  obtain ⟨a0, a1, a2, a3, h0, h1, h2, h3, h4⟩ := h; exact k a0 a1 a2 a3 h0 h1 h2 h3 h4
theorem x4_7 {A0 : Sort _} {A1 : Sort _} {A2 : Sort _} {A3 : Sort _} {p0 p1 p2 p3 p4 p5 p6 : A0 → A1 → A2 → A3 → Prop} {G : Prop} (h : ∃ a0 a1 a2 a3, p0 a0 a1 a2 a3 ∧ p1 a0 a1 a2 a3 ∧ p2 a0 a1 a2 a3 ∧ p3 a0 a1 a2 a3 ∧ p4 a0 a1 a2 a3 ∧ p5 a0 a1 a2 a3 ∧ p6 a0 a1 a2 a3) (k : ∀ a0 a1 a2 a3, p0 a0 a1 a2 a3 → p1 a0 a1 a2 a3 → p2 a0 a1 a2 a3 → p3 a0 a1 a2 a3 → p4 a0 a1 a2 a3 → p5 a0 a1 a2 a3 → p6 a0 a1 a2 a3 → G) : G := by
  obtain ⟨a0, a1, a2, a3, h0, h1, h2, h3, h4, h5, h6⟩ := h; exact k a0 a1 a2 a3 h0 h1 h2 h3 h4 h5 h6
theorem x5_6 {A0 : Sort _} {A1 : Sort _} {A2 : Sort _} {A3 : Sort _} {A4 : Sort _} {p0 p1 p2 p3 p4 p5 : A0 → A1 → A2 → A3 → A4 → Prop} {G : Prop} (h : ∃ a0 a1 a2 a3 a4, p0 a0 a1 a2 a3 a4 ∧ p1 a0 a1 a2 a3 a4 ∧ p2 a0 a1 a2 a3 a4 ∧ p3 a0 a1 a2 a3 a4 ∧ p4 a0 a1 a2 a3 a4 ∧ p5 a0 a1 a2 a3 a4) (k : ∀ a0 a1 a2 a3 a4, p0 a0 a1 a2 a3 a4 → p1 a0 a1 a2 a3 a4 → p2 a0 a1 a2 a3 a4 → p3 a0 a1 a2 a3 a4 → p4 a0 a1 a2 a3 a4 → p5 a0 a1 a2 a3 a4 → G) : G := by
  obtain ⟨a0, a1, a2, a3, a4, h0, h1, h2, h3, h4, h5⟩ := h; exact k a0 a1 a2 a3 a4 h0 h1 h2 h3 h4 h5
noncomputable abbrev Mp := List (Addr × Addr)
noncomputable def foot (M : Mp) (a : Addr) : Prop := ∃ p ∈ M, a = p.1 ∨ a = p.2
structure Wd where
  h : Heap
  M : Mp
  F : Addr → Prop
  X : Nat → Option Addr
noncomputable def IsExc (h : Heap) (a D : Addr) : Prop := ∃ o vs, h.get? a = some o ∧ o.cls = .ref D ∧ o.dict = none ∧ o.data = .fields vs
inductive VRel (w : Wd) : Value → AV → Prop
  | none : VRel w .none .none
  | bool (b : Bool) : VRel w (.bool b) (.bool b)
  | int (i : Int) (t : Tok) : VRel w (.int i t) (.int i)
  | str (x : Str) (t : Tok) (ok : PyData.strOk x = true) : VRel w (.str x t) (.str x)
  | tup {a : Addr} {vs : Array Value} {n : Nat} {xs : List AV} : IsT w.h a vs n → ¬ w.F a → vs.toList.length = xs.length → (∀ (i : Nat) v x, vs.toList[i]? = some v → xs[i]? = some x → VRel w v x) → VRel w (.ref a) (.tup xs)
  | lst {a : Addr} {vs : Array Value} {n : Nat} {xs : List AV} : IsL w.h a vs n → ¬ w.F a → vs.toList.length = xs.length → (∀ (i : Nat) v x, vs.toList[i]? = some v → xs[i]? = some x → VRel w v x) → VRel w (.ref a) (.lst xs)
  | ref {n : Nat} {p : Addr × Addr} : w.M[n]? = some p → VRel w (.ref p.1) (.ref n)
  | rng {r : Addr} {a b : Int} {t u v : Tok} : IsRange w.h r a b 1 t u v → ¬ w.F r → VRel w (.ref r) (.rng a b)
  | exc {a D : Addr} {c : Nat} : IsExc w.h a D → w.X c = some D → ¬ w.F a → VRel w (.ref a) (.exc c)
noncomputable def VRels (w : Wd) (vs : List Value) (xs : List AV) : Prop := vs.length = xs.length ∧ ∀ (i : Nat) v x, vs[i]? = some v → xs[i]? = some x → VRel w v x
noncomputable def VInv (w : Wd) (v : Value) : AV → Prop
  | .none => v = .none
  | .bool b => v = .bool b
  | .int i => ∃ t, v = .int i t
  | .str x => ∃ t, v = .str x t ∧ PyData.strOk x = true
  | .tup xs => ∃ a vs n, v = .ref a ∧ IsT w.h a vs n ∧ ¬ w.F a ∧ VRels w vs.toList xs
  | .lst xs => ∃ a vs n, v = .ref a ∧ IsL w.h a vs n ∧ ¬ w.F a ∧ VRels w vs.toList xs
  | .ref n => ∃ p : Addr × Addr, v = .ref p.1 ∧ w.M[n]? = some p
  | .rng a b => ∃ r t u x, v = .ref r ∧ IsRange w.h r a b 1 t u x ∧ ¬ w.F r
  | .exc c => ∃ a D, v = .ref a ∧ IsExc w.h a D ∧ w.X c = some D ∧ ¬ w.F a
theorem VRel.inv {w : Wd} {v : Value} {a : AV} (r : VRel w v a) : VInv w v a := match r with
  | .none => rfl
  | .bool _ => rfl
  | .int _ t => ⟨t, rfl⟩
  | .str _ t ok => ⟨t, rfl, ok⟩
  | .tup ho n e r => ⟨_, _, _, rfl, ho, n, e, r⟩
  | .lst ho n e r => ⟨_, _, _, rfl, ho, n, e, r⟩
  | .ref e => ⟨_, rfl, e⟩
  | .rng ho n => ⟨_, _, _, _, rfl, ho, n⟩
  | .exc e x n => ⟨_, _, rfl, e, x, n⟩
noncomputable def Held (o : Obj) : Prop := ((∃ xs n, o.data = .seq xs n) ∨ ∃ vs, o.data = .fields vs) ∧ ∀ T, o.cls = .type T → T = "tuple" ∨ T = "list" ∨ T = "range"
theorem Held.nd {o : Obj} (h : Held o) : ∀ es ep, o.data ≠ .dict es ep := fun _ _ q => by
  rcases h.1 with ⟨_, _, e⟩ | ⟨_, e⟩ <;> rw [q] at e <;> cases e
structure Kp (w w' : Wd) : Prop where
  keep : ∀ b o, w.h.get? b = some o → ¬ w.F b → Held o → w'.h.get? b = some o ∧ ¬ w'.F b
  pre : ∃ l, w'.M = w.M ++ l
  X : w'.X = w.X
theorem Kp.refl (w : Wd) : Kp w w := ⟨fun _ _ e n _ => ⟨e, n⟩, ⟨[], by simp⟩, rfl⟩
theorem Kp.trans {w w' w'' : Wd} (x : Kp w w') (y : Kp w' w'') : Kp w w'' :=
  ⟨fun b o e n h => let q := x.keep b o e n h; y.keep b o q.1 q.2 h, by
    obtain ⟨l, e⟩ := x.pre
    obtain ⟨l', e'⟩ := y.pre
    exact ⟨l ++ l', by rw [e', e, List.append_assoc]⟩, y.X.trans x.X⟩
theorem Kp.at {w w' : Wd} (k : Kp w w') {n : Nat} {p : Addr × Addr} (h : w.M[n]? = some p) : w'.M[n]? = some p := by
  obtain ⟨l, e⟩ := k.pre
  rw [e, List.getElem?_append_left (List.getElem?_eq_some_iff.mp h).1]; exact h
theorem Kp.heldT {w w' : Wd} (k : Kp w w') {a : Addr} {T : String} {d : Data} (hT : T = "tuple" ∨ T = "list" ∨ T = "range") (hd : (∃ xs n, d = .seq xs n) ∨ ∃ vs, d = .fields vs) (e : w.h.get? a = some { cls := .type T, dict := none, data := d, slots := #[] }) (n : ¬ w.F a) : w'.h.get? a = some { cls := .type T, dict := none, data := d, slots := #[] } ∧ ¬ w'.F a :=
  k.keep _ _ e n ⟨hd, fun _ q => by injection q with q; exact q ▸ hT⟩
theorem Kp.isExc {w w' : Wd} (k : Kp w w') {a D : Addr} (e : IsExc w.h a D) (n : ¬ w.F a) : IsExc w'.h a D ∧ ¬ w'.F a := by
  obtain ⟨o, vs, ho, hc, hn, hd⟩ := e
  have q := k.keep _ _ ho n ⟨.inr ⟨vs, hd⟩, fun _ q => by rw [hc] at q; cases q⟩
  exact ⟨⟨o, vs, q.1, hc, hn, hd⟩, q.2⟩
theorem VRel.keep {w w' : Wd} (k : Kp w w') {v : Value} {a : AV} (r : VRel w v a) : VRel w' v a := by
  induction r with
  | none => exact .none
  | bool b => exact .bool b
  | int i t => exact .int i t
  | str x t ok => exact .str x t ok
  | tup ho n e _ ih => have q := k.heldT (.inl rfl) (.inl ⟨_, _, rfl⟩) ho n; exact .tup q.1 q.2 e ih
  | lst ho n e _ ih => have q := k.heldT (.inr (.inl rfl)) (.inl ⟨_, _, rfl⟩) ho n; exact .lst q.1 q.2 e ih
  | ref e => exact .ref (k.at e)
  | rng ho n => have q := k.heldT (.inr (.inr rfl)) (.inr ⟨_, rfl⟩) ho n; exact .rng q.1 q.2
  | exc e x n => have q := k.isExc e n; exact .exc q.1 (k.X ▸ x) q.2
theorem VRels.keep {w w' : Wd} (k : Kp w w') {vs : List Value} {as : List AV} (r : VRels w vs as) : VRels w' vs as := ⟨r.1, fun i v x h1 h2 => (r.2 i v x h1 h2).keep k⟩
section
variable {w : Wd} {vs : List Value} {as : List AV}
theorem VRels.nil : VRels w [] [] := ⟨rfl, fun _ _ _ h => nomatch h⟩
theorem VRels.cons {v : Value} {a : AV} (x : VRel w v a) (r : VRels w vs as) : VRels w (v :: vs) (a :: as) :=
  ⟨congrArg (· + 1) r.1, fun i u y h1 h2 => match i, h1, h2 with
    | 0, h1, h2 => by cases h1; cases h2; exact x
    | i + 1, h1, h2 => r.2 i u y h1 h2⟩
theorem VRels.un {u : Value} {a : AV} (r : VRels w (u :: vs) (a :: as)) : VRel w u a ∧ VRels w vs as := ⟨r.2 0 _ _ rfl rfl, Nat.succ.inj r.1, fun i v x h1 h2 => r.2 (i + 1) v x h1 h2⟩
theorem VRels.size {vs : Array Value} (r : VRels w vs.toList as) : vs.size = as.length := r.1
theorem VRels.get (r : VRels w vs as) (i : Nat) {a : AV} (e : as[i]? = some a) : ∃ v, vs[i]? = some v ∧ VRel w v a := by
  have h := (List.getElem?_eq_some_iff.mp e).1
  rw [← r.1] at h
  exact ⟨_, List.getElem?_eq_getElem h, r.2 i _ _ (List.getElem?_eq_getElem h) e⟩
theorem VRels.append {us : List Value} {bs : List AV} (r : VRels w vs as) (s : VRels w us bs) : VRels w (vs ++ us) (as ++ bs) := by
  refine ⟨by rw [List.length_append, List.length_append, r.1, s.1], fun i v x h1 h2 => ?_⟩
  rw [List.getElem?_append] at h1 h2
  rw [← r.1] at h2
  split at h1
  · rename_i q; rw [if_pos q] at h2; exact r.2 i v x h1 h2
  · rename_i q; rw [if_neg q] at h2; exact s.2 _ v x h1 h2
theorem VRels.snoc {v : Value} {a : AV} (r : VRels w vs as) (x : VRel w v a) : VRels w (vs ++ [v]) (as ++ [a]) := r.append (.cons x .nil)
theorem VRels.pick (r : VRels w vs as) : ∀ is : List Nat, VRels w (is.filterMap fun i => vs[i]?) (is.filterMap fun i => as[i]?)
  | [] => .nil
  | i :: is => by
    simp only [List.filterMap_cons]
    cases q : as[i]? with
    | none =>
      have : vs[i]? = none := by
        rw [List.getElem?_eq_none_iff] at q ⊢
        rw [r.1]; exact q
      rw [this]
      exact r.pick is
    | some a =>
      obtain ⟨v, hv, rv⟩ := r.get i q
      rw [hv]
      exact .cons rv (r.pick is)
theorem VRels.set {v : Value} {a : AV} (x : VRel w v a) (r : VRels w vs as) (n : Nat) : VRels w (vs.set n v) (as.set n a) := by
  refine ⟨by rw [List.length_set, List.length_set, r.1], fun i u y h1 h2 => ?_⟩
  rw [List.getElem?_set] at h1 h2
  split at h1
  · rename_i q
    rw [if_pos q] at h2
    split at h1 <;> cases h1
    split at h2 <;> cases h2
    exact x
  · rename_i q; rw [if_neg q] at h2; exact r.2 i u y h1 h2
end
theorem strOk_iff {x : Str} : PyData.strOk x = true ↔ ∀ c ∈ x.cps.toList, c < 0x110000 := by
  unfold PyData.strOk
  rw [← Array.all_toList, List.all_eq_true]
  exact ⟨fun h c hc => of_decide_eq_true (h c hc), fun h c hc => decide_eq_true (h c hc)⟩
theorem strOk_append {x y : Str} (hx : PyData.strOk x = true) (hy : PyData.strOk y = true) : PyData.strOk (x ++ y) = true := by
  rw [strOk_iff] at *
  intro c hc
  rw [Str.cps_append] at hc
  simp only [Array.toList_append, List.mem_append] at hc
  exact hc.elim (hx c) (hy c)
theorem strOk_sub {x y : Str} (hx : PyData.strOk x = true) (h : ∀ c ∈ y.cps.toList, c ∈ x.cps.toList) : PyData.strOk y = true := by
  rw [strOk_iff] at *
  exact fun c hc => hx c (h c hc)
theorem le_t {a b c : Nat} (h : a ≤ b) (g : Nat.ble b c = true) : a ≤ c := Nat.le_trans h (Nat.le_of_ble_eq_true g)
theorem lt_t {a b c : Nat} (h : a ≤ b) (g : Nat.ble (b + 1) c = true) : a < c := Nat.lt_of_le_of_lt h (Nat.le_of_ble_eq_true g)
theorem m2 {a : Int} : a % 2 = 0 ∨ a % 2 = 1 := Int.emod_two_eq a
theorem m3 {a : Int} : a % 3 = 0 ∨ a % 3 = 1 ∨ a % 3 = 2 := by lia
open PySem PySem.W PyProof.Rows
noncomputable abbrev DE := RE → AH → Out AV
noncomputable abbrev FT := Nat → List AV → AH → Out AV
section
variable {α : Type}
noncomputable def asInt (a : AV) (k : Int → Out α) : Out α := match a with
  | .int i => k i
  | _ => .bad
noncomputable def asBool (a : AV) (k : Bool → Out α) : Out α := match a with
  | .bool b => k b
  | _ => .bad
noncomputable def asStr (a : AV) (k : Str → Out α) : Out α := match a with
  | .str x => k x
  | _ => .bad
noncomputable def orBad {β : Type} (o : Option β) (k : β → Out α) : Out α := match o with
  | some x => k x
  | none => .bad
end
noncomputable def lsOf (H : AH) : AV → Option (List AV)
  | .lst xs => some xs
  | .ref n => match H[n]? with
    | some (.lst xs) => some xs
    | _ => none
  | _ => none
noncomputable def dcOf (H : AH) : AV → Option (Nat × List (Key × AV))
  | .ref n => match H[n]? with
    | some (.dict es) => some (n, es)
    | some (.ldict es) => some (n, es)
    | _ => none
  | _ => none
noncomputable def inOf (H : AH) : AV → Option (Nat × Nat × List (Option AV))
  | .ref n => match H[n]? with
    | some (.inst c fs) => some (n, c, fs)
    | _ => none
  | _ => none
noncomputable def newL (mt : Bool) (xs : List AV) (H : AH) : Out AV := if mt then .ok (.ref H.length) (H ++ [.lst xs]) else .ok (.lst xs) H
noncomputable def keyOf : AV → Option Key
  | .str x => some (.str x)
  | .int i => some (.int i)
  | _ => none
noncomputable def Key.av : Key → AV
  | .str x => .str x
  | .int i => .int i
noncomputable def addA (mt : Bool) (a b : AV) (H : AH) : Out AV := match a with
  | .int i => asInt b fun j => .ok (.int (i + j)) H
  | .str x => asStr b fun y => if x.length + y.length ≤ sizeLine then .ok (.str (x ++ y)) H else .bad
  | a => orBad (lsOf H a) fun xs => orBad (lsOf H b) fun ys => if xs.length + ys.length ≤ sizeLine then newL mt (xs ++ ys) H else .bad
noncomputable def strRep (x : Str) (n : Int) : Str := ⟨((List.replicate n.toNat x.cps.toList).flatten).toArray⟩
noncomputable def mulA (a b : AV) (H : AH) : Out AV := asInt b fun j => match a with
  | .int i => if (-(2 ^ 64) < i ∧ i < 2 ^ 64) ∨ (-(2 ^ 64) < j ∧ j < 2 ^ 64) then .ok (.int (i * j)) H else .bad
  | .str x => if -1000 < j ∧ j < 1000 ∧ x.length < 1000 then .ok (.str (strRep x j)) H else .bad
  | _ => .bad
noncomputable def binA (mt : Bool) (op : Operator) (a b : AV) (H : AH) : Out AV := match op with
  | .Add => addA mt a b H
  | .Mult => mulA a b H
  | .Sub => asInt a fun i => asInt b fun j => .ok (.int (i - j)) H
  | .FloorDiv => asInt a fun i => asInt b fun j => if 0 < j ∧ j < 1073741824 then .ok (.int (i / j)) H else .bad
  | .Mod => asInt a fun i => asInt b fun j => if 0 < j ∧ j < 1073741824 then .ok (.int (i % j)) H else .bad
  | .Pow => asInt a fun i => asInt b fun j => if i = 10 ∧ j = 30 then .ok (.int 1000000000000000000000000000000) H else .bad
  | _ => .bad
noncomputable def denL (f : AV → Option PyData) : List AV → Option (List PyData)
  | [] => some []
  | a :: r => (f a).bind fun d => (denL f r).map (d :: ·)
noncomputable def den : Nat → AH → AV → Option PyData
  | 0, _, _ => none
  | n + 1, H, a => match a with
    | .none => some .none
    | .bool b => some (.bool b)
    | .int i => some (.int i)
    | .str x => some (.str x)
    | .tup xs => (denL (den n H) xs).map .tuple
    | .lst xs => (denL (den n H) xs).map .list
    | .ref r => match H[r]? with
      | some (.lst xs) => (denL (den n H) xs).map .list
      | _ => none
    | _ => none
noncomputable abbrev deep : Nat := 20
noncomputable def ltA : AV → AV → Option Bool
  | .int i, b => match b with
    | .int j => some (decide (i < j))
    | _ => none
  | .str x, b => match b with
    | .str y => some (decide (x.cps.toList < y.cps.toList))
    | _ => none
  | _, _ => none
noncomputable def leA : AV → AV → Option Bool
  | .int i, b => match b with
    | .int j => some (decide (i ≤ j))
    | _ => none
  | .str x, b => match b with
    | .str y => some (!decide (y.cps.toList < x.cps.toList))
    | _ => none
  | _, _ => none
noncomputable def eqA (H : AH) (a b : AV) : Option Bool := (den deep H a).bind fun x => (den deep H b).map fun y => PyData.eqv x y
noncomputable def AV.isBool (y : Bool) : AV → Bool
  | .bool x => x == y
  | _ => false
noncomputable def isA (a : AV) : AV → Option Bool
  | .none => some a.isNone
  | .bool y => some (a.isBool y)
  | _ => none
noncomputable def inStr (a b : AV) : Option Bool := match a with
  | .str x => match b with
    | .str y => some (Txt.contains y x)
    | _ => none
  | _ => none
noncomputable def inA (H : AH) (a b : AV) : Option Bool := match dcOf H b with
  | some (_, es) => (keyOf a).map fun k => es.any fun e => decide (e.1 = k)
  | none => match lsOf H b with
    | some xs => (den deep H a).bind fun d => (denL (den deep H) xs).map fun ds => ds.any fun y => PyData.eqv y d
    | none => inStr a b
noncomputable def cmpA (H : AH) (op : CmpOp) (a b : AV) : Option Bool := match op with
  | .Lt => ltA a b
  | .LtE => leA a b
  | .Gt => ltA b a
  | .GtE => leA b a
  | .Eq => eqA H a b
  | .NotEq => (eqA H a b).map (!·)
  | .Is => isA a b
  | .IsNot => (isA a b).map (!·)
  | .In => inA H a b
  | .NotIn => (inA H a b).map (!·)
noncomputable def idxA (k : Int) (n : Nat) : Option Nat := if 0 ≤ k then (if k < n then some k.toNat else none) else if 0 ≤ k + n then some (k + n).toNat else none
noncomputable def small (k : Int) : Bool := decide (-(2 ^ 62 : Int) < k) && decide (k < 2 ^ 62)
noncomputable def atA (k : Int) (xs : List AV) : Option AV := if small k then (idxA k xs.length).bind fun n => xs[n]? else none
noncomputable def subA (a i : AV) (H : AH) : Out AV := match dcOf H a with
  | some (_, es) => orBad (keyOf i) fun k => orBad (es.lookup k) fun v => .ok v H
  | none => asInt i fun k => match a with
    | .tup xs => orBad (atA k xs) fun v => .ok v H
    | .str x => if small k then orBad ((idxA k x.length).bind fun n => x.cps[n]?) fun c => .ok (.str ⟨#[c]⟩) H else .bad
    | a => orBad (lsOf H a) fun xs => orBad (atA k xs) fun v => .ok v H
noncomputable def optI : AV → Option (Option Int)
  | .none => some none
  | .int k => if small k then some (some k) else none
  | _ => none
noncomputable def slcA (mt : Bool) (a lo hi st : AV) (H : AH) : Out AV := orBad (optI lo) fun l => orBad (optI hi) fun u => if st.isNone then (match a with
  | .str x => if x.length ≤ sizeLine then .ok (.str ⟨(cut x.cps.toList l u).toArray⟩) H else .bad
  | a => orBad (lsOf H a) fun xs => if xs.length ≤ sizeLine then newL mt (cut xs l u) H else .bad) else .bad
noncomputable def signs (x : Str) : List AV := x.cps.toList.map fun c => .str ⟨#[c]⟩
noncomputable def span (a b : Int) : List AV := (List.range (b - a).toNat).map fun (k : Nat) => .int (a + k)
inductive Src where
  | seq (xs : List AV)
  | lref (n : Nat)
noncomputable def srcOf (H : AH) : AV → Option (Src × Nat × Option Nat)
  | .lst xs => some (.seq xs, xs.length, none)
  | .str x => some (.seq (signs x), x.length, none)
  | .rng a b => if small a && small b then some (.seq (span a b), (b - a).toNat, none) else none
  | .ref n => match H[n]? with
    | some (.lst xs) => some (.lref n, xs.length, none)
    | some (.dict es) => some (.seq (es.map (·.1.av)), es.length, some n)
    | _ => none
  | _ => none
noncomputable def itemAt (H : AH) : Src → Nat → Option (Option AV)
  | .seq xs, k => some xs[k]?
  | .lref n, k => match H[n]? with
    | some (.lst xs) => some xs[k]?
    | _ => none
noncomputable def lockH (l : Option Nat) (H : AH) : AH := match l with
  | none => H
  | some n => match H[n]? with
    | some (.dict es) => H.set n (.ldict es)
    | _ => H
noncomputable def cstE (a : AV) : DE := fun _ H => .ok a H
noncomputable def badE : DE := fun _ _ => .bad
noncomputable def varE (i : Nat) : DE := fun ρ H => match ρ[i]? with
  | some (some a) => .ok a H
  | _ => .bad
noncomputable def binE (mt : Bool) (op : Operator) (l r : DE) : DE := fun ρ H => (l ρ H).bind fun a H₁ => (r ρ H₁).bind fun b H₂ => binA mt op a b H₂
noncomputable def negE (e : DE) : DE := fun ρ H => (e ρ H).bind fun a H₁ => asInt a fun i => .ok (.int (-i)) H₁
noncomputable def ntE (e : DE) : DE := fun ρ H => (e ρ H).bind fun a H₁ => asBool a fun b => .ok (.bool (!b)) H₁
noncomputable def bopE (k : Bool) : List DE → DE
  | [] => badE
  | [e] => e
  | e :: r => fun ρ H => (e ρ H).bind fun a H₁ => asBool a fun b => if b = k then bopE k r ρ H₁ else .ok (.bool b) H₁
noncomputable def chainE (a : AV) : List CmpOp → List DE → DE
  | [op], [e] => fun ρ H => (e ρ H).bind fun b H₁ => orBad (cmpA H₁ op a b) fun c => .ok (.bool c) H₁
  | op :: ops, e :: r => fun ρ H => (e ρ H).bind fun b H₁ => orBad (cmpA H₁ op a b) fun c => if c then chainE b ops r ρ H₁ else .ok (.bool false) H₁
  | _, _ => badE
noncomputable def cmpE (l : DE) (ops : List CmpOp) (rs : List DE) : DE := fun ρ H => (l ρ H).bind fun a H₁ => chainE a ops rs ρ H₁
noncomputable def evL : List DE → RE → AH → Out (List AV)
  | [], _, H => .ok [] H
  | e :: r, ρ, H => (e ρ H).bind fun a H₁ => (evL r ρ H₁).bind fun as H₂ => .ok (a :: as) H₂
noncomputable def subE (e i : DE) : DE := fun ρ H => (e ρ H).bind fun a H₁ => (i ρ H₁).bind fun b H₂ => subA a b H₂
noncomputable def slcE (mt : Bool) (e lo hi st : DE) : DE := fun ρ H => (e ρ H).bind fun a H₁ => (lo ρ H₁).bind fun l H₂ => (hi ρ H₂).bind fun u H₃ => (st ρ H₃).bind fun t H₄ => slcA mt a l u t H₄
noncomputable def lstE (mt : Bool) (es : List DE) : DE := fun ρ H => (evL es ρ H).bind fun as H₁ => if as.length ≤ sizeLine then newL mt as H₁ else .bad
noncomputable def tupE (es : List DE) : DE := fun ρ H => (evL es ρ H).bind fun as H₁ => if as.length ≤ sizeLine then .ok (.tup as) H₁ else .bad
noncomputable def ifeE (t a b : DE) : DE := fun ρ H => (t ρ H).bind fun c H₁ => asBool c fun c => if c then a ρ H₁ else b ρ H₁
noncomputable def callE (Φ : FT) (f : Nat) (es : List DE) : DE := fun ρ H => (evL es ρ H).bind fun as H₁ => Φ f as H₁
noncomputable def Out.calm {α : Type} : Out α → Out α
  | .exc _ _ => .bad
  | o => o
noncomputable def compL (T E : AV → AH → Out AV) (src : Src) : Nat → Nat → List AV → AH → Out (List AV)
  | n, k, acc, H => match itemAt H src k with
    | none => .bad
    | some none => .ok acc H
    | some (some v) => match n with
      | 0 => .bad
      | n + 1 => (T v H).bind fun c H₁ => asBool c fun c => if c then (E v H₁).bind fun a H₂ => compL T E src n (k + 1) (acc ++ [a]) H₂ else compL T E src n (k + 1) acc H₁
noncomputable def compE (hot mt : Bool) (elt it cond : DE) : DE := fun ρ H => (it ρ H).bind fun a H₁ => orBad (srcOf H₁ a) fun s =>
  if hot = false ∧ s.2.1 ≤ 1000000 then (compL (fun v => cond (ρ ++ [some v])) (fun v => elt (ρ ++ [some v])) s.1 s.2.1 0 [] (lockH s.2.2 H₁)).calm.bind fun ys H₂ => newL mt ys (freeH s.2.2 H₂) else .bad
inductive Bi where
  | len | range | list (mt : Bool) | min | max | sum | int | sorted
noncomputable def lenA (H : AH) : AV → Option Nat
  | .str x => some x.length
  | .tup xs => some xs.length
  | .lst xs => some xs.length
  | .ref n => match H[n]? with
    | some (.lst xs) => some xs.length
    | some (.dict es) => some es.length
    | _ => none
  | _ => none
noncomputable def intsOf : List AV → Option (List Int)
  | [] => some []
  | .int i :: r => (intsOf r).map (i :: ·)
  | _ => none
noncomputable def insI (i : Int) : List Int → List Int
  | [] => [i]
  | j :: r => if i ≤ j then i :: j :: r else j :: insI i r
noncomputable def sortI : List Int → List Int
  | [] => []
  | i :: r => insI i (sortI r)
noncomputable def biA (hot : Bool) (f : Bi) (as : List AV) (H : AH) : Out AV := match as with
  | [a] => match f with
    | .len => orBad (lenA H a) fun n => if n < 2 ^ 62 then .ok (.int n) H else .bad
    | .range => asInt a fun n => .ok (.rng 0 n) H
    | .list mt => match dcOf H a with
      | some (_, es) => if !hot && decide (es.length ≤ 1000000) then newL mt (es.map (·.1.av)) H else .bad
      | none => orBad (lsOf H a) fun xs => if xs.length ≤ sizeLine then newL mt xs H else .bad
    | .sum => orBad ((lsOf H a).bind intsOf) fun is => if hot then .bad else .ok (.int is.sum) H
    | .int => asBool a fun b => .ok (.int (if b then 1 else 0)) H
    | .sorted => match dcOf H a with
      | some (_, es) => orBad (intsOf (es.map (·.1.av))) fun is => if !hot && decide (is.length < 64) then .ok (.lst ((sortI is).map .int)) H else .bad
      | none => .bad
    | _ => .bad
  | [a, b] => asInt a fun i => asInt b fun j => match f with
    | .min => if hot then .bad else .ok (.int (if j < i then j else i)) H
    | .max => if hot then .bad else .ok (.int (if i < j then j else i)) H
    | .range => .ok (.rng i j) H
    | _ => .bad
  | _ => .bad
noncomputable def biE (hot : Bool) (f : Bi) (es : List DE) : DE := fun ρ H => (evL es ρ H).bind fun as H₁ => biA hot f as H₁
noncomputable def strsOf : List AV → Option (List Str)
  | [] => some []
  | .str x :: r => (strsOf r).map (x :: ·)
  | _ => none
noncomputable def setD (es : List (Key × AV)) (k : Key) (v : AV) : List (Key × AV) := if es.any (fun e => decide (e.1 = k)) then es.map (fun e => if e.1 = k then (e.1, v) else e) else es ++ [(k, v)]
noncomputable def setL (H : AH) (n : Nat) (xs : List AV) : AH := H.set n (.lst xs)
noncomputable def mlA (f : Bm) (n : Nat) (xs : List AV) (as : List AV) (H : AH) : Out AV := match f with
  | .append => match as with
    | [v] => .ok .none (setL H n (xs ++ [v]))
    | _ => .bad
  | .extend => match as with
    | [b] => match b with
      | .lst ys => if xs.length + ys.length ≤ 1000000 then .ok .none (setL H n (xs ++ ys)) else .bad
      | _ => .bad
    | _ => .bad
  | .clear => match as with
    | [] => .ok .none (setL H n [])
    | _ => .bad
  | _ => .bad
noncomputable def mdA (f : Bm) (n : Nat) (es : List (Key × AV)) (as : List AV) (H : AH) : Out AV := match as with
  | [a] => orBad (keyOf a) fun k => match f with
    | .get => .ok ((es.lookup k).getD .none) H
    | .pop => orBad (es.lookup k) fun v => .ok v (H.set n (.dict (es.filter fun e => decide (e.1 ≠ k))))
    | _ => .bad
  | _ => .bad
noncomputable def msA (f : Bm) (x : Str) (as : List AV) (H : AH) : Out AV := match as with
  | [a] => match f with
    | .join => orBad ((lsOf H a).bind strsOf) fun ys => if JoinOk x ys then .ok (.str (Txt.join x ys)) H else .bad
    | _ => .bad
  | _ => .bad
noncomputable def mbA (f : Bm) (o : AV) (as : List AV) (H : AH) : Out AV := match o with
  | .str x => msA f x as H
  | .ref n => match H[n]? with
    | some (.lst xs) => if xs.length ≤ 1000000 then mlA f n xs as H else .bad
    | some (.dict es) => if es.length ≤ 1000000 then mdA f n es as H else .bad
    | _ => .bad
  | _ => .bad
noncomputable def kindM (o : AV) (H : AH) : Nat := match o with
  | .str _ => 1
  | .ref n => match H[n]? with
    | some (.lst _) => 2
    | some (.dict _) => 3
    | _ => 0
  | _ => 0
noncomputable def bmId (k : Nat) (f : Bm) : Option String := match f with
  | .append => if k = 2 then some "list.append" else none
  | .extend => if k = 2 then some "list.extend" else none
  | .clear => if k = 2 then some "list.clear" else none
  | .get => if k = 3 then some "dict.get" else none
  | .pop => if k = 3 then some "dict.pop" else none
  | .join => if k = 1 then some "str.join" else none
noncomputable def mbE (f : Bm) (o : DE) (es : List DE) : DE := fun ρ H => (o ρ H).bind fun a H₁ => orBad (bmId (kindM a H₁) f) fun _ => (evL es ρ H₁).bind fun as H₂ => if kindM a H₁ = kindM a H₂ then mbA f a as H₂ else .bad
noncomputable def Gm.fn (G : Gm) (c m : Nat) : Option Nat := (G.mth[c]?).bind fun l => (l[m]?).bind id
noncomputable def moE (G : Gm) (Φ : FT) (m : Nat) (o : DE) (es : List DE) : DE := fun ρ H => (o ρ H).bind fun a H₁ => orBad (inOf H₁ a) fun i => orBad (G.fn i.2.1 m) fun f => (evL es ρ H₁).bind fun as H₂ => Φ f (a :: as) H₂
noncomputable def newE (G : Gm) (Φ : FT) (c : Nat) (es : List DE) : DE := fun ρ H => (evL es ρ H).bind fun as H₁ => orBad (G.fn c 0) fun f =>
  (Φ f (.ref H₁.length :: as) (H₁ ++ [.inst c (List.replicate G.na none)])).bind fun r H₂ => match r with
    | .none => .ok (.ref H₁.length) H₂
    | _ => .bad
noncomputable def attrE (k : Nat) (o : DE) : DE := fun ρ H => (o ρ H).bind fun a H₁ => orBad (inOf H₁ a) fun i => match i.2.2[k]? with
  | some (some v) => .ok v H₁
  | _ => .bad
noncomputable def dct0E : DE := fun _ H => .ok (.ref H.length) (H ++ [.dict []])
noncomputable def kdOf (H : AH) : AV → Option Kd
  | .none => some .none
  | .bool _ => some .bool
  | .int _ => some .int
  | .str _ => some .str
  | .tup _ => some .tup
  | .ref n => match H[n]? with
    | some (.lst _) => some .lst
    | _ => none
  | _ => none
noncomputable def isiA (G : Gm) (H : AH) (a : AV) (t : Ty) : Option Bool := match a with
  | .exc c => some (isX G c t)
  | a => (kdOf H a).map fun k => isK k t
noncomputable def isiAny (G : Gm) (H : AH) (a : AV) (ts : List Ty) : Option Bool := match ts with
  | [t] => isiA G H a t
  | _ => none
noncomputable def isiE (G : Gm) (e : DE) (ts : List Ty) : DE := fun ρ H => (e ρ H).bind fun a H₁ => orBad (isiAny G H₁ a ts) fun b => .ok (.bool b) H₁
noncomputable def Out.inS {α : Type} (o : Out α) (ρ : RE) (f : α → AH → OutS) : OutS := match o with
  | .ok a H => f a H
  | .exc c H => .exc c ρ H
  | .bad => .bad
noncomputable def orBadS {β : Type} (o : Option β) (k : β → OutS) : OutS := match o with
  | some x => k x
  | none => .bad
noncomputable def badS : DS := fun _ _ => .bad
noncomputable def exprS (e : DE) : DS := fun ρ H => (e ρ H).inS ρ fun _ H₁ => .next ρ H₁
inductive Tg where
  | one (i : Nat)
  | many (is : List Nat)
noncomputable def bindMany : List Nat → List AV → RE → Option RE
  | [], [], ρ => some ρ
  | i :: is, v :: vs, ρ => bindMany is vs (ρ.set i (some v))
  | _, _, _ => none
noncomputable def bindT (hot : Bool) (t : Tg) (v : AV) (ρ : RE) : Option RE := match t with
  | .one i => some (ρ.set i (some v))
  | .many is => if hot then none else match v with
    | .tup xs => bindMany is xs ρ
    | _ => none
noncomputable def assignS (hot : Bool) (t : Tg) (e : DE) : DS := fun ρ H => (e ρ H).inS ρ fun a H₁ => orBadS (bindT hot t a ρ) fun ρ₁ => .next ρ₁ H₁
noncomputable def setItemA (o i v : AV) (H : AH) : Option AH := match o with
  | .ref n => match H[n]? with
    | some (.lst xs) => match i with
      | .int k => if small k then (idxA k xs.length).map fun j => setL H n (xs.set j v) else none
      | _ => none
    | some (.dict es) => if es.length ≤ 1000000 then (keyOf i).map fun k => H.set n (.dict (setD es k v)) else none
    | _ => none
  | _ => none
noncomputable def dctF (f g f' g' : DE) (ρ : RE) (d : AV) (H : AH) : Out AV := (f ρ H).bind fun a H₁ => (g ρ H₁).bind fun b H₂ => (f' ρ H₂).bind fun a' H₃ => (g' ρ H₃).bind fun b' H₄ => if (dcOf H₄ d).isSome then orBad (setItemA d a b H₄) fun H₅ => if (dcOf H₅ d).isSome then orBad (setItemA d a' b' H₅) fun H₆ => .ok d H₆ else .bad else .bad
noncomputable def dct2E (f g f' g' : DE) : DE := fun ρ H => dctF f g f' g' ρ (.ref H.length) (H ++ [.dict []])
noncomputable def setItemS (o i e : DE) : DS := fun ρ H => (e ρ H).inS ρ fun v H₁ => (o ρ H₁).inS ρ fun a H₂ => (i ρ H₂).inS ρ fun k H₃ => orBadS (setItemA a k v H₃) fun H₄ => .next ρ H₄
noncomputable def setAttrS (k : Nat) (o e : DE) : DS := fun ρ H => (e ρ H).inS ρ fun v H₁ => (o ρ H₁).inS ρ fun a H₂ => orBadS (inOf H₂ a) fun i => if k < i.2.2.length then .next ρ (H₂.set i.1 (.inst i.2.1 (i.2.2.set k (some v)))) else .bad
noncomputable def augS (o i e : DE) : DS := fun ρ H => (o ρ H).inS ρ fun a H₁ => (i ρ H₁).inS ρ fun k H₂ => (subA a k H₂).inS ρ fun u H₃ => (e ρ H₃).inS ρ fun v H₄ => (asInt u fun x => asInt v fun y => .ok (.int (x + y)) H₄).inS ρ fun w H₅ => orBadS (setItemA a k w H₅) fun H₆ => .next ρ H₆
noncomputable def ifS (t : DE) (b o : DS) : DS := fun ρ H => (t ρ H).inS ρ fun a H₁ => match a with
  | .bool c => if c then b ρ H₁ else o ρ H₁
  | _ => .bad
noncomputable def retS (e : DE) : DS := fun ρ H => (e ρ H).inS ρ fun a H₁ => .ret a H₁
noncomputable def passS : DS := fun ρ H => .next ρ H
noncomputable def raiseS (hot : Bool) (c : Nat) : DS := fun ρ H => if hot then .bad else .exc c ρ H
noncomputable def seqS : List DS → DS
  | [] => passS
  | s :: r => fun ρ H => (s ρ H).then (seqS r)
noncomputable def loopS (B : AV → DS) (src : Src) : Nat → Nat → DS
  | n, k, ρ, H => match itemAt H src k with
    | none => .bad
    | some none => .next ρ H
    | some (some v) => match n with
      | 0 => .bad
      | n + 1 => (B v ρ H).then (loopS B src n (k + 1))
noncomputable def forS (hot : Bool) (t : Tg) (it : DE) (b : DS) : DS := fun ρ H => (it ρ H).inS ρ fun a H₁ => orBadS (srcOf H₁ a) fun s => if hot then .bad else (loopS (fun v ρ H => orBadS (bindT hot t v ρ) fun ρ₁ => b ρ₁ H) s.1 s.2.1 0 ρ (lockH s.2.2 H₁)).free s.2.2
noncomputable def OutS.calm : OutS → OutS
  | .exc _ _ _ => .bad
  | o => o
noncomputable def whileS (t : DE) (b : DS) : Nat → DS
  | 0, _, _ => .bad
  | n + 1, ρ, H => ((t ρ H).inS ρ fun a H₁ => match a with
    | .bool c => if c then (b ρ H₁).then (whileS t b n) else .next ρ H₁
    | _ => .bad).calm
noncomputable abbrev DH := Nat × Option Nat × DS
noncomputable def dropJ (j : Option Nat) : OutS → OutS
  | .next ρ H => .next (match j with | some j => ρ.set j none | none => ρ) H
  | .ret a H => .ret a H
  | _ => .bad
noncomputable def giveJ (ρ : RE) (c : Nat) : Option Nat → RE
  | none => ρ
  | some j => ρ.set j (some (.exc c))
noncomputable def handS (G : Gm) : List DH → Nat → DS
  | [], _, _, _ => .bad
  | (d, j, b) :: r, c, ρ, H => orBadS (G.up[c]?) fun l => if l.any fun x => decide (x = d) then dropJ j (b (giveJ ρ c j) H) else handS G r c ρ H
noncomputable def tryS (hot : Bool) (G : Gm) (b : DS) (hs : List DH) : DS := fun ρ H => if hot then .bad else match b ρ H with
  | .exc c ρ₁ H₁ => handS G hs c ρ₁ H₁
  | o => o
section
variable {H : AH} {n : Nat} {o : Option AO}
theorem lsOf_at (q : H[n]? = o) : lsOf H (.ref n) = (match (generalizing := false) o with | some (.lst xs) => some xs | _ => none) := by subst q; rfl
theorem dcOf_at (q : H[n]? = o) : dcOf H (.ref n) = (match (generalizing := false) o with | some (.dict es) => some (n, es) | some (.ldict es) => some (n, es) | _ => none) := by subst q; rfl
theorem inOf_at (q : H[n]? = o) : inOf H (.ref n) = (match (generalizing := false) o with | some (.inst c fs) => some (n, c, fs) | _ => none) := by subst q; rfl
theorem lenA_at (q : H[n]? = o) : lenA H (.ref n) = (match (generalizing := false) o with | some (.lst xs) => some xs.length | some (.dict es) => some es.length | _ => none) := by subst q; rfl
theorem srcOf_at (q : H[n]? = o) : srcOf H (.ref n) = (match (generalizing := false) o with | some (.lst xs) => some (.lref n, xs.length, none) | some (.dict es) => some (.seq (es.map (·.1.av)), es.length, some n) | _ => none) := by subst q; rfl
theorem kdOf_at (q : H[n]? = o) : kdOf H (.ref n) = (match (generalizing := false) o with | some (.lst _) => some .lst | _ => none) := by subst q; rfl
theorem den_at {m : Nat} (q : H[n]? = o) : den (m + 1) H (.ref n) = (match (generalizing := false) o with | some (.lst xs) => (denL (den m H) xs).map .list | _ => none) := by subst q; rfl
theorem setItemA_at {i v : AV} (q : H[n]? = o) : setItemA (.ref n) i v H = (match (generalizing := false) o with | some (.lst xs) => (match i with | .int k => if small k then (idxA k xs.length).map fun j => setL H n (xs.set j v) else none | _ => none) | some (.dict es) => if es.length ≤ 1000000 then (keyOf i).map fun k => H.set n (.dict (setD es k v)) else none | _ => none) := by subst q; rfl
theorem mb_at {f : Bm} {as : List AV} (q : H[n]? = o) : mbA f (.ref n) as H = (match (generalizing := false) o with | some (.lst xs) => if xs.length ≤ 1000000 then mlA f n xs as H else .bad | some (.dict es) => if es.length ≤ 1000000 then mdA f n es as H else .bad | _ => .bad) := by subst q; rfl
theorem mb_lst {f : Bm} {xs as : List AV} (h : H[n]? = some (.lst xs)) : mbA f (.ref n) as H = if xs.length ≤ 1000000 then mlA f n xs as H else .bad := mb_at h
end
noncomputable def Key.is : Key → Value → Bool
  | .str x, v => Value.isStrOf x v
  | .int i, v => Value.isInt i v
theorem Key.is_shape {k : Key} {v : Value} (h : k.is v = true) : (∃ x t, k = .str x ∧ v = .str x t) ∨ (∃ i t, k = .int i ∧ v = .int i t) := by
  cases k with
  | str x => obtain ⟨t, rfl⟩ := Value.isStrOf_shape h; exact .inl ⟨x, t, rfl, rfl⟩
  | int i => obtain ⟨t, rfl⟩ := Value.isInt_shape h; exact .inr ⟨i, t, rfl, rfl⟩
noncomputable def keyV : Value → Option Key
  | .str x _ => some (.str x)
  | .int i _ => some (.int i)
  | _ => none
theorem Key.of_v {k : Key} {v : Value} (h : k.is v = true) : keyV v = some k := by
  rcases Key.is_shape h with ⟨x, t, rfl, rfl⟩ | ⟨i, t, rfl, rfl⟩ <;> rfl
noncomputable def Key.hash (w : World) : Key → Int
  | .str x => hashStr w x
  | .int i => hashInt i
theorem key_strs {x y : Str} : decide (x = y) = decide (Key.str x = Key.str y) := decide_eq_decide.mpr ⟨congrArg _, Key.str.inj⟩
theorem key_ints {x y : Int} : (x == y) = decide (Key.int x = Key.int y) := by
  rw [Bool.eq_iff_iff, beq_iff_eq, decide_eq_true_eq, Key.int.injEq]
noncomputable def kk (prog : Program) (w : World) : KeyKind prog w Key where
  is := Key.is
  hash := Key.hash w
  inj := fun v a b ha hb => Option.some.inj ((Key.of_v ha).symm.trans (Key.of_v hb))
  byValue := fun k v h => by
    rcases Key.is_shape h with ⟨x, t, rfl, rfl⟩ | ⟨i, t, rfl, rfl⟩ <;> rfl
  pyHash := fun hv h => by
    rcases Key.is_shape hv with ⟨x, t, rfl, rfl⟩ | ⟨i, t, rfl, rfl⟩
    · exact wpAny_pyHash_str h
    · exact wpAny_pyHash_int h
  eqBool := fun {_ _ _ a b u v _} hu hv h => by
    rcases Key.is_shape hu with ⟨x, t, rfl, rfl⟩ | ⟨i, t, rfl, rfl⟩ <;> rcases Key.is_shape hv with ⟨y, u, rfl, rfl⟩ | ⟨j, u, rfl, rfl⟩
    · exact wpAny_eqBool_str (by rw [key_strs]; exact h)
    · exact SeqAt.EqAt.str_int x t j u prog w _ _ (by rw [decide_eq_false fun q => nomatch q] at h; exact h)
    · exact SeqAt.EqAt.int_str i t y u prog w _ _ (by rw [decide_eq_false fun q => nomatch q] at h; exact h)
    · exact wpAny_eqBool_int (by rw [key_ints]; exact h)
  «strs» := fun k x t v h => by
    rcases Key.is_shape h with ⟨y, u, rfl, e⟩ | ⟨i, u, rfl, e⟩
    · cases e; cases v <;> rfl
    · cases e
noncomputable abbrev Stat.M (S : Stat) : Model := model S.prog S.w
noncomputable def wdOf (S : Stat) (pv : List Addr × List Addr) (h : Heap) (M : Mp) : Wd := ⟨h, M, fun a => foot M a ∨ a ∈ pv.1, S.X⟩
noncomputable abbrev Cx.wd (C : Cx) (h : Heap) (M : Mp) : Wd := wdOf C.S C.pv h M
noncomputable def cnt (fs : List (Option AV)) : Nat := fs.countP (·.isSome)
noncomputable def FRel (w : Wd) (an : List Str) (es : List DictEntry) (fs : List (Option AV)) : Prop :=
  es.length = cnt fs ∧ fs.length = an.length ∧ (∀ x, x ∉ an → getL x es = some none) ∧ ∀ (k : Nat) x, an[k]? = some x → match fs[k]? with
    | some (some a) => ∃ v, getL x es = some (some v) ∧ VRel w v a
    | _ => getL x es = some none
noncomputable def DRel (S : Stat) (w : Wd) (a : Addr) (es : List (Key × AV)) : Prop := ∃ kvs : List (Key × Value), w.h.DictOf (kk S.prog S.w) a kvs ∧ kvs.map (·.1) = es.map (·.1) ∧ VRels w (kvs.map (·.2)) (es.map (·.2)) ∧ ∀ e ∈ es, e.1.ok = true
noncomputable def ORel (S : Stat) (w : Wd) (p : Addr × Addr) : AO → Prop
  | .lst xs => p.2 = p.1 ∧ ∃ vs n, IsL w.h p.1 vs n ∧ VRels w vs.toList xs
  | .dict es => p.2 = p.1 ∧ DRel S w p.1 es
  | .ldict es => p.2 = p.1 ∧ DRel S w p.1 es
  | .inst c fs => p.2 ≠ p.1 ∧ ∃ D es n, S.cl c = some D ∧ w.h.get? p.1 = some (instObj D p.2) ∧ w.h.get? p.2 = some (dictOf es n) ∧ FRel w S.an es fs
noncomputable def Apart (p q : Addr × Addr) : Prop := p.1 ≠ q.1 ∧ p.1 ≠ q.2 ∧ p.2 ≠ q.1 ∧ p.2 ≠ q.2
structure Rep (S : Stat) (pv : List Addr × List Addr) (h : Heap) (M : Mp) (H : AH) : Prop where
  len : M.length = H.length
  obj : ∀ (n : Nat) p ao, M[n]? = some p → H[n]? = some ao → ORel S (wdOf S pv h M) p ao
  apart : ∀ (i j : Nat) p q, M[i]? = some p → M[j]? = some q → i ≠ j → Apart p q
  held : ∀ (n : Nat) p, M[n]? = some p → p.1 ∈ pv.2 ∨ p.2 ∈ pv.2 → ∃ es, H[n]? = some (.ldict es)
  lkd : ∀ (n : Nat) p es, M[n]? = some p → H[n]? = some (.ldict es) → p.1 ∈ pv.2
theorem FRel.keep {w w' : Wd} {an : List Str} {es : List DictEntry} {fs : List (Option AV)} (k : Kp w w') (r : FRel w an es fs) : FRel w' an es fs := by
  refine ⟨r.1, r.2.1, r.2.2.1, fun i x hx => ?_⟩
  have := r.2.2.2 i x hx
  split at this
  · obtain ⟨v, h1, h2⟩ := this; exact ⟨v, h1, h2.keep k⟩
  · exact this
theorem DRel.keep {S : Stat} {w w' : Wd} {a : Addr} {es : List (Key × AV)} (r : DRel S w a es) (k : Kp w w') (h1 : w'.h.get? a = w.h.get? a) : DRel S w' a es := by
  obtain ⟨kvs, ⟨o, es', ep, ho, r⟩, hk, v, ok⟩ := r; exact ⟨kvs, ⟨o, es', ep, h1.trans ho, r⟩, hk, v.keep k, ok⟩
theorem ORel.keep {S : Stat} {w w' : Wd} {p : Addr × Addr} {ao : AO} (r : ORel S w p ao) (k : Kp w w') (h1 : w'.h.get? p.1 = w.h.get? p.1) (h2 : w'.h.get? p.2 = w.h.get? p.2) : ORel S w' p ao := by
  cases ao with
  | lst xs => obtain ⟨e, vs, n, ho, v⟩ := r; exact ⟨e, vs, n, h1.trans ho, v.keep k⟩
  | dict es => exact ⟨r.1, r.2.keep k h1⟩
  | ldict es => exact ⟨r.1, r.2.keep k h1⟩
  | inst c fs => obtain ⟨e, D, es, n, a, b, c, f⟩ := r; exact ⟨e, D, es, n, a, h1.trans b, h2.trans c, f.keep k⟩
theorem ORel.at {S : Stat} {w : Wd} {p : Addr × Addr} {ao : AO} (r : ORel S w p ao) : (∃ o, w.h.get? p.1 = some o) ∧ ∃ o, w.h.get? p.2 = some o := by
  cases ao with
  | lst xs => obtain ⟨e, vs, n, ho, v⟩ := r; exact ⟨⟨_, ho⟩, _, e ▸ ho⟩
  | dict es => obtain ⟨e, kvs, ⟨o, es', ep, ho, r⟩, _⟩ := r; exact ⟨⟨_, ho⟩, _, e ▸ ho⟩
  | ldict es => obtain ⟨e, kvs, ⟨o, es', ep, ho, r⟩, _⟩ := r; exact ⟨⟨_, ho⟩, _, e ▸ ho⟩
  | inst c fs => obtain ⟨e, D, es, n, a, b, c, f⟩ := r; exact ⟨⟨_, b⟩, _, c⟩
theorem ne_of {h : Heap} {x y : Addr} {o : Obj} (b : h.get? y = some o) (a : h.get? x = none) : y ≠ x := fun e => by rw [e, a] at b; cases b
theorem foot_at {M : Mp} {n : Nat} {p : Addr × Addr} (h : M[n]? = some p) : foot M p.1 ∧ foot M p.2 := ⟨⟨p, List.mem_of_getElem? h, .inl rfl⟩, p, List.mem_of_getElem? h, .inr rfl⟩
theorem of_foot {M : Mp} {a : Addr} (h : foot M a) : ∃ (n : Nat) (p : Addr × Addr), M[n]? = some p ∧ (a = p.1 ∨ a = p.2) := by
  refine x1_2 (h) fun p hp h => ?_
  obtain ⟨n, hn⟩ := List.mem_iff_getElem?.mp hp
  exact ⟨n, p, hn, h⟩
theorem foot_append {M l : Mp} {a : Addr} : foot (M ++ l) a ↔ foot M a ∨ foot l a := by
  constructor
  · rintro ⟨p, hp, h⟩
    exact (List.mem_append.mp hp).imp (fun q => ⟨p, q, h⟩) fun q => ⟨p, q, h⟩
  · rintro (⟨p, hp, h⟩ | ⟨p, hp, h⟩)
    · exact ⟨p, List.mem_append.mpr (.inl hp), h⟩
    · exact ⟨p, List.mem_append.mpr (.inr hp), h⟩
section
variable {S : Stat} {pv : List Addr × List Addr} {h : Heap} {M : Mp} {H : AH}
theorem Rep.ao (R : Rep S pv h M H) {n : Nat} {p : Addr × Addr} (e : M[n]? = some p) : ∃ ao, H[n]? = some ao := ⟨_, List.getElem?_eq_getElem (by rw [← R.len]; exact (List.getElem?_eq_some_iff.mp e).1)⟩
theorem Rep.there (R : Rep S pv h M H) {a : Addr} (f : foot M a) : ∃ o, h.get? a = some o := by
  refine x2_2 (of_foot f) fun n p e ha => ?_
  obtain ⟨ao, e'⟩ := R.ao e
  have := (R.obj n p ao e e').at
  rcases ha with rfl | rfl
  · exact this.1
  · exact this.2
theorem Rep.off (R : Rep S pv h M H) {a : Addr} (ha : h.get? a = none) : ¬ foot M a := fun f => by
  obtain ⟨o, ho⟩ := R.there f
  rw [ha] at ho; cases ho
theorem Rep.keep {l : List Addr} {h' : Heap} (R : Rep S pv h M H) (k : Kp (wdOf S pv h M) (wdOf S (l, pv.2) h' M)) (e : ∀ a, foot M a → h'.get? a = h.get? a) : Rep S (l, pv.2) h' M H :=
  ⟨R.len, fun n p ao h1 h2 => (R.obj n p ao h1 h2).keep k (e _ (foot_at h1).1) (e _ (foot_at h1).2), R.apart, R.held, R.lkd⟩
theorem kp_ext {h' : Heap} (k : ∀ b o, h.get? b = some o → h'.get? b = some o) : Kp (wdOf S pv h M) (wdOf S pv h' M) := ⟨fun b o e n _ => ⟨k b o e, n⟩, ⟨[], by simp [wdOf]⟩, rfl⟩
theorem Rep.ext {h' : Heap} (R : Rep S pv h M H) (k : ∀ b o, h.get? b = some o → h'.get? b = some o) : Rep S pv h' M H :=
  R.keep (l := pv.1) (kp_ext k) fun a f => by obtain ⟨o, ho⟩ := R.there f; rw [ho, k a o ho]
theorem kp_new {h' : Heap} {p : Addr × Addr} (k : ∀ b o, h.get? b = some o → h'.get? b = some o) (h1 : h.get? p.1 = none) (h2 : h.get? p.2 = none) : Kp (wdOf S pv h M) (wdOf S pv h' (M ++ [p])) := by
  refine ⟨fun b o e n _ => ⟨k b o e, fun q => n (q.imp (fun f => ?_) id)⟩, ⟨[p], rfl⟩, rfl⟩
  rcases foot_append.mp f with f | ⟨p', hp, z⟩
  · exact f
  · cases List.mem_singleton.mp hp
    have e : h.get? b = some o := e
    rcases z with rfl | rfl
    · rw [h1] at e; cases e
    · rw [h2] at e; cases e
theorem Rep.newO {h' : Heap} {p : Addr × Addr} {ao : AO} (R : Rep S pv h M H) (hl : ∀ a ∈ pv.2, ∃ o, h.get? a = some o) (hao : ∀ es, ao ≠ .ldict es) (k : ∀ b o, h.get? b = some o → h'.get? b = some o) (h1 : h.get? p.1 = none) (h2 : h.get? p.2 = none) (ho : ORel S (wdOf S pv h' (M ++ [p])) p ao) : Rep S pv h' (M ++ [p]) (H ++ [ao]) := by
  have K := kp_new (S := S) (pv := pv) (M := M) k h1 h2
  have old : ∀ {n q}, M[n]? = some q → Apart q p := fun {n q} e => by
    obtain ⟨⟨o, a⟩, o', b⟩ := (foot_at e).imp R.there R.there
    exact ⟨ne_of a h1, ne_of a h2, ne_of b h1, ne_of b h2⟩
  refine ⟨by rw [List.length_append, List.length_append, R.len]; rfl, fun n q ao' e e' => ?_, fun i j q q' e e' ne => ?_, fun n q e z => ?_, fun n q es e e' => ?_⟩
  · rw [List.getElem?_append] at e e'
    rw [← R.len] at e'
    split at e
    · rename_i z
      rw [if_pos z] at e'
      refine (R.obj n q ao' e e').keep K ?_ ?_
      · obtain ⟨o, z⟩ := R.there (foot_at e).1; exact (k _ o z).trans z.symm
      · obtain ⟨o, z⟩ := R.there (foot_at e).2; exact (k _ o z).trans z.symm
    · rename_i z
      rw [if_neg z] at e'
      obtain ⟨m, hm⟩ : ∃ m, n - M.length = m := ⟨_, rfl⟩
      rw [hm] at e e'
      cases m with
      | zero => cases e; cases e'; exact ho
      | succ m => cases e
  · rw [List.getElem?_append] at e e'
    split at e <;> split at e'
    · exact R.apart i j q q' e e' ne
    · have := List.mem_singleton.mp (List.mem_of_getElem? e'); subst this; exact old e
    · have := List.mem_singleton.mp (List.mem_of_getElem? e); subst this; obtain ⟨a, b, c, d⟩ := old e'; exact ⟨a.symm, c.symm, b.symm, d.symm⟩
    · rename_i z1 z2
      have f : ∀ {n : Nat}, ¬ n < M.length → n - M.length < 1 → n = M.length := fun a b => Nat.le_antisymm (Nat.le_of_sub_eq_zero (Nat.lt_one_iff.mp b)) (Nat.not_lt.mp a)
      exact absurd ((f z1 (List.getElem?_eq_some_iff.mp e).1).trans (f z2 (List.getElem?_eq_some_iff.mp e').1).symm) ne
  · rw [List.getElem?_append] at e ⊢
    rw [← R.len]
    split at e
    · rename_i y; rw [if_pos y]; exact R.held n q e z
    · have := List.mem_singleton.mp (List.mem_of_getElem? e)
      subst this
      rcases z with z | z
      · obtain ⟨o, ho⟩ := hl _ z; rw [h1] at ho; cases ho
      · obtain ⟨o, ho⟩ := hl _ z; rw [h2] at ho; cases ho
  · rw [List.getElem?_append] at e e'
    rw [← R.len] at e'
    split at e
    · rename_i y; rw [if_pos y] at e'; exact R.lkd n q es e e'
    · rename_i y; rw [if_neg y] at e'; exact absurd (List.mem_singleton.mp (List.mem_of_getElem? e')).symm (hao es)
theorem kp_set {h' : Heap} {n : Nat} {p : Addr × Addr} (e : M[n]? = some p) (k : ∀ b o, b ≠ p.1 → b ≠ p.2 → h.get? b = some o → h'.get? b = some o) : Kp (wdOf S pv h M) (wdOf S pv h' M) :=
  ⟨fun b o z nf _ => ⟨k b o (fun q => nf (.inl (q ▸ (foot_at e).1))) (fun q => nf (.inl (q ▸ (foot_at e).2))) z, nf⟩, ⟨[], by simp [wdOf]⟩, rfl⟩
theorem Rep.off2 (R : Rep S pv h M H) {n : Nat} {p : Addr × Addr} (e : M[n]? = some p) (hn : ∀ es, H[n]? ≠ some (.ldict es)) : p.1 ∉ pv.2 ∧ p.2 ∉ pv.2 :=
  ⟨fun q => let ⟨es, h⟩ := R.held n p e (.inl q); hn es h, fun q => let ⟨es, h⟩ := R.held n p e (.inr q); hn es h⟩
theorem Rep.setO {h' : Heap} {n : Nat} {p : Addr × Addr} {ao : AO} (R : Rep S pv h M H) (e : M[n]? = some p) (hn : ∀ es, H[n]? ≠ some (.ldict es)) (hao : ∀ es, ao ≠ .ldict es) (k : ∀ b o, b ≠ p.1 → b ≠ p.2 → h.get? b = some o → h'.get? b = some o) (ho : ORel S (wdOf S pv h' M) p ao) : Rep S pv h' M (H.set n ao) := by
  refine ⟨by rw [List.length_set]; exact R.len, fun m q ao' e1 e2 => ?_, R.apart, fun m q e1 z => ?_, fun m q es e1 e2 => ?_⟩
  · rw [List.getElem?_set] at e2
    split at e2
    · rename_i z
      subst z
      split at e2 <;> cases e2
      rw [e] at e1; cases e1; exact ho
    · rename_i z
      refine x0_4 (R.apart m n q p e1 e (Ne.symm z)) fun a b c d => ?_
      refine (R.obj m q ao' e1 e2).keep (kp_set e k) ?_ ?_
      · obtain ⟨o, z⟩ := R.there (foot_at e1).1; exact (k _ o a b z).trans z.symm
      · obtain ⟨o, z⟩ := R.there (foot_at e1).2; exact (k _ o c d z).trans z.symm
  · by_cases y : n = m
    · subst y
      rw [e] at e1; cases e1
      exact absurd z (fun z => z.elim (R.off2 e hn).1 (R.off2 e hn).2)
    · rw [List.getElem?_set, if_neg y]; exact R.held m q e1 z
  · rw [List.getElem?_set] at e2
    split at e2
    · split at e2
      · exact absurd (Option.some.inj e2) (hao es)
      · cases e2
    · exact R.lkd m q es e1 e2
end
structure Step (C : Cx) (W : Addr → Prop) (s : Shared) (M : Mp) (s' : Shared) (M' : Mp) : Prop where
  keep : ∀ b o, s.heap.get? b = some o → (foot M b → b ∈ C.pv.2) → ¬ W b → b ∉ C.fs → s'.heap.get? b = some o
  slots : ∀ b o, s.heap.get? b = some o → b ∈ C.fs → ¬ W b → ∃ sl, s'.heap.get? b = some { o with slots := sl }
  alive : ∀ b o, s.heap.get? b = some o → ∃ o', s'.heap.get? b = some o'
  pre : ∃ l, M' = M ++ l
  grow : ∀ a, foot M' a → foot M a ∨ s.heap.get? a = none
  gens : s'.gens = s.gens
  os : s'.os = s.os
noncomputable def noW : Addr → Prop := fun _ => False
structure Live (C : Cx) (h : Heap) (M : Mp) : Prop where
  frames : C.A.frames = some C.fe
  funs : h.FunFrames C.S.base C.fe
  stays : C.S.base.StaysIn h
  off : ∀ L ∈ C.fs, ¬ foot M L
  new : ∀ a, foot M a → C.S.base.get? a = none
  handled : C.hot = false → C.A.handled = none
  dicts : ∀ b ∈ C.fs, ∃ o es ep, h.get? b = some o ∧ o.data = .dict es ep
  depth : C.A.depth + C.d < recursionLimit
  units : C.A.units + 20 * C.d + 100 < cLine
  priv : ∀ a, a ∈ C.pv.1 ∨ a ∈ C.pv.2 → ∃ o, h.get? a = some o
  poff : ∀ a ∈ C.pv.1, ¬ foot M a
section
variable {C : Cx} {W W' : Addr → Prop} {s s₁ s₂ s' : Shared} {M M₁ M₂ M' : Mp} {h h' : Heap}
theorem Step.not (k : Step C W s M s' M') {b : Addr} {o : Obj} (e : s.heap.get? b = some o) (n : ¬ foot M b) : ¬ foot M' b :=
  fun q => (k.grow b q).elim n fun l => by rw [l] at e; cases e
theorem Step.offM (k : Step C W s M s' M') {b : Addr} {o : Obj} (e : s.heap.get? b = some o) (n : foot M b → b ∈ C.pv.2) : foot M' b → b ∈ C.pv.2 :=
  fun q => (k.grow b q).elim n fun l => by rw [l] at e; cases e
theorem gone {h h' : Heap} (k : ∀ b o, h.get? b = some o → ∃ o', h'.get? b = some o') {a : Addr} (e : h'.get? a = none) : h.get? a = none := by
  cases q : h.get? a with
  | none => rfl
  | some o => obtain ⟨o', z⟩ := k a o q; rw [e] at z; cases z
theorem Step.thenNew (x : Step C W s M s₁ M₁) (y : Step C W' s₁ M₁ s₂ M₂) (hn : ∀ a, W' a → W a ∨ s.heap.get? a = none) : Step C W s M s₂ M₂ where
  keep := fun b o e n m f => y.keep b o (x.keep b o e n m f) (x.offM e n) (fun q => (hn b q).elim m fun z => by rw [e] at z; cases z) f
  slots := fun b o e f m => by
    obtain ⟨sl, h1⟩ := x.slots b o e f m
    obtain ⟨sl', h2⟩ := y.slots b _ h1 f (fun q => (hn b q).elim m fun z => by rw [e] at z; cases z)
    exact ⟨sl', h2⟩
  alive := fun b o e => by
    obtain ⟨o', e'⟩ := x.alive b o e
    exact y.alive b o' e'
  pre := by
    obtain ⟨l, e⟩ := x.pre
    obtain ⟨l', e'⟩ := y.pre
    exact ⟨l ++ l', by rw [e', e, List.append_assoc]⟩
  grow := fun a q => (y.grow a q).elim (fun p => x.grow a p) fun l => .inr (gone x.alive l)
  gens := y.gens.trans x.gens
  os := y.os.trans x.os
theorem Step.trans (x : Step C W s M s₁ M₁) (y : Step C W s₁ M₁ s₂ M₂) : Step C W s M s₂ M₂ := x.thenNew y fun _ q => .inl q
theorem Step.refl (C : Cx) (W : Addr → Prop) (s : Shared) (M : Mp) : Step C W s M s M :=
  ⟨fun _ _ e _ _ _ => e, fun _ o e _ _ => ⟨o.slots, e⟩, fun _ o e => ⟨o, e⟩, ⟨[], by simp⟩, fun _ q => .inl q, rfl, rfl⟩
theorem Step.wider (x : Step C W s M s' M') (hw : ∀ a, W a → W' a) : Step C W' s M s' M' := (Step.refl C W' s M).thenNew x fun a q => .inl (hw a q)
theorem Step.ofNo (x : Step C noW s M s' M') : Step C W s M s' M' := x.wider fun _ q => q.elim
theorem Step.ext {t : Nat} (k : ∀ b o, s.heap.get? b = some o → h'.get? b = some o) : Step C W s M { s with heap := h', toks := t } M :=
  ⟨fun b o e _ _ _ => k b o e, fun b o e _ _ => ⟨o.slots, k b o e⟩, fun b o e => ⟨o, k b o e⟩, ⟨[], by simp⟩, fun _ q => .inl q, rfl, rfl⟩
theorem Step.new {t : Nat} {p : Addr × Addr} (k : ∀ b o, s.heap.get? b = some o → h'.get? b = some o) (h1 : s.heap.get? p.1 = none) (h2 : s.heap.get? p.2 = none) : Step C W s M { s with heap := h', toks := t } (M ++ [p]) :=
  ⟨fun b o e _ _ _ => k b o e, fun b o e _ _ => ⟨o.slots, k b o e⟩, fun b o e => ⟨o, k b o e⟩, ⟨[p], rfl⟩, fun a q => (foot_append.mp q).imp id fun ⟨q, hq, z⟩ => by
    cases List.mem_singleton.mp hq
    rcases z with rfl | rfl
    · exact h1
    · exact h2, rfl, rfl⟩
theorem Live.fsNew (L : Live C h M) {b : Addr} (hb : b ∈ C.fs) : C.S.base.get? b = none := (L.funs.mem hb).1
theorem Live.baseOff (L : Live C h M) {b : Addr} {o : Obj} (e : C.S.base.get? b = some o) : ¬ foot M b ∧ b ∉ C.fs :=
  ⟨fun f => (nomatch (L.new b f).symm.trans e), fun f => (nomatch (L.fsNew f).symm.trans e)⟩
theorem Live.offFs (L : Live C h M) {b : Addr} {o : Obj} (e : h.get? b = some o) (hn : ∀ es ep, o.data ≠ .dict es ep) : b ∉ C.fs := fun q => by
  refine x3_2 (L.dicts b q) fun o' es ep ho hd => ?_
  rw [e] at ho; cases ho; exact hn es ep hd
theorem Live.K (L : Live C h M) : C.S.K.In h := C.S.hK.keeps L.stays
theorem Live.base0 (L : Live C h M) {a : Addr} (e : h.get? a = none) : C.S.base.get? a = none := gone (fun b o e => ⟨o, L.stays b o e⟩) e
theorem Live.fs0 (L : Live C h M) {a : Addr} (e : h.get? a = none) : a ∉ C.fs := fun q => by
  refine x3_2 (L.dicts a q) fun o es ep ho hd => ?_
  rw [e] at ho; cases ho
theorem Live.pv0 (L : Live C h M) {a : Addr} (e : h.get? a = none) : a ∉ C.pv.1 := fun q => by
  obtain ⟨o, ho⟩ := L.priv a (.inl q)
  rw [e] at ho; cases ho
noncomputable def VarsOnly (h : Heap) (W : Addr → Prop) : Prop := ∀ b o, W b → h.get? b = some o → ¬ Held o
theorem noW_seq {h : Heap} : VarsOnly h noW := fun _ _ q => q.elim
theorem Step.kp (x : Step C W s M s' M') (L : Live C s.heap M) (hw : VarsOnly s.heap W) : Kp (C.wd s.heap M) (C.wd s'.heap M') :=
  ⟨fun b o e n hh => ⟨x.keep b o e (fun q => absurd (.inl q) n) (fun q => hw b o q e hh) (L.offFs e hh.nd), fun q => q.elim (x.not e fun q => n (.inl q)) fun q => n (.inr q)⟩, x.pre, rfl⟩
theorem funs_keep (hs : ∀ b o, h.get? b = some o → b ∈ C.fs → (∀ vs, o.data ≠ .fields vs) → ∃ o', h'.get? b = some o' ∧ ∀ vs, o'.data ≠ .fields vs) {B : Heap} : ∀ l : List Env, (∀ b ∈ l.filterMap (·.frame), b ∈ C.fs) → h.FunFrames B l → h'.FunFrames B l
  | [], _, _ => trivial
  | env :: r, hl, h => by
    obtain ⟨hk, ⟨a, o, hf, hn, ho, hd⟩, hr⟩ := h
    have ha : a ∈ C.fs := hl a (by rw [List.filterMap_cons, hf]; exact .head _)
    refine x1_2 (hs a o ho ha hd) fun o' h1 h2 => ?_
    refine ⟨hk, ⟨a, o', hf, hn, h1, h2⟩, funs_keep hs r (fun b hb => hl b ?_) hr⟩
    rw [List.filterMap_cons, hf]; exact .tail _ hb
theorem Live.step (L : Live C s.heap M) (x : Step C noW s M s' M') : Live C s'.heap M' where
  frames := L.frames
  funs := funs_keep (fun b o ho hb hd => by obtain ⟨sl, h1⟩ := x.slots b o ho hb (fun q => q); exact ⟨_, h1, hd⟩) C.fe (fun b hb => hb) L.funs
  stays := fun b o e => x.keep b o (L.stays b o e) (fun q => absurd q (L.baseOff e).1) (fun q => q) (L.baseOff e).2
  off := fun a ha => by
    obtain ⟨_, o, ho, _⟩ := L.funs.mem ha
    exact x.not ho (L.off a ha)
  new := fun a f => (x.grow a f).elim (L.new a) L.base0
  handled := L.handled
  dicts := fun b hb => by
    refine x3_2 (L.dicts b hb) fun o es ep ho hd => ?_
    obtain ⟨sl, h1⟩ := x.slots b o ho hb (fun q => q)
    exact ⟨_, es, ep, h1, hd⟩
  depth := L.depth
  units := L.units
  priv := fun a ha => by obtain ⟨o, ho⟩ := L.priv a ha; exact x.alive a o ho
  poff := fun a ha => by obtain ⟨o, ho⟩ := L.priv a (.inl ha); exact x.not ho (L.poff a ha)
end
noncomputable def Raw (h : Heap) (e D : Addr) : Prop := ∃ o vs, h.get? e = some o ∧ (o.cls = .ref D ∧ o.dict = none) ∧ o.data = .fields vs ∧ 2 < vs.size ∧ vs[1]? = some .none
noncomputable def Fly (B h : Heap) (e D : Addr) (fl : Value) : Prop := ∃ o vs T oT ts, h.get? e = some o ∧ (o.cls = .ref D ∧ o.dict = none) ∧ o.data = .fields vs ∧ 2 < vs.size ∧ vs[1]? = some (.ref T) ∧ B.get? T = none ∧ T ≠ e ∧ h.get? T = some oT ∧ oT.data = .fields ts ∧ ts[3]? = some fl
structure Flt (B : Heap) (fe : List Env) (e D : Addr) (h : Heap) : Prop where
  stays : B.StaysIn h
  new : B.get? e = none
  funs : h.FunFrames B fe
  st : Raw h e D ∨ ∃ fl, Fly B h e D fl ∧ (fl = .none ∨ ∃ L, fe.head?.bind (·.frame) = some L ∧ fl = rawInt L)
structure Exn (C : Cx) (W : Addr → Prop) (s : Shared) (M : Mp) (e : Addr) (c : Nat) (s' : Shared) (M' : Mp) (H' : AH) (B : Heap) : Prop where
  keepB : ∀ b o, s.heap.get? b = some o → (foot M b → b ∈ C.pv.2) → ¬ W b → b ∉ C.fs → B.get? b = some o
  base : C.S.base.StaysIn B
  rep : Rep C.S C.pv B M' H'
  flt : ∃ D, C.S.X c = some D ∧ Flt B C.fe e D s'.heap
  slots : ∀ b o, s.heap.get? b = some o → b ∈ C.fs → ¬ W b → ∃ sl, s'.heap.get? b = some { o with slots := sl }
  alive : ∀ b o, s.heap.get? b = some o → ∃ o', s'.heap.get? b = some o'
  pre : ∃ l, M' = M ++ l
  grow : ∀ a, foot M' a → foot M a ∨ s.heap.get? a = none
  gens : s'.gens = s.gens
  os : s'.os = s.os
  fresh : s.heap.get? e = none
section
variable {C : Cx} {W W' : Addr → Prop} {s s₁ s' : Shared} {M M₁ M' : Mp} {H' : AH} {e : Addr} {c : Nat} {B : Heap}
theorem Exn.step (x : Exn C W s M e c s' M' H' B) : Step C W s M s' M' :=
  ⟨fun b o z n m f => let ⟨_, _, q⟩ := x.flt; q.stays _ _ (x.keepB b o z n m f), x.slots, x.alive, x.pre, x.grow, x.gens, x.os⟩
theorem Exn.after (x : Step C W' s M s₁ M₁) (y : Exn C W s₁ M₁ e c s' M' H' B) (hw : ∀ a, W' a → W a) : Exn C W s M e c s' M' H' B :=
  have z := (x.wider hw).trans y.step
  { y with keepB := fun b o e n m f => y.keepB b o (x.keep b o e n (fun q => m (hw b q)) f) (x.offM e n) m f, slots := z.slots, alive := z.alive, pre := z.pre, grow := z.grow, gens := z.gens, os := z.os, fresh := gone x.alive y.fresh }
theorem Exn.wider (y : Exn C W s M e c s' M' H' B) (hw : ∀ a, W a → W' a) : Exn C W' s M e c s' M' H' B :=
  { y with keepB := fun b o e n m f => y.keepB b o e n (fun q => m (hw b q)) f, slots := fun b o e f m => y.slots b o e f fun q => m (hw b q) }
end
noncomputable abbrev RelT (α β : Type) := Wd → α → β → Prop
noncomputable def EqR {α : Type} : RelT α α := fun _ a b => a = b
noncomputable def Post {α β : Type} (R : RelT α β) (C : Cx) (s : Shared) (M : Mp) (y : β) (H' : AH) (x : α) (s' : Shared) : Prop :=
  ∃ M', Step C noW s M s' M' ∧ Rep C.S C.pv s'.heap M' H' ∧ R (C.wd s'.heap M') x y
noncomputable def PostX (C : Cx) (s : Shared) (M : Mp) (c : Nat) (H' : AH) (ev : Value) (s' : Shared) : Prop :=
  ∃ e M' B, ev = .ref e ∧ Exn C noW s M e c s' M' H' B
noncomputable abbrev no1 {α : Type} : α → Shared → Prop := fun _ _ => False
noncomputable def Ev {α β : Type} (R : RelT α β) (C : Cx) (t : Sem α) (s : Shared) (M : Mp) : Out β → Prop
  | .ok y H' => wpAny C.S.M C.A t (Post R C s M y H') no1 s
  | .exc c H' => wpAny C.S.M C.A t no1 (PostX C s M c H') s
  | .bad => True
section
variable {α β γ δ : Type} {R : RelT α β} {R' : RelT γ δ} {C : Cx} {s : Shared} {M : Mp}
theorem Ev.then {t : Sem α} {k : α → Sem γ} {o : Out β} {f : β → AH → Out δ} (h : Ev R C t s M o)
    (hk : ∀ y H₁ x s₁ M₁, Step C noW s M s₁ M₁ → Rep C.S C.pv s₁.heap M₁ H₁ → R (C.wd s₁.heap M₁) x y → Ev R' C (k x) s₁ M₁ (f y H₁)) : Ev R' C (t >>= k) s M (o.bind f) := by
  cases o with
  | bad => trivial
  | exc c H' => exact wpAny_bind (wpAny_mono h (fun _ _ q => q.elim) fun _ _ q => q)
  | ok y H₁ =>
    show Ev R' C (t >>= k) s M (f y H₁)
    generalize hf : f y H₁ = o'
    cases o' with
    | bad => trivial
    | exc c H' => exact wpAny_bind (wpAny_mono h (fun x s₁ ⟨M₁, st, rp, r⟩ => wpAny_mono (hf ▸ hk y H₁ x s₁ M₁ st rp r : Ev R' C (k x) s₁ M₁ (.exc c H')) (fun _ _ q => q) fun _ _ ⟨e, M₂, B, he, z⟩ => ⟨e, M₂, B, he, z.after st fun _ q => q⟩) fun _ _ q => q.elim)
    | ok y' H' => exact wpAny_bind (wpAny_mono h (fun x s₁ ⟨M₁, st, rp, r⟩ => wpAny_mono (hf ▸ hk y H₁ x s₁ M₁ st rp r : Ev R' C (k x) s₁ M₁ (.ok y' H')) (fun _ _ ⟨M₂, st₂, z⟩ => ⟨M₂, st.trans st₂, z⟩) fun _ _ q => q) fun _ _ q => q.elim)
theorem Ev.of {t : Sem α} {o : Out β} (h : ∀ {P : α → Shared → Prop} {E : Value → Shared → Prop} (y : β) (H' : AH), o = .ok y H' → (∀ x s', Post R C s M y H' x s' → P x s') → wpAny C.S.M C.A t P E s) (he : ∀ c H', o ≠ .exc c H') : Ev R C t s M o := by
  cases o with
  | bad => trivial
  | exc c H' => exact absurd rfl (he c H')
  | ok y H' => exact h y H' rfl fun _ _ q => q
theorem Ev.map {t t' : Sem α} (e : ∀ {P : α → Shared → Prop} {E : Value → Shared → Prop}, wpAny C.S.M C.A t P E s → wpAny C.S.M C.A t' P E s) {o : Out β} (h : Ev R C t s M o) : Ev R C t' s M o := by
  cases o with
  | bad => trivial
  | exc c H' => exact e h
  | ok y H' => exact e h
theorem Ev.holding {t : Sem α} {vs : List Value} {o : Out β} (h : Ev R C t s M o) : Ev R C (holding vs t) s M o := h.map fun z => wpAny_holding z
theorem Ev.stand {t : Sem α} {pos : Pos} {o : Out β} (h : Ev R C t s M o) : Ev R C (standAt pos >>= fun _ => t) s M o := h.map fun z => wpAny_bind (wpAny_standAt z)
theorem Ev.operate {t : Sem Value} {R : RelT Value β} {vs : List Value} {o : Out β} (h : Ev R C t s M o) : Ev R C (operate vs t) s M o := h.map fun z => wpAny_operate' z
theorem Ev.look {t : Sem γ} {v : γ} {k : γ → Sem α} {o : Out β} (h : ∀ {P : γ → Shared → Prop} {E : Value → Shared → Prop}, P v s → wpAny C.S.M C.A t P E s) (hk : Ev R C (k v) s M o) : Ev R C (t >>= k) s M o := hk.map fun z => wpAny_bind (h z)
theorem Ev.orBad {ε : Type} {t : Sem α} {x : Option ε} {f : ε → Out β} (h : ∀ y, x = some y → Ev R C t s M (f y)) : Ev R C t s M (orBad x f) := by
  cases x with
  | none => trivial
  | some y => exact h y rfl
theorem Ev.ite {t : Sem α} {p : Prop} [Decidable p] {a : Out β} (h : p → Ev R C t s M a) : Ev R C t s M (if p then a else .bad) := by
  split
  · exact h ‹_›
  · trivial
theorem Ev.asInt {t : Sem α} {a : AV} {f : Int → Out β} (h : ∀ i, a = .int i → Ev R C t s M (f i)) : Ev R C t s M (asInt a f) := by
  cases a <;> first | trivial | exact h _ rfl
theorem Ev.asBool {t : Sem α} {a : AV} {f : Bool → Out β} (h : ∀ i, a = .bool i → Ev R C t s M (f i)) : Ev R C t s M (asBool a f) := by
  cases a <;> first | trivial | exact h _ rfl
theorem Ev.asStr {t : Sem α} {a : AV} {f : Str → Out β} (h : ∀ i, a = .str i → Ev R C t s M (f i)) : Ev R C t s M (asStr a f) := by
  cases a <;> first | trivial | exact h _ rfl
variable {H : AH} {x : α} {y : β} {h' : Heap}
theorem post_tok (rp : Rep C.S C.pv s.heap M H) (r : R (C.wd s.heap M) x y) (t : Nat) : Post R C s M y H x { s with toks := t } :=
  ⟨M, ⟨fun _ _ e _ _ _ => e, fun _ o e _ _ => ⟨o.slots, e⟩, fun _ o e => ⟨o, e⟩, ⟨[], by simp⟩, fun _ q => .inl q, rfl, rfl⟩, rp, r⟩
theorem post_here (rp : Rep C.S C.pv s.heap M H) (r : R (C.wd s.heap M) x y) : Post R C s M y H x s := ⟨M, Step.refl .., rp, r⟩
theorem post_grow (rp : Rep C.S C.pv s.heap M H) (k : ∀ b o, s.heap.get? b = some o → h'.get? b = some o) (r : R (C.wd h' M) x y) (t : Nat) : Post R C s M y H x { s with heap := h', toks := t } := ⟨M, Step.ext k, rp.ext k, r⟩
theorem post_push {o : Obj} (rp : Rep C.S C.pv s.heap M H) (r : R (C.wd (s.heap.push o) M) x y) (t : Nat) : Post R C s M y H x { s with heap := s.heap.push o, toks := t } := post_grow rp (fun _ _ e => Heap.get?_push_of_some _ e) r t
theorem Ev.pure (rp : Rep C.S C.pv s.heap M H) (r : R (C.wd s.heap M) x y) : Ev R C (pure x) s M (.ok y H) := wpAny_pure (post_here rp r)
theorem post_setO {n : Nat} {p : Addr × Addr} {ao : AO} {tk : Nat} (L : Live C s.heap M) (rp : Rep C.S C.pv s.heap M H) (e : M[n]? = some p) (hn : ∀ es, H[n]? ≠ some (.ldict es)) (hao : ∀ es, ao ≠ .ldict es) (k : ∀ b o, b ≠ p.1 → b ≠ p.2 → s.heap.get? b = some o → h'.get? b = some o)
    (ho : Kp (C.wd s.heap M) (C.wd h' M) → ORel C.S (C.wd h' M) p ao) (rx : Kp (C.wd s.heap M) (C.wd h' M) → R (C.wd h' M) x y) : Post R C s M y (H.set n ao) x { s with heap := h', toks := tk } := by
  have K : Kp (C.wd s.heap M) (C.wd h' M) := kp_set e k
  obtain ⟨⟨o1, a1⟩, o2, a2⟩ := (ho K).at
  have nl := rp.off2 e hn
  refine ⟨M, ⟨fun b o z n _ _ => k b o (fun q => nl.1 (q ▸ n (q ▸ (foot_at e).1))) (fun q => nl.2 (q ▸ n (q ▸ (foot_at e).2))) z, fun b o z hb _ => ⟨o.slots, k b o (fun q => L.off b hb (q ▸ (foot_at e).1)) (fun q => L.off b hb (q ▸ (foot_at e).2)) z⟩, fun b o z => ?_, ⟨[], by simp⟩, fun _ q => .inl q, rfl, rfl⟩, rp.setO e hn hao k (ho K), rx K⟩
  by_cases h1 : b = p.1
  · exact ⟨o1, h1 ▸ a1⟩
  · by_cases h2 : b = p.2
    · exact ⟨o2, h2 ▸ a2⟩
    · exact ⟨o, k b o h1 h2 z⟩
end
noncomputable def OwnW (env : Env) : Addr → Prop := fun a => a = env.locals ∨ ∃ n, env.cells.lookup n = some a
structure EnvAt (C : Cx) (env : Env) (ns : List (Option Str)) (ρ : RE) (h : Heap) (w : Wd) (m cm : Str → Option Value) : Prop where
  fn : env.scope.kind = .function
  glob : env.globals = mainGlobals
  bns : env.builtins = builtinsNs
  loc : h.Ns env.locals m
  off : ∀ a, OwnW env a → ¬ foot w.M a ∧ C.S.base.get? a = none
  inj : ∀ (i j : Nat) (x : Str), ns[i]? = some (some x) → ns[j]? = some (some x) → i = j
  len : ρ.length = ns.length
  has : ∀ x, (env.kindOf x = some .cell ∨ env.kindOf x = some .free) → ∃ c, env.cells.lookup x = some c
  cell : ∀ n c, env.cells.lookup n = some c → h.IsCell c (cm n) ∧ c ∉ C.fs ∧ c ≠ env.locals
  apart : ∀ n n' c, env.cells.lookup n = some c → env.cells.lookup n' = some c → n = n'
  var : ∀ (i : Nat) (x : Str) (a : AV), ns[i]? = some (some x) → ρ[i]? = some (some a) → ∃ v, VRel w v a ∧
    ((env.kindOf x = some .local ∧ m x = some v) ∨ ((env.kindOf x = some .cell ∨ env.kindOf x = some .free) ∧ (∃ c, env.cells.lookup x = some c) ∧ cm x = some v))
noncomputable def EnvB (C : Cx) (env : Env) (ns : List (Option Str)) (ρ : RE) (h B : Heap) (M : Mp) : Prop := ∃ m cm, EnvAt C env ns ρ h (C.wd B M) m cm
structure St (C : Cx) (env : Env) (ns : List (Option Str)) (ρ : RE) (s : Shared) (M : Mp) (H : AH) : Prop where
  live : Live C s.heap M
  rep : Rep C.S C.pv s.heap M H
  env : EnvB C env ns ρ s.heap s.heap M
section
variable {C C' : Cx} {env : Env} {ns : List (Option Str)} {ρ : RE} {h h' : Heap} {w w' : Wd} {m cm : Str → Option Value} {s s' : Shared} {M M' : Mp} {H H' : AH}
theorem EnvAt.keep (E : EnvAt C env ns ρ h w m cm) (hS : C'.S = C.S) (hf : ∀ a, a ∉ C.fs → a ∉ C'.fs) (hl : ∀ o, h.get? env.locals = some o → ∃ sl, h'.get? env.locals = some { o with slots := sl }) (hc : ∀ n c o, env.cells.lookup n = some c → h.get? c = some o → h'.get? c = some o) (k : Kp w w') (nf : ∀ a o, OwnW env a → h.get? a = some o → ¬ foot w.M a → ¬ foot w'.M a) : EnvAt C' env ns ρ h' w' m cm := by
  refine ⟨E.fn, E.glob, E.bns, ?_, fun a ha => ⟨?_, hS ▸ (E.off a ha).2⟩, E.inj, E.len, E.has, fun n c e => ?_, E.apart, fun i x a h1 h2 => ?_⟩
  · refine x3_3 (E.loc) fun o es ep ho hd r => ?_
    obtain ⟨sl, h1⟩ := hl o ho
    exact ⟨_, es, ep, h1, hd, r⟩
  · have : ∃ o, h.get? a = some o := by
      rcases ha with rfl | ⟨n, e⟩
      · obtain ⟨o, es, ep, ho, _⟩ := E.loc; exact ⟨o, ho⟩
      · obtain ⟨⟨o, ho, _⟩, _⟩ := E.cell n a e; exact ⟨o, ho⟩
    obtain ⟨o, ho⟩ := this
    exact nf a o ha ho (E.off a ha).1
  · obtain ⟨⟨o, ho, hd⟩, h2, h3⟩ := E.cell n c e
    exact ⟨⟨o, hc n c o e ho, hd⟩, hf _ h2, h3⟩
  · refine x1_2 (E.var i x a h1 h2) fun v hv r => ?_
    exact ⟨v, hv.keep k, r⟩
theorem EnvAt.offFs (E : EnvAt C env ns ρ h w m cm) {n : Str} {c : Addr} (e : env.cells.lookup n = some c) : c ∉ C.fs := (E.cell n c e).2.1
theorem St.step (st : St C env ns ρ s M H) (x : Step C noW s M s' M') (r : Rep C.S C.pv s'.heap M' H') : St C env ns ρ s' M' H' := by
  refine x2_1 (st.env) fun m cm E => ?_
  refine ⟨st.live.step x, r, m, cm, E.keep rfl (fun _ q => q) (fun o ho => ?_) (fun n c o e ho => x.keep c o ho (fun q => absurd q (E.off c (.inr ⟨n, e⟩)).1) (fun q => q) (E.offFs e)) (x.kp st.live noW_seq) (fun a o _ ho n => x.not ho n)⟩
  by_cases q : env.locals ∈ C.fs
  · exact x.slots _ o ho q (fun q => q)
  · exact ⟨o.slots, x.keep _ o ho (fun q => absurd q (E.off _ (.inl rfl)).1) (fun q => q) q⟩
theorem EnvAt.vars (E : EnvAt C env ns ρ h w m cm) : VarsOnly h (OwnW env) := by
  rintro b o (rfl | ⟨n, hc⟩) ho hh
  · refine x3_3 (E.loc) fun o' es ep h1 h2 _ => ?_
    rw [ho] at h1; cases h1
    exact hh.nd _ _ h2
  · obtain ⟨⟨o', h1, h2⟩, _⟩ := E.cell n b hc
    rw [ho] at h1; cases h1
    rcases hh.1 with ⟨_, _, e⟩ | ⟨_, e⟩ <;> rw [h2] at e <;> cases e
structure Aside (C : Cx) (env : Env) (h : Heap) (M : Mp) (it : Addr) : Prop where
  obj : ∃ o, h.get? it = some o ∧ (it ∈ C.pv.1 ∨ ¬ Held o)
  foot : ¬ foot M it
  fs : it ∉ C.fs
  own : ¬ OwnW env it
  base : C.S.base.get? it = none
variable {it : Addr}
theorem St.but {tk : Nat} (st : St C env ns ρ s M H) (x : Aside C env s.heap M it) (k : ∀ b o, b ≠ it → s.heap.get? b = some o → h'.get? b = some o) (he : it ∈ C.pv.1 ∨ it ∈ C.pv.2 → ∃ o, h'.get? it = some o) : St C env ns ρ { s with heap := h', toks := tk } M H := by
  obtain ⟨L, R, m, cm, E⟩ := st
  have K : Kp (C.wd s.heap M) (C.wd h' M) := ⟨fun b o e n hh => ⟨k b o (fun q => by
      subst q
      refine x1_2 (x.obj) fun o' h1 h2 => ?_
      have e : s.heap.get? b = some o := e
      rw [e] at h1; cases h1
      exact h2.elim (fun z => n (.inr z)) fun z => z hh) e, n⟩, ⟨[], by simp [wdOf]⟩, rfl⟩
  refine ⟨⟨L.frames, funs_keep (C := C) (fun b o ho hb hd => ⟨o, k b o (fun q => x.fs (q ▸ hb)) ho, hd⟩) C.fe (fun b hb => hb) L.funs, fun b o e => k b o (ne_of e x.base) (L.stays b o e), L.off, L.new, L.handled, fun b hb => ?_, L.depth, L.units, fun a ha => ?_, L.poff⟩, R.keep (l := C.pv.1) K (fun a f => ?_), m, cm, E.keep rfl (fun _ q => q) (fun o ho => ⟨o.slots, k _ o (fun q => x.own (.inl q.symm)) ho⟩) (fun n c o e ho => k c o (fun q => x.own (.inr ⟨n, q ▸ e⟩)) ho) K fun a o _ _ n => n⟩
  · refine x3_2 (L.dicts b hb) fun o es ep ho hd => ?_
    exact ⟨o, es, ep, k b o (fun q => x.fs (q ▸ hb)) ho, hd⟩
  · by_cases q : a = it
    · exact q ▸ he (q ▸ ha)
    · obtain ⟨o, ho⟩ := L.priv a ha
      exact ⟨o, k a o q ho⟩
  · obtain ⟨o, ho⟩ := R.there f
    exact (k a o (fun q => x.foot (q ▸ f)) ho).trans ho.symm
theorem Step.but {W : Addr → Prop} {tk : Nat} (x : Step C W s M s' M') (hn : s.heap.get? it = none) (k : ∀ b o, b ≠ it → s'.heap.get? b = some o → h'.get? b = some o) : Step C W s M { s' with heap := h', toks := tk } M' where
  keep := fun b o e n m f => k b o (ne_of e hn) (x.keep b o e n m f)
  slots := fun b o e f m => by
    obtain ⟨sl, h1⟩ := x.slots b o e f m
    exact ⟨sl, k b _ (ne_of e hn) h1⟩
  alive := fun b o e => by
    obtain ⟨o', e'⟩ := x.alive b o e
    exact ⟨o', k b o' (ne_of e hn) e'⟩
  pre := x.pre
  grow := x.grow
  gens := x.gens
  os := x.os
theorem Aside.step (x : Aside C env s.heap M it) (y : Step C (OwnW env) s M s' M') : Aside C env s'.heap M' it := by
  obtain ⟨⟨o, h1, h2⟩, nf, nfs, nW, nb⟩ := x
  exact ⟨⟨o, y.keep it o h1 (fun q => absurd q nf) nW nfs, h2⟩, y.not h1 nf, nfs, nW, nb⟩
theorem Aside.keepObj {o : Obj} (x : Aside C env s.heap M it) (y : Step C (OwnW env) s M s' M') (e : s.heap.get? it = some o) : s'.heap.get? it = some o := y.keep it o e (fun q => absurd q x.foot) x.own x.fs
theorem St.own0 (st : St C env ns ρ s M H) {a : Addr} (h0 : s.heap.get? a = none) : ¬ OwnW env a := by
  refine x2_1 (st.env) fun m cm E => ?_
  rintro (q | ⟨n, q⟩)
  · obtain ⟨o', _, _, ho, _⟩ := E.loc; rw [← q, h0] at ho; cases ho
  · obtain ⟨⟨o', ho, _⟩, _⟩ := E.cell n _ q; rw [h0] at ho; cases ho
theorem Aside.new {o : Obj} (st : St C env ns ρ s M H) (h0 : s.heap.get? it = none) (h1 : h'.get? it = some o) (hh : ¬ Held o) : Aside C env h' M it :=
  ⟨⟨o, h1, .inr hh⟩, st.rep.off h0, st.live.fs0 h0, st.own0 h0, st.live.base0 h0⟩
theorem not_held {o : Obj} {T : String} (hc : o.cls = .type T) (hT : ¬ (T = "tuple" ∨ T = "list" ∨ T = "range")) : ¬ Held o := fun h => hT (h.2 T hc)
theorem set_get {ρ : RE} {i j : Nat} {a : Option AV} (hi : i < ρ.length) : (ρ.set i a)[j]? = if i = j then some a else ρ[j]? := by
  rw [List.getElem?_set]
  split
  · rename_i q; subst q; simp [hi]
  · rfl
theorem step_store {W : Addr → Prop} {tk : Nat} {c : Addr} (hc : W c) (k : Heap.SameBut c s.heap h') (hl : ∃ o, h'.get? c = some o) : Step C W s M { s with heap := h', toks := tk } M where
  keep := fun b o e _ w _ => (k.2 b (fun q => w (q ▸ hc))).trans e
  slots := fun b o e _ w => ⟨o.slots, (k.2 b (fun q => w (q ▸ hc))).trans e⟩
  alive := fun b o e => by
    by_cases q : b = c
    · subst q; exact hl
    · exact ⟨o, (k.2 b q).trans e⟩
  pre := ⟨[], by simp⟩
  grow := fun _ q => .inl q
  gens := rfl
  os := rfl
theorem own_turned {c : Addr} (E : EnvAt C env ns ρ s.heap (C.wd s.heap M) m cm) (L : Live C s.heap M) (R : Rep C.S C.pv s.heap M H) (hc : OwnW env c) (k : Heap.SameBut c s.heap h') (hl : ∃ o, h'.get? c = some o) (hd : c ∈ C.fs → ∃ o es ep, h'.get? c = some o ∧ o.data = .dict es ep) :
    Kp (C.wd s.heap M) (C.wd h' M) ∧ Live C h' M ∧ Rep C.S C.pv h' M H := by
  have x : Step C (OwnW env) s M { s with heap := h', toks := s.toks } M := step_store hc k hl
  have K : Kp (C.wd s.heap M) (C.wd h' M) := x.kp L E.vars
  refine ⟨K, ⟨L.frames, funs_keep (C := C) (fun b o ho hb hd' => ?_) C.fe (fun b hb => hb) L.funs, fun b o e => (k.2 b (ne_of e (E.off c hc).2)).trans (L.stays b o e), L.off, L.new, L.handled, fun b hb => ?_, L.depth, L.units, fun a ha => ?_, L.poff⟩, R.keep (l := C.pv.1) K fun a f => k.2 a fun q => (E.off c hc).1 (q ▸ f)⟩
  · by_cases q : b = c
    · subst q
      refine x3_2 (hd hb) fun o' es ep h1 h2 => ?_
      exact ⟨o', h1, fun vs z => by rw [h2] at z; cases z⟩
    · exact ⟨o, (k.2 b q).trans ho, hd'⟩
  · by_cases q : b = c
    · exact q ▸ hd (q ▸ hb)
    · refine x3_2 (L.dicts b hb) fun o es ep h1 h2 => ?_
      exact ⟨o, es, ep, (k.2 b q).trans h1, h2⟩
  · obtain ⟨o, ho⟩ := L.priv a ha
    exact x.alive a o ho
theorem local_turned {i : Nat} {x : Str} {o : Option AV} {tk : Nat} {m' : Str → Option Value} (st : St C env ns ρ s M H) (E : EnvAt C env ns ρ s.heap (C.wd s.heap M) m cm) (hx : ns[i]? = some (some x)) (hk : env.kindOf x = some .local) (hn' : h'.Ns env.locals m') (hs' : Heap.SameBut env.locals s.heap h')
    (ho : ∀ a, o = some a → ∃ v, VRel (C.wd s.heap M) v a ∧ m' x = some v) (hm : ∀ y, y ≠ x → m' y = m y) : Step C (fun b => b = env.locals) s M { s with heap := h', toks := tk } M ∧ St C env ns (ρ.set i o) { s with heap := h', toks := tk } M H := by
  have hi : i < ρ.length := by rw [E.len]; exact (List.getElem?_eq_some_iff.mp hx).1
  have hl : ∃ o, h'.get? env.locals = some o := x3_3 hn' fun o _ _ ho _ _ => ⟨o, ho⟩
  obtain ⟨K, L', R'⟩ := own_turned E st.live st.rep (.inl rfl) hs' hl fun _ => x3_3 hn' fun o es ep ho hd _ => ⟨o, es, ep, ho, hd⟩
  refine ⟨step_store rfl hs' hl, L', R', m', cm, E.fn, E.glob, E.bns, hn', E.off, E.inj, by rw [List.length_set]; exact E.len, E.has, fun n c hc => ?_, E.apart, fun j y b h1 h2 => ?_⟩
  · obtain ⟨⟨o, c1, c1'⟩, c2, c3⟩ := E.cell n c hc
    exact ⟨⟨o, (hs'.2 c c3).trans c1, c1'⟩, c2, c3⟩
  · rw [set_get hi] at h2
    split at h2
    · rename_i q; subst q
      rw [hx] at h1
      cases h1
      refine x1_2 (ho b (Option.some.inj h2)) fun v rv hv => ?_
      exact ⟨v, rv.keep K, .inl ⟨hk, hv⟩⟩
    · rename_i q
      refine x1_2 (E.var j y b h1 h2) fun u ru hu => ?_
      exact ⟨u, ru.keep K, hu.imp (fun z => ⟨z.1, (hm y fun z => q (E.inj i j x hx (z ▸ h1))).trans z.2⟩) id⟩
theorem store_ok {i : Nat} {x : Str} {v : Value} {a : AV} {P : Unit → Shared → Prop} {E : Value → Shared → Prop} (st : St C env ns ρ s M H) (hx : ns[i]? = some (some x)) (hk : env.kindOf x = some .local ∨ env.kindOf x = some .cell)
    (rv : VRel (C.wd s.heap M) v a) (h : ∀ s', Step C (OwnW env) s M s' M → St C env ns (ρ.set i (some a)) s' M H → P () s') : wpAny C.S.M C.A (storeName env x v) P E s := by
  refine x2_1 (st.env) fun m cm En => ?_
  rcases hk with hk | hk
  · refine wpAny_storeName_local hk En.loc (fun h' hn' hs' => ?_) (by rw [En.fn]; rfl)
    obtain ⟨x1, st1⟩ := local_turned (o := some a) (tk := s.toks + 1) st En hx hk hn' hs' (fun b e => ⟨v, Option.some.inj e ▸ rv, by simp⟩) fun y hy => by simp [hy]
    exact h _ (x1.wider fun _ q => .inl q) st1
  obtain ⟨c, hc⟩ := En.has x (.inl hk)
  refine x0_3 (En.cell x c hc) fun c1 c3 c4 => ?_
  refine wpAny_storeName_cell En.fn hk hc c1 fun h' hc' hs' => ?_
  have hi : i < ρ.length := by rw [En.len]; exact (List.getElem?_eq_some_iff.mp hx).1
  have hl : ∃ o, h'.get? c = some o := let ⟨o, ho, _⟩ := hc'; ⟨o, ho⟩
  have x1 : Step C (OwnW env) s M { s with heap := h' } M := step_store (W := OwnW env) (tk := s.toks) (.inr ⟨x, hc⟩) hs' hl
  refine x0_3 (own_turned En st.live st.rep (.inr ⟨x, hc⟩) hs' hl fun q => absurd q c3) fun K L' R' => ?_
  refine h _ x1 ⟨L', R', m, (fun y => if y = x then some v else cm y), En.fn, En.glob, En.bns, En.loc.sameBut hs' (Ne.symm c4), En.off, En.inj, by rw [List.length_set]; exact En.len, En.has, fun n b hb => ?_, En.apart, fun j y b h1 h2 => ?_⟩
  · obtain ⟨⟨o, e1, e1'⟩, e3, e4⟩ := En.cell n b hb
    by_cases q : n = x
    · subst q
      rw [hc] at hb; cases hb
      exact ⟨by simpa using hc', e3, e4⟩
    · have hne : b ≠ c := fun z => q (En.apart n x c (z ▸ hb) hc)
      exact ⟨⟨o, (hs'.2 b hne).trans e1, by simpa [q] using e1'⟩, e3, e4⟩
  · rw [set_get hi] at h2
    split at h2
    · rename_i q; subst q
      rw [hx] at h1
      cases h1
      cases h2
      exact ⟨v, rv.keep K, .inr ⟨.inl hk, ⟨c, hc⟩, by simp⟩⟩
    · rename_i q
      refine x1_2 (En.var j y b h1 h2) fun u ru hu => ?_
      refine ⟨u, ru.keep K, hu.imp id fun z => ⟨z.1, z.2.1, ?_⟩⟩
      have : y ≠ x := fun z => q (En.inj i j x hx (z ▸ h1))
      simp [this, z.2.2]
end
section
variable {S : Stat} {pv : List Addr × List Addr} {h : Heap} {M : Mp} {H : AH} {v : Value} {a : AV}
theorem ls_shape {xs : List AV} (e : lsOf H a = some xs) : a = .lst xs ∨ ∃ n, a = .ref n ∧ H[n]? = some (.lst xs) := by
  cases a <;> first | exact no_some e | skip
  · cases e; exact .inl rfl
  · rename_i n
    cases q : H[n]? with
    | none => rw [lsOf_at q] at e; cases e
    | some ao =>
      rw [lsOf_at q] at e
      cases ao <;> cases e
      exact .inr ⟨n, rfl, q⟩
theorem dc_shape {n : Nat} {es : List (Key × AV)} (e : dcOf H a = some (n, es)) : a = .ref n ∧ (H[n]? = some (.dict es) ∨ H[n]? = some (.ldict es)) := by
  cases a <;> first | exact no_some e | skip
  rename_i n
  cases q : H[n]? with
  | none => rw [dcOf_at q] at e; cases e
  | some ao =>
    rw [dcOf_at q] at e
    cases ao <;> cases e
    · exact ⟨rfl, .inl q⟩
    · exact ⟨rfl, .inr q⟩
theorem ls_of {xs : List AV} (R : Rep S pv h M H) (r : VRel (wdOf S pv h M) v a) (e : lsOf H a = some xs) : ∃ l vs n, v = .ref l ∧ IsL h l vs n ∧ VRels (wdOf S pv h M) vs.toList xs := by
  rcases ls_shape e with rfl | ⟨n, rfl, q⟩
  · refine x3_4 (r.inv) fun l vs n hv ho _ rs => ?_
    exact ⟨l, vs, n, hv, ho, rs⟩
  · refine x1_2 (r.inv) fun p hv z => ?_
    obtain ⟨_, vs, n, ho, hr⟩ := R.obj _ _ _ z q
    exact ⟨p.1, vs, n, hv, ho, hr⟩
theorem dc_of {n : Nat} {es : List (Key × AV)} (R : Rep S pv h M H) (r : VRel (wdOf S pv h M) v a) (e : dcOf H a = some (n, es)) :
    ∃ (p : Addr × Addr) (kvs : List (Key × Value)), v = .ref p.1 ∧ M[n]? = some p ∧ p.2 = p.1 ∧ h.DictOf (kk S.prog S.w) p.1 kvs ∧ kvs.map (·.1) = es.map (·.1) ∧ VRels (wdOf S pv h M) (kvs.map (·.2)) (es.map (·.2)) ∧ ∀ e ∈ es, e.1.ok = true := by
  obtain ⟨rfl, q⟩ := dc_shape e
  refine x1_2 (r.inv) fun p hv z => ?_
  rcases q with q | q
  · obtain ⟨e2, kvs, hd⟩ := R.obj _ _ _ z q
    exact ⟨p, kvs, hv, z, e2, hd⟩
  · obtain ⟨e2, kvs, hd⟩ := R.obj _ _ _ z q
    exact ⟨p, kvs, hv, z, e2, hd⟩
end
section
variable {C : Cx} {s : Shared} {M : Mp} {H : AH} {v u : Value} {a b : AV}
theorem size_none (h : Heap) : h.get? h.objs.size = none := by
  cases e : h.get? h.objs.size with
  | none => rfl
  | some o => exact absurd (Heap.lt_size e) (Nat.lt_irrefl _)
theorem off_new (rp : Rep C.S C.pv s.heap M H) (L : Live C s.heap M) {r : Addr} (hr : s.heap.get? r = none) {h' : Heap} : ¬ (C.wd h' M).F r := fun q => q.elim (rp.off hr) (L.pv0 hr)
theorem new_list {mt : Bool} {h' : Heap} {r : Addr} {vs : Array Value} {n tk : Nat} {xs : List AV} {P : Value → Shared → Prop} (L : Live C s.heap M) (rp : Rep C.S C.pv s.heap M H) (k : ∀ b o, s.heap.get? b = some o → h'.get? b = some o) (hr : s.heap.get? r = none)
    (hl : IsL h' r vs n) (rl : VRels (C.wd s.heap M) vs.toList xs) {y : AV} {H' : AH} (e : newL mt xs H = .ok y H') : Post VRel C s M y H' (.ref r) { s with heap := h', toks := tk } := by
  cases mt with
  | false => cases e; have q := rl.keep (kp_ext k); exact post_grow rp k (.lst hl (off_new rp L hr) q.1 q.2) tk
  | true =>
    cases e
    have K := kp_new (S := C.S) (pv := C.pv) (M := M) (p := (r, r)) k hr hr
    refine ⟨M ++ [(r, r)], Step.new k hr hr, rp.newO (fun a q => L.priv a (.inr q)) (fun _ q => nomatch q) k hr hr ⟨rfl, vs, n, hl, rl.keep K⟩, ?_⟩
    refine .ref (p := (r, r)) (n := H.length) ?_
    show (M ++ [(r, r)])[H.length]? = _
    rw [← rp.len]; simp
theorem newL_exc {mt : Bool} {xs : List AV} : ∀ c H', newL mt xs H ≠ .exc c H' := fun c H' e => by cases mt <;> cases e
theorem ev_newL {mt : Bool} {xs : List AV} {t : Sem Value} (L : Live C s.heap M) (rp : Rep C.S C.pv s.heap M H) (h : ∀ {P : Value → Shared → Prop} {E : Value → Shared → Prop}, (∀ r vs n h' tk, (∀ b o, s.heap.get? b = some o → h'.get? b = some o) → s.heap.get? r = none → IsL h' r vs n → VRels (C.wd s.heap M) vs.toList xs → P (.ref r) { s with heap := h', toks := tk }) → wpAny C.S.M C.A t P E s) : Ev VRel C t s M (newL mt xs H) :=
  Ev.of (fun y H' e k => h fun r vs n h' tk k1 h0 hl rl => k _ _ (new_list (P := fun _ _ => True) L rp k1 h0 hl rl e)) newL_exc
theorem new_tup {o : Obj} {vs : Array Value} {n : Nat} {xs : List AV} (L : Live C s.heap M) (rp : Rep C.S C.pv s.heap M H) (r : VRels (C.wd s.heap M) vs.toList xs) (e : o = { cls := .type "tuple", data := .seq vs n }) : VRel (C.wd (s.heap.push o) M) (.ref s.heap.objs.size) (.tup xs) := by
  subst e
  have q := r.keep (kp_ext (h' := s.heap.push { cls := .type "tuple", data := .seq vs n }) fun b o e => Heap.get?_push_of_some _ e)
  exact .tup (Heap.get?_push_size _ rfl) (off_new rp L (size_none _)) q.1 q.2
theorem rep_flat {α : Type} (l : List α) : ∀ (n : Nat), ((List.replicate n l.toArray).foldl (· ++ ·) #[]).toList = (List.replicate n l).flatten := by
  have : ∀ (n : Nat) (acc : Array α), ((List.replicate n l.toArray).foldl (· ++ ·) acc).toList = acc.toList ++ (List.replicate n l).flatten := by
    intro n
    induction n with
    | zero => intro acc; simp
    | succ n ih => intro acc; rw [List.replicate_succ, List.foldl_cons, ih]; simp [List.replicate_succ]
  intro n
  simpa using this n #[]
theorem rep_str (x : Str) (n : Int) : strRep x n = ⟨(List.replicate n.toNat x.cps).foldl (· ++ ·) #[]⟩ := by
  unfold strRep
  have := rep_flat x.cps.toList n.toNat
  rw [Array.toArray_toList] at this
  rw [← this]
theorem rep_ok {x : Str} {n : Int} (h : PyData.strOk x = true) : PyData.strOk (strRep x n) = true := by
  refine strOk_sub h fun c hc => ?_
  unfold strRep at hc
  simp only [List.mem_flatten, List.mem_replicate] at hc
  obtain ⟨l, ⟨_, rfl⟩, hc⟩ := hc
  exact hc
theorem ev_mul_str {x : Str} {j : Int} {t t' : Tok} (rp : Rep C.S C.pv s.heap M H) (ok : PyData.strOk x = true) (hq : -1000 < j ∧ j < 1000 ∧ x.length < 1000) : Ev VRel C (binaryOp .Mult (.str x t) (.int j t')) s M (.ok (.str (strRep x j)) H) := by
  have hlen : ¬ j < 1 → x.length * j.toNat < 1000000 := fun h => by
    have h1 : x.length ≤ 999 := by lia
    have h2 : j.toNat ≤ 999 := by lia
    have := Nat.mul_le_mul h1 h2
    lia
  refine P.mul_str (by rw [decide_eq_false (by lia), decide_eq_false (by lia)]; rfl) (fun h1 h2 => ?_) (fun h1 _ => ?_) ?_
  · have hj : (0 : Int) < j := by lia
    have := hlen h1
    intro q
    have h3 : ((2 ^ 63 - 1 : Int) / j) < x.length := q
    have h4 := Int.lt_mul_of_ediv_lt hj h3
    have h5 : (x.length : Int) * j = ((x.length * j.toNat : Nat) : Int) := by rw [Int.natCast_mul, Int.toNat_of_nonneg (by lia)]
    lia
  · have := hlen h1
    exact decide_eq_false (by have : sizeLine = 2 ^ 24 := rfl; lia)
  · split
    · rename_i q
      have e : strRep x j = Str.empty := by unfold strRep; rw [show j.toNat = 0 by lia]; rfl
      rw [e]
      exact ⟨by decide, post_tok rp (.str _ _ (strOk_iff.mpr fun _ h => nomatch h)) _⟩
    · split
      · rename_i q1 q
        have e : strRep x j = x := by
          unfold strRep
          rw [Bool.or_eq_true, beq_iff_eq, beq_iff_eq] at q
          rcases q with q | q
          · subst q; simp
          · have : x.cps = #[] := Array.eq_empty_of_size_eq_zero q
            cases x; simp at this; subst this; simp
        rw [e]
        exact post_here rp (.str _ _ ok)
      · rw [← rep_str]
        refine ⟨?_, post_tok rp (.str _ _ (rep_ok ok)) _⟩
        rename_i q1 q
        have := hlen q1
        have e : (strRep x j).length = x.length * j.toNat := by
          unfold strRep Str.length
          simp [Nat.mul_comm]
        show (strRep x j).length ≤ sizeLine
        rw [e]
        have : sizeLine = 2 ^ 24 := rfl
        lia
theorem VRels.rep {w : Wd} {vs : List Value} {xs : List AV} (r : VRels w vs xs) : ∀ n : Nat, VRels w (List.replicate n vs).flatten (List.replicate n xs).flatten
  | 0 => .nil
  | n + 1 => by rw [List.replicate_succ, List.replicate_succ, List.flatten_cons, List.flatten_cons]; exact r.append (r.rep n)
theorem prim_add {mt : Bool} (L : Live C s.heap M) (rp : Rep C.S C.pv s.heap M H) (ra : VRel (C.wd s.heap M) v a) (rb : VRel (C.wd s.heap M) u b) : Ev VRel C (binaryOp .Add v u) s M (addA mt a b H) := by
  have lists : Ev VRel C (binaryOp .Add v u) s M (orBad (lsOf H a) fun xs => orBad (lsOf H b) fun ys => if xs.length + ys.length ≤ sizeLine then newL mt (xs ++ ys) H else .bad) := by
    refine Ev.orBad fun xs e1 => Ev.orBad fun ys e2 => Ev.ite fun hz => ?_
    refine x3_3 (ls_of rp ra e1) fun l vs n e3' hl rl => ?_; subst e3'
    refine x3_3 (ls_of rp rb e2) fun l' ws n' e3' hl' rl' => ?_; subst e3'
    refine ev_newL L rp fun k => P.add_list hl hl' (k _ (vs ++ ws) _ _ _ (fun b o e => Heap.get?_push_of_some _ e) (size_none _) (Heap.get?_push_size _ rfl) (by simpa using rl.append rl')) ?_
    rw [rl.size, rl'.size]; exact hz
  cases a with
  | int i =>
    refine Ev.asInt fun j e => ?_
    subst e
    obtain ⟨t, rfl⟩ := ra.inv
    obtain ⟨t', rfl⟩ := rb.inv
    exact add_int (post_tok rp (.int _ _) _)
  | str x =>
    refine Ev.asStr fun j e => Ev.ite fun hz => ?_
    subst e
    refine x1_2 (ra.inv) fun t e1' ok => ?_; subst e1'
    refine x1_2 (rb.inv) fun t' e1' ok' => ?_; subst e1'
    exact PyProof.Rows.add_str (fun t' tk => post_tok rp (.str _ _ (strOk_append ok ok')) _) hz
  | _ => exact lists
theorem prim_mul (L : Live C s.heap M) (rp : Rep C.S C.pv s.heap M H) (ra : VRel (C.wd s.heap M) v a) (rb : VRel (C.wd s.heap M) u b) : Ev VRel C (binaryOp .Mult v u) s M (mulA a b H) := by
  refine Ev.asInt fun j e => ?_
  subst e
  obtain ⟨t', rfl⟩ := rb.inv
  cases a with
  | int i => obtain ⟨t, rfl⟩ := ra.inv; exact Ev.ite fun hq => PyProof.Rows.mul_int (post_tok rp (.int _ _) _) (hq.elim (fun q => .of_left (intBits_le_64 q.1 q.2)) fun q => .of_right (intBits_le_64 q.1 q.2))
  | str x => obtain ⟨t, rfl, ok⟩ := ra.inv; exact Ev.ite fun hq => ev_mul_str rp ok hq
  | _ => trivial
theorem prim_bin {mt : Bool} {op : Operator} (L : Live C s.heap M) (rp : Rep C.S C.pv s.heap M H) (ra : VRel (C.wd s.heap M) v a) (rb : VRel (C.wd s.heap M) u b) : Ev VRel C (binaryOp op v u) s M (binA mt op a b H) := by
  cases op with
  | Add => exact prim_add L rp ra rb
  | Mult => exact prim_mul L rp ra rb
  | Pow =>
    refine Ev.asInt fun i e1 => Ev.asInt fun j e2 => Ev.ite fun h => ?_
    subst e1 e2
    obtain ⟨t, rfl⟩ := ra.inv
    obtain ⟨t', rfl⟩ := rb.inv
    obtain ⟨rfl, rfl⟩ := h
    exact PyProof.Rows.pow_int (by decide) (by decide +kernel) (post_tok rp (.int _ _) _)
  | Sub =>
    refine Ev.asInt fun i e1 => Ev.asInt fun j e2 => ?_
    subst e1 e2
    obtain ⟨t, rfl⟩ := ra.inv
    obtain ⟨t', rfl⟩ := rb.inv
    exact PyProof.Rows.sub_int (post_tok rp (.int _ _) _)
  | FloorDiv =>
    refine Ev.asInt fun i e1 => Ev.asInt fun j e2 => Ev.ite fun h => ?_
    subst e1 e2
    obtain ⟨t, rfl⟩ := ra.inv
    obtain ⟨t', rfl⟩ := rb.inv
    refine PyProof.Rows.floordiv_int (Int.ne_of_gt h.1) ?_ (.inl (PyProof.noPylong_small (Int.ofNat_lt.mp (by rw [Int.natAbs_of_nonneg (Int.le_of_lt h.1)]; exact h.2))))
    rw [Int.fdiv_eq_ediv_of_nonneg _ (Int.le_of_lt h.1)]
    exact post_tok rp (.int _ _) _
  | Mod =>
    refine Ev.asInt fun i e1 => Ev.asInt fun j e2 => Ev.ite fun h => ?_
    subst e1 e2
    obtain ⟨t, rfl⟩ := ra.inv
    obtain ⟨t', rfl⟩ := rb.inv
    refine PyProof.Rows.mod_int' (Int.ne_of_gt h.1) ?_
    rw [Int.fmod_eq_emod_of_nonneg _ (Int.le_of_lt h.1)]
    exact post_tok rp (.int _ _) _
  | _ => trivial
end
section
variable {S : Stat} {pv : List Addr × List Addr} {h : Heap} {M : Mp} {H : AH}
noncomputable def ReadsN (h : Heap) (n : Nat) (v : Value) (d : PyData) : Prop := ∃ as, Reads h v d as ∧ d.canLay0 = true ∧ d.depth ≤ n
theorem denL_reads {n : Nat} {f : AV → Option PyData} {w : Wd} : ∀ {xs : List AV} {vs : List Value} {ds : List PyData}, (∀ a d v, f a = some d → VRel w v a → ReadsN w.h n v d) → denL f xs = some ds → VRels w vs xs → ∃ bs, ReadsAll w.h vs ds bs ∧ PyData.canLayAll0 ds = true ∧ PyData.depthAll ds ≤ n
  | [], vs, ds, hf, e, r => by
    cases e
    obtain rfl := List.eq_nil_of_length_eq_zero r.1
    exact ⟨_, .nil, rfl, Nat.zero_le _⟩
  | a :: xs, vs, ds, hf, e, r => by
    refine x1_2 (Option.bind_eq_some_iff.mp e) fun d hd e => ?_
    refine x1_2 (Option.map_eq_some_iff.mp e) fun ds' hds e => ?_
    subst e
    cases vs with
    | nil => cases r.1
    | cons v vs =>
      obtain ⟨r1, r2⟩ := r.un
      refine x1_3 (hf a d v hd r1) fun as q1 q2 q3 => ?_
      refine x1_3 (denL_reads hf hds r2) fun bs p1 p2 p3 => ?_
      exact ⟨_, .cons q1 p1, by simp only [PyData.canLayAll0, q2, p2, Bool.and_self], by simp only [PyData.depthAll]; lia -abstractProof⟩
theorem den_reads (R : Rep S pv h M H) : ∀ (n : Nat) (a : AV) (d : PyData) (v : Value), den n H a = some d → VRel (wdOf S pv h M) v a → ReadsN h n v d
  | 0, _, _, _, e, _ => nomatch e
  | n + 1, a, d, v, e, r => by
    have ih : ∀ a d v, den n H a = some d → VRel (wdOf S pv h M) v a → ReadsN (wdOf S pv h M).h n v d := fun a d v => den_reads R n a d v
    have ls : ∀ {l : Addr} {vs : Array Value} {m : Nat} {xs : List AV}, IsL h l vs m → VRels (wdOf S pv h M) vs.toList xs → (denL (den n H) xs).map PyData.list = some d → ReadsN h (n + 1) (.ref l) d := fun ho rs e => by
      refine x1_2 (Option.map_eq_some_iff.mp e) fun ds hd e2' => ?_; subst e2'
      refine x1_3 (denL_reads ih hd rs) fun bs q1 q2 q3 => ?_
      exact ⟨_, .list ho rfl rfl q1, q2, by simp only [PyData.depth]; lia⟩
    cases a with
    | none => cases e; rw [show v = .none from r.inv]; exact ⟨_, .none, rfl, Nat.zero_le _⟩
    | bool b => cases e; rw [show v = .bool b from r.inv]; exact ⟨_, .bool b, rfl, Nat.zero_le _⟩
    | int i => cases e; obtain ⟨t, rfl⟩ := r.inv; exact ⟨_, .int i t, rfl, Nat.zero_le _⟩
    | str x => cases e; obtain ⟨t, rfl, ok⟩ := r.inv; exact ⟨_, .str x t, ok, Nat.zero_le _⟩
    | tup xs =>
      refine x3_4 (r.inv) fun l vs m e3' ho _ rs => ?_; subst e3'
      refine x1_2 (Option.map_eq_some_iff.mp e) fun ds hd e2' => ?_; subst e2'
      refine x1_3 (denL_reads ih hd rs) fun bs q1 q2 q3 => ?_
      exact ⟨_, .tuple ho rfl rfl q1, q2, by simp only [PyData.depth]; lia⟩
    | lst xs =>
      refine x3_4 (r.inv) fun l vs m e3' ho _ rs => ?_; subst e3'
      exact ls ho rs e
    | ref k =>
      refine x1_2 (r.inv) fun p e1' z => ?_; subst e1'
      cases q : H[k]? with
      | none => rw [den_at q] at e; cases e
      | some ao =>
        rw [den_at q] at e
        cases ao with
        | lst xs =>
          obtain ⟨_, vs, m, ho, rs⟩ := R.obj _ _ _ z q
          exact ls ho rs e
        | _ => exact no_some e
    | rng a b => exact no_some e
    | exc c => exact no_some e
open Classical in
noncomputable def eqTo (h : Heap) (da : PyData) (y : Value) : Bool := if ∃ d as, Reads h y d as ∧ d.canLay0 = true ∧ PyData.eqv d da = true then true else false
theorem eqTo_is {h : Heap} {da d : PyData} {y : Value} {as : List Addr} (r : Reads h y d as) (l : d.canLay0 = true) : eqTo h da y = PyData.eqv d da := by
  unfold eqTo
  cases q : PyData.eqv d da with
  | true => rw [if_pos ⟨d, as, r, l, q⟩]
  | false =>
    rw [if_neg]
    rintro ⟨d', as', r', l', q'⟩
    rw [SeqAt.Reads.unique d' d y as' as l' r' r, q] at q'; cases q'
theorem any_eqTo {h : Heap} {da : PyData} : ∀ {vs : List Value} {ds : List PyData} {as : List Addr}, ReadsAll h vs ds as → PyData.canLayAll0 ds = true → vs.any (eqTo h da) = (ds.any fun d => PyData.eqv d da) ∧ ∀ y ∈ vs, ∃ d as, Reads h y d as ∧ d.canLay0 = true
  | [], _, _, r, _ => by cases r; exact ⟨rfl, fun _ h => nomatch h⟩
  | v :: vs, _, _, r, l => by
    cases r with
    | cons r rs =>
      simp only [PyData.canLayAll0, Bool.and_eq_true] at l
      obtain ⟨h1, h2⟩ := any_eqTo (da := da) rs l.2
      refine ⟨by simp only [List.any_cons, eqTo_is r l.1, h1], fun y hy => ?_⟩
      rcases List.mem_cons.mp hy with rfl | hy
      · exact ⟨_, _, r, l.1⟩
      · exact h2 y hy
end
theorem key_is {w : Wd} {v : Value} {a : AV} {k : Key} (r : VRel w v a) (e : keyOf a = some k) : k.is v = true ∧ k.ok = true := by
  cases a <;> first | exact no_some e | skip
  · cases e; obtain ⟨t, rfl⟩ := r.inv; exact ⟨by simp [Key.is, Value.isInt], rfl⟩
  · cases e; obtain ⟨t, rfl, ok⟩ := r.inv; exact ⟨by simp [Key.is, Value.isStrOf], ok⟩
theorem zip_valueAt {w : Wd} : ∀ {kvs : List (Key × Value)} {es : List (Key × AV)}, kvs.map (·.1) = es.map (·.1) → VRels w (kvs.map (·.2)) (es.map (·.2)) → ∀ k,
    (match es.lookup k with | some a => ∃ v, valueAt kvs k = some v ∧ VRel w v a | none => valueAt kvs k = none)
  | [], [], _, _, k => rfl
  | [], _ :: _, e, _, _ => by cases e
  | _ :: _, [], e, _, _ => by cases e
  | (k₁, v) :: kvs, (k₂, a) :: es, e, r, k => by
    obtain ⟨r, rs⟩ := r.un
    injection e with e1 e
    have e1 : k₁ = k₂ := e1
    subst e1
    have ih := zip_valueAt e rs k
    by_cases q : k = k₁
    · subst q; simp only [List.lookup_cons, beq_self_eq_true, valueAt, List.find?_cons, decide_true]; exact ⟨v, rfl, r⟩
    · have hb : (k == k₁) = false := by simpa using q
      have hb' : (decide (k₁ = k)) = false := by simpa using fun e => q e.symm
      simp only [List.lookup_cons, hb, valueAt, List.find?_cons, hb']
      exact ih
theorem lookup_any (es : List (Key × AV)) (k : Key) : (es.any fun e => decide (e.1 = k)) = (es.lookup k).isSome := by
  induction es with
  | nil => rfl
  | cons e r ih =>
    obtain ⟨k', a⟩ := e
    by_cases q : k = k'
    · subst q; simp
    · have hb : (k == k') = false := by simpa using q
      have hb' : (decide (k' = k)) = false := by simpa using fun e => q e.symm
      simp only [List.any_cons, hb', Bool.false_or, List.lookup_cons, hb, ih]
theorem valueAt_isSome {w : Wd} {kvs : List (Key × Value)} {es : List (Key × AV)} (e : kvs.map (·.1) = es.map (·.1)) (r : VRels w (kvs.map (·.2)) (es.map (·.2))) (k : Key) : (valueAt kvs k).isSome = es.any fun e => decide (e.1 = k) := by
  rw [lookup_any]
  have := zip_valueAt e r k
  split at this
  · rename_i a q; obtain ⟨w, hw, _⟩ := this; rw [hw, q]; rfl
  · rename_i q; rw [this, q]; rfl
theorem Live.notSys {C : Cx} {h : Heap} {M : Mp} (L : Live C h M) {r : Addr} (f : foot M r) : (r == sysModules) = false := by
  have h1 := L.new r f
  obtain ⟨mm, ⟨o, es, ep, ho, _⟩, _⟩ := C.S.seer.mods
  simp only [beq_eq_false_iff_ne]
  intro e
  subst e
  rw [h1] at ho; cases ho
section
variable {C : Cx} {s : Shared} {M : Mp} {H : AH} {v u : Value} {a b : AV}
theorem ltA_shape {a b : AV} {r : Bool} (e : ltA a b = some r) : (∃ i j, a = .int i ∧ b = .int j ∧ r = decide (i < j)) ∨ ∃ x y, a = .str x ∧ b = .str y ∧ r = decide (x.cps.toList < y.cps.toList) := by
  cases a <;> first | exact no_some e | skip
  · cases b <;> first | exact no_some e | skip
    exact .inl ⟨_, _, rfl, rfl, (Option.some.inj e).symm⟩
  · cases b <;> first | exact no_some e | skip
    exact .inr ⟨_, _, rfl, rfl, (Option.some.inj e).symm⟩
theorem leA_shape {a b : AV} {r : Bool} (e : leA a b = some r) : (∃ i j, a = .int i ∧ b = .int j ∧ r = decide (i ≤ j)) ∨ ∃ x y, a = .str x ∧ b = .str y ∧ r = !decide (y.cps.toList < x.cps.toList) := by
  cases a <;> first | exact no_some e | skip
  · cases b <;> first | exact no_some e | skip
    exact .inl ⟨_, _, rfl, rfl, (Option.some.inj e).symm⟩
  · cases b <;> first | exact no_some e | skip
    exact .inr ⟨_, _, rfl, rfl, (Option.some.inj e).symm⟩
theorem isA_plain {w : Wd} {r : Bool} (ra : VRel w v a) (rb : VRel w u b) (e : isA a b = some r) : plainIs v u = true ∧ r = (v == u) := by
  cases b <;> first | exact no_some e | skip
  · rw [show u = .none from rb.inv, ← Option.some.inj e]
    cases ra <;> exact ⟨rfl, rfl⟩
  · rename_i y
    rw [show u = .bool y from rb.inv, ← Option.some.inj e]
    cases ra <;> first | exact ⟨rfl, rfl⟩ | (rename_i x; cases x <;> cases y <;> exact ⟨rfl, rfl⟩)
theorem prim_lt {r : Bool} {P : Value → Shared → Prop} {E : Value → Shared → Prop} (ra : VRel (C.wd s.heap M) v a) (rb : VRel (C.wd s.heap M) u b) (e : ltA a b = some r) (h : P (.bool r) s) : wpAny C.S.M C.A (compareOp .Lt v u) P E s ∧ wpAny C.S.M C.A (compareOp .Gt u v) P E s := by
  rcases ltA_shape e with ⟨i, j, rfl, rfl, rfl⟩ | ⟨x, y, rfl, rfl, rfl⟩
  · obtain ⟨_, rfl⟩ := ra.inv; obtain ⟨_, rfl⟩ := rb.inv; exact ⟨PyProof.Rows.lt_int h, PyProof.Rows.gt_int h⟩
  · obtain ⟨_, rfl, _⟩ := ra.inv; obtain ⟨_, rfl, _⟩ := rb.inv; exact ⟨PyProof.Rows.lt_str h, PySem.P.gt_str h⟩
theorem prim_le {r : Bool} {P : Value → Shared → Prop} {E : Value → Shared → Prop} (ra : VRel (C.wd s.heap M) v a) (rb : VRel (C.wd s.heap M) u b) (e : leA a b = some r) (h : P (.bool r) s) : wpAny C.S.M C.A (compareOp .LtE v u) P E s ∧ wpAny C.S.M C.A (compareOp .GtE u v) P E s := by
  rcases leA_shape e with ⟨i, j, rfl, rfl, rfl⟩ | ⟨x, y, rfl, rfl, rfl⟩
  · obtain ⟨_, rfl⟩ := ra.inv; obtain ⟨_, rfl⟩ := rb.inv; exact ⟨PyProof.Rows.le_int h, PyProof.Rows.ge_int h⟩
  · obtain ⟨_, rfl, _⟩ := ra.inv; obtain ⟨_, rfl, _⟩ := rb.inv; exact ⟨PySem.P.le_str h, PySem.P.ge_str h⟩
theorem prim_eq {r : Bool} {P : Value → Shared → Prop} {E : Value → Shared → Prop} (L : Live C s.heap M) (rp : Rep C.S C.pv s.heap M H) (ra : VRel (C.wd s.heap M) v a) (rb : VRel (C.wd s.heap M) u b) (e : eqA H a b = some r) : (P (.bool r) s → wpAny C.S.M C.A (compareOp .Eq v u) P E s) ∧ (P (.bool (!r)) s → wpAny C.S.M C.A (compareOp .NotEq v u) P E s) := by
  refine x1_2 (Option.bind_eq_some_iff.mp e) fun da h1 e => ?_
  refine x1_2 (Option.map_eq_some_iff.mp e) fun db h2 e => ?_
  refine x1_3 (den_reads rp _ _ _ _ h1 ra) fun as r1 l1 d1 => ?_
  refine x1_3 (den_reads rp _ _ _ _ h2 rb) fun bs r2 l2 d2 => ?_
  have hu : C.A.units + min da.depth db.depth < cLine := by have := L.units; have : deep = 20 := rfl; lia -abstractProof
  subst e
  exact ⟨SeqAt.compareEq_reads r1 r2 l1 l2 hu, SeqAt.compareNe_reads r1 r2 l1 l2 hu⟩
theorem prim_in {r : Bool} {P : Value → Shared → Prop} {E : Value → Shared → Prop} (L : Live C s.heap M) (rp : Rep C.S C.pv s.heap M H) (ra : VRel (C.wd s.heap M) v a) (rb : VRel (C.wd s.heap M) u b) (e : inA H a b = some r) :
    ((∀ t, P (.bool r) { s with toks := t }) → wpAny C.S.M C.A (compareOp .In v u) P E s) ∧ ((∀ t, P (.bool (!r)) { s with toks := t }) → wpAny C.S.M C.A (compareOp .NotIn v u) P E s) := by
  unfold inA at e
  split at e
  · rename_i n es q
    refine x1_2 (Option.map_eq_some_iff.mp e) fun k hk e2' => ?_; subst e2'
    refine x2_7 (dc_of rp rb q) fun p kvs e2' z _ hm e1 e2 _ => ?_; subst e2'
    have hs := L.notSys (foot_at z).1
    rw [← valueAt_isSome e1 e2 k]
    exact ⟨fun h => wpAny_in_of (knd := kk C.S.prog C.S.w) (key_is ra hk).1 hs hm.mapOf (h _), fun h => wpAny_notIn_of (knd := kk C.S.prog C.S.w) (key_is ra hk).1 hs hm.mapOf (h _)⟩
  · split at e
    · rename_i xs q
      refine x1_2 (Option.bind_eq_some_iff.mp e) fun da h1 e => ?_
      refine x1_2 (Option.map_eq_some_iff.mp e) fun ds h2 e2' => ?_; subst e2'
      refine x3_3 (ls_of rp rb q) fun l vs n e3' hl rl => ?_; subst e3'
      refine x1_3 (den_reads rp _ _ _ _ h1 ra) fun as rd la d1 => ?_
      refine x1_3 (denL_reads (fun a d v => den_reads rp deep a d v) h2 rl) fun bs rds lds _ => ?_
      obtain ⟨ea, hmem⟩ := any_eqTo (da := da) rds lds
      have he : ∀ y, y ∈ vs → SeqAt.EqAt C.A.in1 s y v (eqTo s.heap da y) := fun y hy => by
        refine x2_2 (hmem y (by simpa using hy)) fun d' as' r' l' => ?_
        have e' : eqTo s.heap da y = PyData.eqv d' da := eqTo_is r' l'
        rw [e']
        refine SeqAt.eqAt_reads d' da C.A.in1 s y v as' as r' rd l' la ?_
        have := L.units
        show C.A.units + 1 + min d'.depth da.depth < cLine
        have := Nat.min_le_right d'.depth da.depth
        have : deep = 20 := rfl
        lia
      have ea : vs.any (eqTo s.heap da) = ds.any fun d => PyData.eqv d da := by rw [← Array.any_toList]; exact ea
      rw [← ea]
      exact ⟨fun h => SeqAt.in_listAt _ hl.isList he (h s.toks), fun h => SeqAt.notIn_listAt _ hl.isList he (h s.toks)⟩
    · unfold inStr at e
      cases a <;> first | exact no_some e | skip
      cases b <;> first | exact no_some e | skip
      obtain ⟨_, rfl, _⟩ := ra.inv; obtain ⟨_, rfl, _⟩ := rb.inv
      cases e
      exact ⟨fun h => SB.contains (h s.toks), fun h => SB.notContains (h s.toks)⟩
theorem prim_cmp {op : CmpOp} {r : Bool} {P : Value → Shared → Prop} {E : Value → Shared → Prop} (L : Live C s.heap M) (rp : Rep C.S C.pv s.heap M H) (ra : VRel (C.wd s.heap M) v a) (rb : VRel (C.wd s.heap M) u b) (e : cmpA H op a b = some r) (h : ∀ t, P (.bool r) { s with toks := t }) :
    wpAny C.S.M C.A (compareOp op v u) P E s := by
  have h' : P (.bool r) s := h s.toks
  cases op with
  | Lt => exact (prim_lt ra rb e h').1
  | LtE => exact (prim_le ra rb e h').1
  | Gt => exact (prim_lt rb ra e h').2
  | GtE => exact (prim_le rb ra e h').2
  | Eq => exact (prim_eq L rp ra rb e).1 h'
  | NotEq => obtain ⟨r', e', rfl⟩ := Option.map_eq_some_iff.mp e; exact (prim_eq L rp ra rb e').2 h'
  | Is => exact wpAny_is_plain (isA_plain ra rb e).1 ((isA_plain ra rb e).2 ▸ h')
  | IsNot => obtain ⟨r', e', rfl⟩ := Option.map_eq_some_iff.mp e; exact wpAny_isNot_plain (isA_plain ra rb e').1 ((isA_plain ra rb e').2 ▸ h')
  | In => exact (prim_in L rp ra rb e).1 h
  | NotIn => obtain ⟨r', e', rfl⟩ := Option.map_eq_some_iff.mp e; exact (prim_in L rp ra rb e').2 h
end
theorem pick_range {α : Type} (xs : List α) (a : Nat) : ∀ c : Nat, a + c ≤ xs.length → ((List.range c).map fun k => a + k).filterMap (fun i => xs[i]?) = (xs.drop a).take c
  | 0, _ => by simp
  | c + 1, h => by
    rw [List.range_succ, List.map_append, List.filterMap_append, pick_range xs a c (by lia -abstractProof)]
    have h1 : xs[a + c]? = some xs[a + c] := List.getElem?_eq_getElem (by lia -abstractProof)
    have h2 : (xs.drop a)[c]? = some xs[a + c] := by rw [List.getElem?_drop]; exact h1
    rw [List.take_add_one, h2]
    simp [h1]
theorem sliceRange_one (a b : Nat) : sliceRange a b 1 = (List.range (b - a)).map fun k => a + k := by
  unfold sliceRange
  have : (if (1 : Int) > 0 then (if (a : Int) < b then ((b : Int) - a + 1 - 1) / 1 else 0) else (if (a : Int) > b then ((a : Int) - b - 1 - 1) / (-1) else 0)).toNat = b - a := by
    simp only [show (1 : Int) > 0 by decide, if_true]
    split <;> lia -abstractProof
  simp only [this]
  refine List.map_congr_left fun k _ => ?_
  lia -abstractProof
theorem clip_eq (k : Int) (n : Nat) : ((max 0 (min (if k < 0 then k + n else k) (n : Int)))) = ((clip (some k) n 0 : Nat) : Int) := by
  unfold clip
  simp only
  split
  · rename_i h
    have h' : k + n ≤ n := by have := Int.add_le_add_right (Int.le_of_lt h) (n : Int); rwa [Int.zero_add] at this
    split
    · rename_i g
      exact Int.max_eq_left (Int.le_trans (Int.min_le_left _ _) (Int.le_of_lt g))
    · rename_i g
      rw [Int.min_eq_left h', Int.max_eq_right (Int.not_lt.mp g), Int.toNat_of_nonneg (Int.not_lt.mp g)]
  · rename_i h
    have h0 := Int.not_lt.mp h
    split
    · rename_i g
      rw [Int.min_eq_left (Int.le_of_lt g), Int.max_eq_right h0, Int.toNat_of_nonneg h0]
    · rename_i g
      rw [Int.min_eq_right (Int.not_lt.mp g), Int.max_eq_right (Int.natCast_nonneg _)]
theorem clip_le (k : Option Int) (n d : Nat) (h : d ≤ n) : clip k n d ≤ n := by
  unfold clip
  split
  · exact h
  · split
    · split <;> lia -abstractProof
    · split <;> lia -abstractProof
theorem slice_cut {α : Type} (xs : List α) (lo hi : Option Int) (a b : Int) (ha : a = (clip lo xs.length 0 : Nat)) (hb : b = (clip hi xs.length xs.length : Nat)) :
    (sliceRange a b 1).filterMap (fun i => xs[i]?) = cut xs lo hi := by
  subst ha hb
  rw [sliceRange_one]
  unfold cut
  have h1 := clip_le lo xs.length 0 (Nat.zero_le _)
  have h2 := clip_le hi xs.length xs.length (Nat.le_refl _)
  refine pick_range xs _ _ ?_
  rcases Nat.le_total (clip lo xs.length 0) (clip hi xs.length xs.length) with h | h
  · rw [Nat.add_sub_cancel' h]; exact h2
  · rw [Nat.sub_eq_zero_of_le h]; exact h1
theorem bounds_cut (lo hi : Option Int) (n : Nat) : sliceBounds lo hi none n = (((clip lo n 0 : Nat) : Int), ((clip hi n n : Nat) : Int), 1) := by
  unfold sliceBounds
  cases lo <;> cases hi <;> simp only [Option.getD_none, show (1 : Int) > 0 by decide, if_true]
  · rfl
  · rename_i k; rw [clip_eq k n]; rfl
  · rename_i k; rw [clip_eq k n]; rfl
  · rename_i k k'; rw [clip_eq k n, clip_eq k' n]; rfl
theorem strSlice_cut (lo hi : Option Int) (n : Nat) : Builtin.Str.strSliceIndices lo hi 1 n = sliceRange ((clip lo n 0 : Nat) : Int) ((clip hi n n : Nat) : Int) 1 := by
  unfold Builtin.Str.strSliceIndices
  cases lo <;> cases hi <;> simp only [show (1 : Int) > 0 by decide, if_true]
  · rfl
  · rename_i k; rw [clip_eq k n]; rfl
  · rename_i k; rw [clip_eq k n]; rfl
  · rename_i k k'; rw [clip_eq k n, clip_eq k' n]; rfl
theorem idx_seq {k : Int} {n m : Nat} (h : idxA k n = some m) : seqIndex? k n = some m := by
  unfold idxA at h
  simp only [seqIndex?]
  split at h
  · split at h
    · cases h
      have e : (if k < 0 then k + (n : Int) else k) = k := if_neg (by lia -abstractProof)
      rw [e, if_pos (by simp; exact ⟨‹_›, ‹_›⟩)]
    · cases h
  · split at h
    · cases h
      have e : (if k < 0 then k + (n : Int) else k) = k + n := if_pos (by lia -abstractProof)
      rw [e, if_pos (by simp; lia -abstractProof)]
    · cases h
theorem small_lt {k : Int} (h : small k = true) : -(2 ^ 62 : Int) < k ∧ k < 2 ^ 62 := by
  unfold small at h
  rw [Bool.and_eq_true, decide_eq_true_eq, decide_eq_true_eq] at h
  exact h
theorem at_shape {k : Int} {xs : List AV} {v : AV} (h : atA k xs = some v) : (-(2 ^ 62 : Int) < k ∧ k < 2 ^ 62) ∧ ∃ n, idxA k xs.length = some n ∧ xs[n]? = some v := by
  unfold atA at h
  split at h
  · rename_i q
    refine x1_2 (Option.bind_eq_some_iff.mp h) fun n h1 h2 => ?_
    exact ⟨small_lt q, n, h1, h2⟩
  · cases h
section
variable {C : Cx} {s : Shared} {M : Mp} {H : AH} {v u : Value} {a b : AV}
theorem prim_sub (L : Live C s.heap M) (rp : Rep C.S C.pv s.heap M H) (ra : VRel (C.wd s.heap M) v a) (rb : VRel (C.wd s.heap M) u b) : Ev VRel C (getItem v u) s M (subA a b H) := by
  unfold subA
  split
  · rename_i n es q
    refine Ev.orBad fun k hk => Ev.orBad fun x hx => ?_
    refine x2_7 (dc_of rp ra q) fun p kvs e2' z _ hm e1 e2 _ => ?_; subst e2'
    have := zip_valueAt e1 e2 k
    rw [hx] at this
    refine x1_2 (this) fun w hw rw' => ?_; try clear this
    exact wpAny_getItem_of (knd := kk C.S.prog C.S.w) (key_is rb hk).1 hm.mapOf hw (post_tok rp rw' _)
  · refine Ev.asInt fun k e => ?_
    subst e
    obtain ⟨t, rfl⟩ := rb.inv
    have lists : Ev VRel C (getItem v (.int k t)) s M (orBad (lsOf H a) fun xs => orBad (atA k xs) fun v => .ok v H) := by
      refine Ev.orBad fun xs e => Ev.orBad fun y hy => ?_
      obtain ⟨⟨lo, hi⟩, n, hn, hx⟩ := at_shape hy
      refine x3_3 (ls_of rp ra e) fun l vs m e3' hl rl => ?_; subst e3'
      refine x1_2 (rl.get n hx) fun y hy ry => ?_
      by_cases hk : 0 ≤ k
      · have : n = k.toNat := by unfold idxA at hn; rw [if_pos hk] at hn; split at hn <;> simp at hn; exact hn.symm
        subst this
        exact wpAny_getItem_list hl.isList hk (by lia) (by simpa using hy) (post_here rp ry)
      · have h1 : 0 ≤ k + xs.length ∧ n = (k + xs.length).toNat := by
          unfold idxA at hn; rw [if_neg hk] at hn; split at hn <;> simp at hn; exact ⟨by assumption, hn.symm⟩
        have hs := rl.size
        refine wpAny_getItem_list_neg hl.isList (by lia) (by rw [hs]; lia) (by lia) ?_ (post_here rp ry)
        rw [hs, ← h1.2]; simpa using hy
    cases a with
    | tup xs =>
      refine Ev.orBad fun y hy => ?_
      obtain ⟨⟨lo, hi⟩, n, hn, hx⟩ := at_shape hy
      refine x3_4 (ra.inv) fun l vs m e3' ho _ rl => ?_; subst e3'
      refine x1_2 (rl.get n hx) fun y hy ry => ?_
      exact P.getItem_tuple ho (by lia) (by lia) (by rw [rl.size]; exact idx_seq hn) (by simpa using hy) (post_here rp ry)
    | str x =>
      refine Ev.ite fun q => Ev.orBad fun c hc => ?_
      obtain ⟨lo, hi⟩ := small_lt q
      refine x1_2 (Option.bind_eq_some_iff.mp hc) fun n hn hx => ?_
      refine x1_2 (ra.inv) fun t' e1' ok => ?_; subst e1'
      refine PyProof.Rows.getItem_str (c := c) (by simp; lia) (by rw [idx_seq hn]; exact hx) (post_tok rp (.str _ _ (strOk_sub ok ?_)) _)
      intro d hd
      simp only [List.mem_singleton] at hd
      subst hd
      exact List.mem_of_getElem? (i := n) (by rw [Array.getElem?_toList]; exact hx)
    | _ => exact lists
theorem optI_part {w : Wd} {o : Option Int} (r : VRel w v a) (e : optI a = some o) : ∃ p : Option (Int × Tok), v = partValue p ∧ p.map (·.1) = o ∧ IsPart v o := by
  cases a <;> first | exact no_some e | skip
  · cases e; rw [show v = .none from r.inv]; exact ⟨none, rfl, rfl, .none⟩
  · rename_i k
    obtain ⟨t, rfl⟩ := r.inv
    replace e : (if small k = true then some (some k) else none) = some o := e
    split at e <;> cases e
    exact ⟨some (_, t), rfl, rfl, .int _ _⟩
theorem pick_toList (vs : Array Value) (is : List Nat) : (is.filterMap (vs[·]?)).toArray.toList = is.filterMap fun i => vs.toList[i]? := by simp
theorem isNone_eq {a : AV} (h : a.isNone = true) : a = .none := by
  cases a with
  | none => rfl
  | _ => exact no_tf h
theorem prim_slc {mt : Bool} {w₁ w₂ w₃ : Value} {lo hi st : AV} (L : Live C s.heap M) (rp : Rep C.S C.pv s.heap M H) (ra : VRel (C.wd s.heap M) v a) (r1 : VRel (C.wd s.heap M) w₁ lo) (r2 : VRel (C.wd s.heap M) w₂ hi) (r3 : VRel (C.wd s.heap M) w₃ st)
    {g : Addr} (hg : s.heap.IsSliceOf g w₁ w₂ w₃) : Ev VRel C (getItem v (.ref g)) s M (slcA mt a lo hi st H) := by
  refine Ev.orBad fun l h1 => Ev.orBad fun u h2 => Ev.ite fun h3 => ?_
  refine x1_3 (optI_part r1 h1) fun p1 e1' e1 i1 => ?_; subst e1'
  refine x1_3 (optI_part r2 h2) fun p2 e1' e2 i2 => ?_; subst e1'
  obtain rfl := isNone_eq h3
  obtain rfl : w₃ = .none := r3.inv
  have lists : Ev VRel C (getItem v (.ref g)) s M (orBad (lsOf H a) fun xs => if xs.length ≤ sizeLine then newL mt (cut xs l u) H else .bad) := by
    refine Ev.orBad fun xs e => Ev.ite fun hz => ?_
    refine x3_3 (ls_of rp ra e) fun k vs m e3' hl rl => ?_; subst e3'
    refine ev_newL L rp fun k => wpAny_getItem_list_slice hl.isList hg i1 i2 .none (fun q => nomatch q) (k _ _ 0 _ _ (fun b o e => Heap.get?_push_of_some _ e) (size_none _) (Heap.get?_push_size _ rfl) ?_) (by rw [rl.size]; exact hz)
    rw [← slice_cut xs l u _ _ rfl rfl]
    unfold slicePick
    rw [bounds_cut, pick_toList, rl.size]
    exact rl.pick _
  cases a with
  | str x =>
    refine Ev.ite fun hz => ?_
    refine x1_2 (ra.inv) fun t' e1' ok => ?_; subst e1'
    refine x1_3 (hg) fun o ho hc hd => ?_; try clear hg
    have hsub : ∀ c ∈ cut x.cps.toList l u, c ∈ x.cps.toList := fun c hc => List.mem_of_mem_drop (List.mem_of_mem_take hc)
    have hok : PyData.strOk (⟨(cut x.cps.toList l u).toArray⟩ : Str) = true := strOk_sub ok (by simpa using hsub)
    have hp : slicePicked x p1 p2 none = sliceRange ((clip l x.length 0 : Nat) : Int) ((clip u x.length x.length : Nat) : Int) 1 := by
      unfold slicePicked
      rw [e1, e2]
      exact strSlice_cut l u x.length
    have hlen : x.cps.toList.length = x.length := by simp [Str.length]
    have hc2 : (slicePicked x p1 p2 none).filterMap (x.cps[·]?) = cut x.cps.toList l u := by
      rw [hp, ← slice_cut x.cps.toList l u _ _ (by rw [hlen]) (by rw [hlen])]
      simp
    refine wpAny_getItem_str_slice (l := p1) (u := p2) (st := none) ⟨o, ho, hc, hd⟩ rfl ?_
    unfold sliceMade
    split
    · rename_i hh
      have hfull : cut x.cps.toList l u = x.cps.toList := by
        simp only [Option.map_none, Option.getD_none, Bool.and_eq_true, beq_iff_eq] at hh
        have h3 := hh.2
        rw [hp, sliceRange_one] at h3
        simp only [List.length_map, List.length_range] at h3
        have b1 := clip_le l x.length 0 (Nat.zero_le _)
        have b2 := clip_le u x.length x.length (Nat.le_refl _)
        unfold cut
        rw [hlen]
        have z1 : clip l x.length 0 = 0 ∨ x.length = 0 := by
          rcases Nat.eq_zero_or_pos (clip l x.length 0) with z | z
          · exact .inl z
          · exact .inr (Nat.eq_zero_of_not_pos fun p => Nat.lt_irrefl _ (Nat.lt_of_le_of_lt (Nat.le_trans (Nat.le_of_eq h3.symm) (Nat.sub_le_sub_right b2 _)) (Nat.sub_lt p z)))
        rcases z1 with z | z
        · rw [z] at h3 ⊢
          simp only [List.drop_zero]
          exact List.take_of_length_le (Nat.le_of_eq (hlen.trans h3.symm))
        · have : x.cps.toList = [] := List.eq_nil_of_length_eq_zero (hlen.trans z)
          rw [this]; simp
      rw [hfull]
      exact post_here rp (.str _ _ ok)
    · rw [hc2]
      refine ⟨?_, post_tok rp (.str _ _ hok) _⟩
      show (cut x.cps.toList l u).toArray.size ≤ sizeLine
      rw [List.size_toArray]
      unfold cut
      rw [List.length_take, List.length_drop]
      exact Nat.le_trans (Nat.min_le_right _ _) (Nat.le_trans (Nat.sub_le _ _) (hlen ▸ hz))
  | _ => exact lists
end
theorem intsAre_of {w : Wd} : ∀ {xs : List AV} {vs : List Value} {is : List Int}, VRels w vs xs → intsOf xs = some is → IntsAre vs is
  | [], vs, is, r, e => by cases e; obtain rfl := List.eq_nil_of_length_eq_zero r.1; exact .nil
  | x :: xs, vs, is, r, e => by
    cases vs with
    | nil => cases r.1
    | cons v vs =>
      obtain ⟨r1, r2⟩ := r.un
      cases x <;> first | exact no_some e | skip
      obtain ⟨t, rfl⟩ := r1.inv
      refine x1_2 (Option.map_eq_some_iff.mp e) fun is' h1 e2' => ?_; subst e2'
      exact .cons _ _ (intsAre_of r2 h1)
theorem ints_rel {w : Wd} {vs : List Value} {is : List Int} (h : IntsAre vs is) : VRels w vs (is.map .int) := by
  induction h with
  | nil => exact .nil
  | cons i t _ ih => exact .cons (.int i t) ih
theorem sumS {prog : Program} {w : World} {A : Around} {E : Value → Shared → Prop} {s : Shared} {l : Addr} {vs : List Value} {ns : List Int} {Q : Value → Shared → Prop} (hh : A.handled = none) (hl : s.heap.IsList l vs.toArray) (hi : IntsAre vs ns)
    (h : ∀ h' tk t', (∀ b o, s.heap.get? b = some o → h'.get? b = some o) → Q (.int ns.sum t') { s with heap := h', toks := tk }) : wpAny (model prog w) A (call (.builtin "sum") [.ref l]) Q E s := by
  obtain ⟨xs, hx⟩ := hi.allInts.items
  have hl' : s.heap.IsList l (intItems xs) := hx ▸ hl
  refine sum_intListG hh hl' fun h' tk t' hk => ?_
  have e1 : ns = xs.toList.map (·.1) := by
    rw [← nums_intItems, ← hx]
    exact (show numsOf vs.toArray.toList = ns from hi.numsOf).symm
  have e2 : preSum (numAt xs) xs.size = ns.sum := by
    rw [preSum_eq, List.take_of_length_le (by simp), e1]
  rw [e2]
  exact h h' tk t' hk
theorem items_keys {w : Wd} {kvs : List (Key × Value)} {es : List (Key × AV)} {acc : List Value} (e : kvs.map (·.1) = es.map (·.1)) (ok : ∀ e ∈ es, e.1.ok = true) (hlen : acc.length = kvs.length)
    (hP : ∀ (j : Nat) (v : Value), acc[j]? = some v → ∃ k x, kvs[j]? = some (k, x) ∧ k.is v = true) : VRels w acc (es.map (·.1.av)) := by
  refine ⟨by rw [hlen, List.length_map]; simpa using congrArg List.length e, fun i v x h1 h2 => ?_⟩
  refine x2_2 (hP i v h1) fun k y h3 h4 => ?_
  have h5 : (es.map (·.1))[i]? = some k := by rw [← e, List.getElem?_map, h3]; rfl
  rw [List.getElem?_map] at h2 h5
  refine x1_2 (Option.map_eq_some_iff.mp h2) fun en h6 e2' => ?_; subst e2'
  rw [h6] at h5
  cases h5
  have hk := ok en (List.mem_of_getElem? h6)
  have h4 : en.1.is v = true := h4
  generalize en.1 = k at h4 hk
  rcases Key.is_shape h4 with ⟨x, t, rfl, rfl⟩ | ⟨i, t, rfl, rfl⟩
  · exact .str x t hk
  · exact .int i t
theorem insI_perm (i : Int) : ∀ l : List Int, (insI i l).Perm (i :: l)
  | [] => .refl _
  | j :: r => by
    show List.Perm (if i ≤ j then i :: j :: r else j :: insI i r) _
    split
    · exact .refl _
    · exact ((insI_perm i r).cons j).trans (.swap i j r)
theorem sortI_perm : ∀ l : List Int, (sortI l).Perm l
  | [] => .refl _
  | i :: r => (insI_perm i (sortI r)).trans ((sortI_perm r).cons i)
theorem insI_sorted (i : Int) : ∀ l : List Int, l.Pairwise (· ≤ ·) → (insI i l).Pairwise (· ≤ ·)
  | [], _ => List.pairwise_singleton _ _
  | j :: r, h => by
    obtain ⟨h1, h2⟩ := List.pairwise_cons.mp h
    show List.Pairwise _ (if i ≤ j then i :: j :: r else j :: insI i r)
    split
    · rename_i q
      refine List.pairwise_cons.mpr ⟨fun x hx => ?_, h⟩
      rcases List.mem_cons.mp hx with rfl | hx
      · exact q
      · exact Int.le_trans q (h1 x hx)
    · rename_i q
      refine List.pairwise_cons.mpr ⟨fun x hx => ?_, insI_sorted i r h2⟩
      rcases List.mem_cons.mp ((insI_perm i r).mem_iff.mp hx) with rfl | hx
      · lia
      · exact h1 x hx
theorem sortI_sorted : ∀ l : List Int, (sortI l).Pairwise (· ≤ ·)
  | [] => .nil
  | i :: r => insI_sorted i _ (sortI_sorted r)
theorem sorted_uniq {l : List Int} {m : List Int} (h : m.Perm l) (hs : m.Pairwise (· ≤ ·)) : m = sortI l :=
  List.Perm.eq_of_pairwise (fun a b _ _ h1 h2 => Int.le_antisymm h1 h2) hs (sortI_sorted l) (h.trans (sortI_perm l).symm)
section
variable {C : Cx} {s : Shared} {M : Mp} {H : AH} {v : Value} {a : AV}
theorem vrels1 {w : Wd} {vs : List Value} (r : VRels w vs [a]) : ∃ v, vs = [v] ∧ VRel w v a := by
  rcases vs with _ | ⟨v, _ | ⟨_, _⟩⟩
  · cases r.1
  · exact ⟨v, rfl, r.un.1⟩
  · cases r.1
theorem vrels2 {w : Wd} {vs : List Value} {b : AV} (r : VRels w vs [a, b]) : ∃ v u, vs = [v, u] ∧ VRel w v a ∧ VRel w u b := by
  cases vs with
  | nil => cases r.1
  | cons v vs => obtain ⟨u, rfl, r'⟩ := vrels1 r.un.2; exact ⟨v, u, rfl, r.un.1, r'⟩
theorem list_dict {mt : Bool} {n : Nat} {es : List (Key × AV)} (hh : C.A.handled = none) (L : Live C s.heap M) (rp : Rep C.S C.pv s.heap M H) (ra : VRel (C.wd s.heap M) v a) (e : dcOf H a = some (n, es)) (hz : es.length ≤ 1000000) : Ev VRel C (call (.type "list") [v]) s M (newL mt (es.map (·.1.av)) H) := by
  refine x2_7 (dc_of rp ra e) fun p kvs e2' z _ hm e1 e2 ok => ?_; subst e2'
  have hs := L.notSys (foot_at z).1
  obtain ⟨ep, hd⟩ := hm.dictAt
  have hlen : kvs.length = es.length := by simpa using congrArg List.length e1
  refine ev_newL L rp fun k => kdl_call (kdl_dict (knd := kk C.S.prog C.S.w) (kvs := kvs) (ep := ep) hs) hh hd (by rw [hlen, sizeLine_eq]; lia) fun h' tk acc c hk hl hacc => ?_
  refine k _ _ _ _ _ hk (size_none _) hl ?_
  exact items_keys e1 ok (by rw [Array.length_toList]; exact hacc.1) fun j v hv => hacc.2 j v (by rw [← Array.getElem?_toList]; exact hv)
theorem ints_len : ∀ (xs : List AV) (js : List Int), intsOf xs = some js → js.length = xs.length
  | [], js, h => by cases h; rfl
  | x :: xs, js, h => by
    cases x <;> first | exact no_some h | skip
    refine x1_2 (Option.map_eq_some_iff.mp h) fun js' h1 e2' => ?_; subst e2'
    exact congrArg (· + 1) (ints_len xs js' h1)
theorem sorted_dict {n : Nat} {es : List (Key × AV)} {is : List Int} (hh : C.A.handled = none) (L : Live C s.heap M) (rp : Rep C.S C.pv s.heap M H) (ra : VRel (C.wd s.heap M) v a) (e : dcOf H a = some (n, es)) (ei : intsOf (es.map (·.1.av)) = some is) (h64 : is.length < 64) :
    Ev VRel C (call (.builtin "sorted") [v]) s M (.ok (.lst ((sortI is).map .int)) H) := by
  refine x2_7 (dc_of rp ra e) fun p kvs e2' z _ hm e1 e2 ok => ?_; subst e2'
  have hs := L.notSys (foot_at z).1
  obtain ⟨ep, hd⟩ := hm.dictAt
  have hlen : kvs.length = es.length := by simpa using congrArg List.length e1
  have hl2 : is.length = es.length := by simpa using ints_len _ _ ei
  refine Calls.call_function_entry kind_sorted plain_sorted entry_sorted (args_sorted1 _) ?_
  unfold Builtin.«sorted»
  refine wpAny_bind (m := checkCount "sorted" 1 1 _) (wpAny_pure ?_)
  refine wpAny_bind (kdu_collect (A := C.A.in1) (kdl_dict (knd := kk C.S.prog C.S.w) (kvs := kvs) (ep := ep) hs) hh hd (by rw [hlen, ← hl2, sizeLine_eq]; lia) fun h' tk acc hk hacc => ?_)
  have hal : acc.toList.length = kvs.length := by rw [Array.length_toList]; exact hacc.1
  have hv : VRels (C.wd s.heap M) acc.toList (es.map (·.1.av)) := items_keys e1 ok hal fun j v hv => hacc.2 j v (by rw [← Array.getElem?_toList]; exact hv)
  have hI := intsAre_of hv ei
  refine wpAny_bind (wpAny_newList ?_ (by rw [hal, hlen, ← hl2, sizeLine_eq]; lia))
  have hoL : (h'.push (seqObj "list" acc.toList.toArray 0)).get? h'.objs.size = some (seqObj "list" acc.toList.toArray 0) := Heap.get?_push_size _ rfl
  refine wpAny_bind (wpAny_holding (wpAny_call_entry slot_list_sort ⟨_, hoL, rfl⟩ entry_list_sort (list_sort_tree hoL hI (by rw [hal, hlen, ← hl2]; exact h64) fun out ns' a1 a2 a3 => ⟨_, rfl, ?_⟩) (args_list_sort _)))
  refine wpAny_pure ⟨_, rfl, ?_⟩
  obtain ⟨ee, he⟩ := sortedHeap_at (out := out) hoL
  have hr0 : s.heap.get? h'.objs.size = none := by
    cases z : s.heap.get? h'.objs.size with
    | none => rfl
    | some o => exact absurd (Heap.lt_size (hk _ _ z)) (Nat.lt_irrefl _)
  have K : ∀ b o, s.heap.get? b = some o → (sortedHeap (h'.push (seqObj "list" acc.toList.toArray 0)) h'.objs.size acc.toList out).get? b = some o := fun b o z => by
    have z' := hk b o z
    have hlt := Heap.lt_size z'
    rw [sortedHeap_old (Nat.ne_of_lt hlt) (by rw [Heap.size_push]; exact Nat.lt_succ_of_lt hlt)]
    exact Heap.get?_push_of_some _ z'
  rw [← sorted_uniq a2 a3]
  exact new_list (mt := false) (P := fun _ _ => True) L rp K hr0 he (ints_rel a1) rfl
noncomputable def biV : Bi → Value
  | .len => .builtin "len"
  | .range => .type "range"
  | .list _ => .type "list"
  | .min => .builtin "min"
  | .max => .builtin "max"
  | .sum => .builtin "sum"
  | .int => .type "int"
  | .sorted => .builtin "sorted"
theorem len_ev {n : Nat} (L : Live C s.heap M) (rp : Rep C.S C.pv s.heap M H) (r : VRel (C.wd s.heap M) v a) (e : lenA H a = some n) (hn : n < 2 ^ 62) : Ev VRel C (call (.builtin "len") [v]) s M (.ok (.int n) H) := by
  have hn' : (n : Int) < 2 ^ 63 := Int.lt_of_lt_of_le (Int.ofNat_lt.mpr hn) (by decide)
  have ls : ∀ xs : List AV, n = xs.length → lsOf H a = some xs → Ev VRel C (call (.builtin "len") [v]) s M (.ok (.int n) H) := fun xs en el => by
    subst en
    refine x3_3 (ls_of rp r el) fun l vs m e3' ho rl => ?_; subst e3'
    exact PyProof.Rows.len_list ho.isList (by rw [rl.size]; exact hn') (by rw [rl.size]; exact post_tok rp (.int _ _) _)
  have dc : ∀ {n' : Nat} (es : List (Key × AV)), n = es.length → dcOf H a = some (n', es) → Ev VRel C (call (.builtin "len") [v]) s M (.ok (.int n) H) := fun {n'} es en el => by
    subst en
    refine x2_7 (dc_of rp r el) fun p kvs e2' z _ hm e1 e2 ok => ?_; subst e2'
    have hs := L.notSys (foot_at z).1
    have hlen : kvs.length = es.length := by simpa using congrArg List.length e1
    exact call_len_dict (knd := kk C.S.prog C.S.w) hs hm (by rw [hlen]; exact hn') (by rw [hlen]; exact post_tok rp (.int _ _) _)
  cases a <;> first | exact no_some e | skip
  · cases e; obtain ⟨t, rfl, ok⟩ := r.inv; exact PyProof.Rows.len_str (Int.not_le.mpr hn') (post_tok rp (.int _ _) _)
  · cases e; obtain ⟨l, vs, m, rfl, ho, _, rl⟩ := r.inv; exact P.len_tuple ho (by rw [rl.size]; exact Int.not_le.mpr hn') (by rw [rl.size]; exact post_tok rp (.int _ _) _)
  · cases e; exact ls _ rfl rfl
  · rename_i k
    cases q : H[k]? with
    | none => rw [lenA_at q] at e; cases e
    | some ao =>
      rw [lenA_at q] at e
      cases ao with
      | lst xs => cases e; exact ls xs rfl (lsOf_at q)
      | dict es => cases e; exact dc es rfl (n' := k) (dcOf_at q)
      | _ => exact no_some e
theorem Ev.hot {α β : Type} {R : RelT α β} {t : Sem α} {o : Out β} (L : Live C s.heap M) (h : C.A.handled = none → Ev R C t s M o) : Ev R C t s M (if C.hot = true then .bad else o) := by
  split
  · trivial
  · rename_i q; exact h (L.handled (by simpa using q))
theorem prim_bi {f : Bi} {as : List AV} {vals : List Value} (L : Live C s.heap M) (rp : Rep C.S C.pv s.heap M H) (ra : VRels (C.wd s.heap M) vals as) : Ev VRel C (call (biV f) vals) s M (biA C.hot f as H) := by
  rcases as with _ | ⟨a, _ | ⟨b, _ | ⟨_, _⟩⟩⟩
  · trivial
  · refine x1_2 (vrels1 ra) fun v e1' r => ?_; subst e1'
    cases f with
    | len => exact Ev.orBad fun n e => Ev.ite fun hn => len_ev L rp r e hn
    | range =>
      refine Ev.asInt fun n e => ?_
      subst e
      obtain ⟨t, rfl⟩ := r.inv
      exact call_range_1 (post_push rp (.rng (Heap.get?_push_size _ rfl) (off_new rp L (size_none _))) _)
    | list mt =>
      show Ev VRel C _ s M (match dcOf H a with | some (_, es) => if (!C.hot && decide (es.length ≤ 1000000)) = true then newL mt (es.map (·.1.av)) H else .bad | none => orBad (lsOf H a) fun xs => if xs.length ≤ sizeLine then newL mt xs H else .bad)
      split
      · rename_i e
        refine Ev.ite fun q => ?_
        rw [Bool.and_eq_true, Bool.not_eq_true', decide_eq_true_eq] at q
        exact list_dict (L.handled q.1) L rp r e q.2
      · refine Ev.orBad fun xs e => Ev.ite fun hz => ?_
        refine x3_3 (ls_of rp r e) fun l vs n e3' hl rl => ?_; subst e3'
        exact ev_newL L rp fun k => call_list_seq l (T := "list") (.inl rfl) hl rfl rfl (fun h' c hk hD => k _ _ _ _ _ hk (size_none _) hD rl) (by rw [rl.size]; exact hz)
    | sum =>
      refine Ev.orBad fun is e => Ev.hot L fun hh => ?_
      refine x1_2 (Option.bind_eq_some_iff.mp e) fun xs e ei => ?_
      refine x3_3 (ls_of rp r e) fun l vs n e3' hl rl => ?_; subst e3'
      exact sumS (vs := vs.toList) hh (by simpa using hl.isList) (intsAre_of rl ei) fun h' tk t' hk => post_grow rp hk (.int _ _) _
    | sorted =>
      show Ev VRel C _ s M (match dcOf H a with | some (_, es) => orBad (intsOf (es.map (·.1.av))) fun is => if (!C.hot && decide (is.length < 64)) = true then .ok (.lst ((sortI is).map .int)) H else .bad | none => .bad)
      split
      · rename_i e
        refine Ev.orBad fun is ei => Ev.ite fun q => ?_
        rw [Bool.and_eq_true, Bool.not_eq_true', decide_eq_true_eq] at q
        exact sorted_dict (L.handled q.1) L rp r e ei q.2
      · trivial
    | int =>
      refine Ev.asBool fun b e => ?_
      subst e
      rw [show v = .bool b from r.inv]
      exact call_int_bool (post_tok rp (.int _ _) _)
    | _ => trivial
  · refine x2_3 (vrels2 ra) fun v u e2' r1 r2 => ?_; subst e2'
    refine Ev.asInt fun i e1 => Ev.asInt fun j e2 => ?_
    subst e1 e2
    obtain ⟨t, rfl⟩ := r1.inv
    obtain ⟨t', rfl⟩ := r2.inv
    cases f with
    | min =>
      refine Ev.hot L fun hh => min_two_ints hh fun h' tk hk => ?_
      split <;> exact post_grow rp hk (.int _ _) _
    | max =>
      refine Ev.hot L fun hh => max_two_ints hh fun h' tk hk => ?_
      split <;> exact post_grow rp hk (.int _ _) _
    | range => exact call_range_2 (post_push rp (.rng (Heap.get?_push_size _ rfl) (off_new rp L (size_none _))) _)
    | _ => trivial
  · trivial
end
theorem join_mem (sep : Str) : ∀ (ys : List Str), ∀ c ∈ (Str.join sep ys).cps.toList, c ∈ sep.cps.toList ∨ ∃ y ∈ ys, c ∈ y.cps.toList
  | [], c, hc => by simp [Str.join, Str.empty] at hc
  | [x], c, hc => .inr ⟨x, .head _, hc⟩
  | x :: y :: r, c, hc => by
    have e : Str.join sep (x :: y :: r) = x ++ sep ++ Str.join sep (y :: r) := rfl
    rw [e, Str.cps_append, Str.cps_append] at hc
    simp only [Array.toList_append, List.mem_append] at hc
    rcases hc with (hc | hc) | hc
    · exact .inr ⟨x, .head _, hc⟩
    · exact .inl hc
    · rcases join_mem sep (y :: r) c hc with h | ⟨z, hz, h⟩
      · exact .inl h
      · exact .inr ⟨z, .tail _ hz, h⟩
theorem join_ok {sep : Str} {ys : List Str} (hs : PyData.strOk sep = true) (hy : ∀ y ∈ ys, PyData.strOk y = true) : PyData.strOk (Txt.join sep ys) = true := by
  show PyData.strOk (Builtin.Str.glued sep ys) = true
  rw [StrLaws.glued_eq_join, strOk_iff]
  intro c hc
  rcases join_mem sep ys c hc with h | ⟨z, hz, h⟩
  · exact (strOk_iff.mp hs) c h
  · exact (strOk_iff.mp (hy z hz)) c h
theorem strs_vals {w : Wd} : ∀ {xs : List AV} {vs : List Value} {ys : List Str}, VRels w vs xs → strsOf xs = some ys → ∃ l : List (Str × Tok), vs = strValues l ∧ l.map (·.1) = ys ∧ ∀ y ∈ ys, PyData.strOk y = true
  | [], vs, ys, r, e => by cases e; obtain rfl := List.eq_nil_of_length_eq_zero r.1; exact ⟨[], rfl, rfl, fun _ h => nomatch h⟩
  | x :: xs, vs, ys, r, e => by
    cases vs with
    | nil => cases r.1
    | cons v vs =>
      obtain ⟨r1, r2⟩ := r.un
      cases x <;> first | exact no_some e | skip
      refine x1_2 (r1.inv) fun t e1' ok => ?_; subst e1'
      refine x1_2 (Option.map_eq_some_iff.mp e) fun ys' h1 e2' => ?_; subst e2'
      refine x1_3 (strs_vals r2 h1) fun l e1' h2 h3 => ?_; subst e1'
      exact ⟨(_, t) :: l, rfl, congrArg (_ :: ·) h2, fun y hy => by rcases List.mem_cons.mp hy with rfl | hy; exact ok; exact h3 y hy⟩
theorem zip_without {w : Wd} (k : Key) : ∀ {kvs : List (Key × Value)} {es : List (Key × AV)}, kvs.map (·.1) = es.map (·.1) → VRels w (kvs.map (·.2)) (es.map (·.2)) →
    (without kvs k).map (·.1) = (es.filter fun e => decide (e.1 ≠ k)).map (·.1) ∧ VRels w ((without kvs k).map (·.2)) ((es.filter fun e => decide (e.1 ≠ k)).map (·.2))
  | [], [], _, _ => ⟨rfl, .nil⟩
  | [], _ :: _, e, _ => by cases e
  | _ :: _, [], e, _ => by cases e
  | (k₁, v) :: kvs, (k₂, a) :: es, e, r => by
    obtain ⟨r, rs⟩ := r.un
    injection e with e1 e
    have e1 : k₁ = k₂ := e1
    subst e1
    have ih := zip_without k e rs
    unfold without at ih ⊢
    by_cases q : k₁ = k
    · simp only [List.filter_cons, q, ne_eq, not_true_eq_false, decide_false, Bool.false_eq_true, if_false]; exact ih
    · simp only [List.filter_cons, q, ne_eq, not_false_eq_true, decide_true, if_true, List.map_cons, ih.1, true_and]
      exact .cons r ih.2
theorem zip_stored {w : Wd} {k : Key} {v : Value} {a : AV} (rv : VRel w v a) {kvs : List (Key × Value)} {es : List (Key × AV)} (e : kvs.map (·.1) = es.map (·.1)) (r : VRels w (kvs.map (·.2)) (es.map (·.2))) :
    (stored kvs k v).map (·.1) = (setD es k a).map (·.1) ∧ VRels w ((stored kvs k v).map (·.2)) ((setD es k a).map (·.2)) := by
  have hany : (kvs.any fun kv => decide (kv.1 = k)) = es.any fun e => decide (e.1 = k) := by
    have h1 : (kvs.any fun kv => decide (kv.1 = k)) = (kvs.map (·.1)).any fun x => decide (x = k) := by rw [List.any_map]; rfl
    have h2 : (es.any fun kv => decide (kv.1 = k)) = (es.map (·.1)).any fun x => decide (x = k) := by rw [List.any_map]; rfl
    rw [h1, h2, e]
  unfold stored setD
  rw [hany]
  split
  · clear hany
    have : ∀ {kvs : List (Key × Value)} {es : List (Key × AV)}, kvs.map (·.1) = es.map (·.1) → VRels w (kvs.map (·.2)) (es.map (·.2)) →
        (kvs.map fun kv => if kv.1 = k then (kv.1, v) else kv).map (·.1) = (es.map fun e => if e.1 = k then (e.1, a) else e).map (·.1) ∧
        VRels w ((kvs.map fun kv => if kv.1 = k then (kv.1, v) else kv).map (·.2)) ((es.map fun e => if e.1 = k then (e.1, a) else e).map (·.2)) := by
      intro kvs
      induction kvs with
      | nil => intro es e r; cases es with
        | nil => exact ⟨rfl, .nil⟩
        | cons _ _ => simp at e
      | cons kv kvs ih =>
        intro es e r
        cases es with
        | nil => simp at e
        | cons en es =>
          obtain ⟨r, rs⟩ := r.un
          simp only [List.map_cons, List.cons.injEq] at e
          have := ih e.2 rs
          simp only [List.map_cons, e.1]
          by_cases q : en.1 = k
          · simp only [q, if_true, List.cons.injEq, true_and]; exact ⟨this.1, .cons rv this.2⟩
          · simp only [q, if_false, List.cons.injEq]; exact ⟨⟨e.1, this.1⟩, .cons r this.2⟩
    exact this e r
  · simp only [List.map_append, e, List.map_cons, List.map_nil, true_and]
    exact r.append (.cons rv .nil)
theorem setD_ok {es : List (Key × AV)} {k : Key} {a : AV} (h : ∀ e ∈ es, e.1.ok = true) (hk : k.ok = true) : ∀ e ∈ setD es k a, e.1.ok = true := by
  intro e he
  unfold setD at he
  split at he
  · refine x1_2 (List.mem_map.mp he) fun e' he' e2' => ?_; subst e2'
    split
    · exact h e' he'
    · exact h e' he'
  · rcases List.mem_append.mp he with he | he
    · exact h e he
    · simp only [List.mem_singleton] at he; subst he; exact hk
theorem kind_shape {H : AH} {o : AV} : ∀ {k : Nat}, kindM o H = k → (k = 0 ∨ (k = 1 ∧ ∃ x, o = .str x) ∨ (k = 2 ∧ ∃ n xs, o = .ref n ∧ H[n]? = some (.lst xs)) ∨ k = 3 ∧ ∃ n es, o = .ref n ∧ dcOf H o = some (n, es)) := by
  rintro k rfl
  cases o with
  | str x => exact .inr (.inl ⟨rfl, x, rfl⟩)
  | ref n =>
    simp only [kindM]
    cases q : H[n]? with
    | none => exact .inl rfl
    | some ao =>
      cases ao with
      | lst xs => exact .inr (.inr (.inl ⟨rfl, n, xs, rfl, q⟩))
      | dict es => exact .inr (.inr (.inr ⟨rfl, n, es, rfl, dcOf_at q⟩))
      | _ => exact .inl rfl
  | _ => exact .inl rfl
section
variable {C : Cx} {s : Shared} {M : Mp} {H : AH} {v : Value} {o : AV}
theorem meth_at {f : Bm} {id : String} (rp : Rep C.S C.pv s.heap M H) (r : VRel (C.wd s.heap M) v o) (h : bmId (kindM o H) f = some id) :
    ∃ T, PlainAttrs T ∧ Slot T f.name id ∧ typeOf (.builtin id) = pure (.type "method_descriptor") ∧ s.TypeIs v T ∧ ∀ a, v = .ref a → ∃ ob, s.heap.get? a = some ob ∧ ob.dict = none := by
  rcases kind_shape (rfl : kindM o H = _) with e | ⟨e, x, rfl⟩ | ⟨e, n, xs, rfl, q⟩ | ⟨e, n, es, rfl, q⟩ <;> rw [e] at h
  · cases f <;> cases h
  · refine x1_2 (r.inv) fun t e1' ok => ?_; subst e1'
    have e : ∀ a, Value.str x t = .ref a → ∃ ob, s.heap.get? a = some ob ∧ ob.dict = none := fun _ q => nomatch q
    cases f <;> cases h
    · exact ⟨"str", F.plainAttrs_str, F.slot_str_join, F.type_str_join, typeIs_str _ _ _, e⟩
  · refine x1_2 (r.inv) fun p e1' z => ?_; subst e1'
    obtain ⟨_, vs, m, hl, rl⟩ := rp.obj _ _ _ z q
    have e : ∀ a, Value.ref p.1 = .ref a → ∃ ob, s.heap.get? a = some ob ∧ ob.dict = none := fun _ q => by cases q; exact ⟨_, hl, rfl⟩
    have hT : s.TypeIs (.ref p.1) "list" := ⟨_, hl, rfl⟩
    cases f <;> cases h
    · exact ⟨"list", F.plainAttrs_list, F.slot_list_append, F.type_list_append, hT, e⟩
    · exact ⟨"list", F.plainAttrs_list, F.slot_list_extend, F.type_list_extend, hT, e⟩
    · exact ⟨"list", F.plainAttrs_list, F.slot_list_clear, F.type_list_clear, hT, e⟩
  · refine x2_5 (dc_of rp r q) fun p kvs e2' z _ hd _ => ?_; subst e2'
    cases f <;> cases h
    · exact ⟨"dict", F.plainAttrs_dict, F.slot_dict_get, F.type_dict_get, hd.typeIs, hd.mapOf.noDict⟩
    · exact ⟨"dict", F.plainAttrs_dict, F.slot_dict_pop, F.type_dict_pop, hd.typeIs, hd.mapOf.noDict⟩
theorem post_setL {h' : Heap} {n : Nat} {p : Addr × Addr} {xs ys : List AV} {vs : Array Value} {m tk : Nat} (L : Live C s.heap M) (rp : Rep C.S C.pv s.heap M H) (z : M[n]? = some p) (hq : H[n]? = some (.lst xs)) (ep : p.2 = p.1) (k : Heap.SameBut p.1 s.heap h') (hl : IsL h' p.1 vs m) (rl : VRels (C.wd s.heap M) vs.toList ys) :
    Post VRel C s M .none (setL H n ys) .none { s with heap := h', toks := tk } :=
  post_setO L rp z (fun es e => by rw [hq] at e; cases e) (fun _ q => nomatch q) (fun b o hb _ z => (k.2 b hb).trans z) (fun K => ⟨ep, vs, m, hl, rl.keep K⟩) (fun _ => .none)
theorem prim_ml {f : Bm} {id : String} {n : Nat} {xs as : List AV} {vals : List Value} (L : Live C s.heap M) (rp : Rep C.S C.pv s.heap M H) (ro : VRel (C.wd s.heap M) v (.ref n)) (ra : VRels (C.wd s.heap M) vals as) (q : H[n]? = some (.lst xs)) (hid : bmId 2 f = some id) (hz : xs.length ≤ 1000000) : Ev VRel C (call (.builtin id) (v :: vals)) s M (mlA f n xs as H) := by
  refine x1_2 (ro.inv) fun p e1' z => ?_; subst e1'
  obtain ⟨ep, vs, m, hl, rl⟩ := rp.obj _ _ _ z q
  have hs1 := rl.size
  cases f with
  | append =>
    cases hid
    rcases as with _ | ⟨a, _ | ⟨_, _⟩⟩
    · trivial
    · refine x1_2 (vrels1 ra) fun u e1' ru => ?_; subst e1'
      refine call_meets F.slot_list_append ⟨_, hl, rfl⟩ F.entry_list_append (F.args_list_append_2 _ _) (list_append p.1 vs m u (by rw [hs1, sizeLine_eq]; lia)) ⟨hl, ?_⟩
      exact post_setL L rp z q ep (Heap.SameBut.update ..) (IsL.update hl _) (by simpa using rl.snoc ru)
    · trivial
  | extend =>
    cases hid
    rcases as with _ | ⟨a, _ | ⟨_, _⟩⟩
    · trivial
    · cases a <;> first | trivial | skip
      rename_i ys
      refine Ev.ite fun hk => ?_
      refine x1_2 (vrels1 ra) fun u e1' ru => ?_; subst e1'
      refine x3_4 (ru.inv) fun l' ws n' e3' hl' nf' rl' => ?_; subst e3'
      have hs2 := rl'.size
      have hne : p.1 ≠ l' := fun e => nf' (.inl (e ▸ (foot_at z).1))
      refine call_meets F.slot_list_extend ⟨_, hl, rfl⟩ F.entry_list_extend (F.args_list_extend_2 _ _) (AutoSeq1.list_extend_list_list_0 p.1 vs m l' ws n' (by
        simp [Builtin.List.listTooLong, sizeLine_eq]; intro _; lia) (by rw [sizeLine_eq]; lia) (by rw [sizeLine_eq]; lia)) ⟨hl, hl', ?_⟩
      exact post_setL L rp z q ep (Heap.SameBut.update ..) (IsL.update hl _) (by simpa using rl.append rl')
    · trivial
  | clear =>
    cases hid
    rcases as with _ | ⟨_, _⟩
    · obtain rfl : vals = [] := List.eq_nil_of_length_eq_zero ra.1
      refine call_meets F.slot_list_clear ⟨_, hl, rfl⟩ F.entry_list_clear (F.args_list_clear_1 _) (AutoSeq1.list_clear_list_0 p.1 vs m (by rw [hs1, sizeLine_eq]; lia)) ⟨hl, ?_⟩
      exact post_setL L rp z q ep (Heap.SameBut.update ..) (IsL.update hl fun _ => #[]) .nil
    · trivial
  | _ => exact no_some hid
theorem prim_md {f : Bm} {id : String} {n : Nat} {es : List (Key × AV)} {as : List AV} {vals : List Value} (L : Live C s.heap M) (rp : Rep C.S C.pv s.heap M H) (ro : VRel (C.wd s.heap M) v (.ref n)) (ra : VRels (C.wd s.heap M) vals as) (q : H[n]? = some (.dict es)) (hid : bmId 3 f = some id) (hz : es.length ≤ 1000000) : Ev VRel C (call (.builtin id) (v :: vals)) s M (mdA f n es as H) := by
  refine x2_7 (dc_of (n := n) (es := es) rp ro (dcOf_at q)) fun p kvs e2' z ep hm e1 e2 ok => ?_; subst e2'
  have hs := L.notSys (foot_at z).1
  have hlen : kvs.length = es.length := by simpa using congrArg List.length e1
  rcases as with _ | ⟨a, _ | ⟨_, _⟩⟩
  · trivial
  · refine Ev.orBad fun k hk => ?_
    refine x1_2 (vrels1 ra) fun u e1' ru => ?_; subst e1'
    have hv := zip_valueAt e1 e2 k
    cases f with
    | get =>
      cases hid
      refine call_meetsIn F.slot_dict_get hm.typeIs F.entry_dict_get (F.args_dict_get_2 _ _) (meets_dict_get (kk C.S.prog C.S.w) p.1 (key_is ru hk).1 hs) ⟨_, hm.mapOf, ?_⟩
      cases hx : es.lookup k with
      | none => rw [hx] at hv; rw [hv]; exact post_tok rp .none _
      | some c => rw [hx] at hv; obtain ⟨w, hw, rw'⟩ := hv; rw [hw]; exact post_tok rp rw' _
    | pop =>
      cases hid
      refine Ev.orBad fun c hl => ?_
      rw [hl] at hv
      obtain ⟨w, hw, rw'⟩ := hv
      refine call_meetsIn F.slot_dict_pop hm.typeIs F.entry_dict_pop (F.args_dict_pop_2 _ _) (meets_dict_pop_there (kk C.S.prog C.S.w) p.1 (key_is ru hk).1 [] (.inl rfl) (by
        rcases Key.is_shape (key_is ru hk).1 with ⟨x, t, rfl, rfl⟩ | ⟨i, t, rfl, rfl⟩ <;> rfl)) ⟨kvs, w, hm, by rw [hlen, sizeLine_eq]; lia, hw, fun h' hm' hsb => ?_⟩
      refine post_setO L rp z (fun es e => by rw [q] at e; cases e) (fun _ q => nomatch q) (fun b o hb _ z => (hsb.2 b hb).trans z) (fun K => ?_) (fun K => rw'.keep K)
      have hz := zip_without k e1 (e2.keep K)
      exact ⟨ep, _, hm', hz.1, hz.2, fun e he => ok e (List.mem_filter.mp he).1⟩
    | _ => exact no_some hid
  · trivial
theorem prim_mb {f : Bm} {id : String} {as : List AV} {vals : List Value} (L : Live C s.heap M) (rp : Rep C.S C.pv s.heap M H) (ro : VRel (C.wd s.heap M) v o) (ra : VRels (C.wd s.heap M) vals as) (hid : bmId (kindM o H) f = some id) : Ev VRel C (call (.builtin id) (v :: vals)) s M (mbA f o as H) := by
  rcases kind_shape (rfl : kindM o H = _) with e | ⟨e, x, rfl⟩ | ⟨e, n, xs, rfl, q⟩ | ⟨e, n, es, rfl, q⟩ <;> rw [e] at hid
  · cases f <;> cases hid
  · show Ev VRel C _ s M (msA f x as H)
    refine x1_2 (ro.inv) fun t e1' ok => ?_; subst e1'
    rcases as with _ | ⟨a, _ | ⟨_, _⟩⟩
    · trivial
    · refine x1_2 (vrels1 ra) fun u e1' ru => ?_; subst e1'
      cases f with
      | join =>
        cases hid
        refine Ev.orBad fun ys e => Ev.ite fun hj => ?_
        refine x1_2 (Option.bind_eq_some_iff.mp e) fun xs e hs => ?_
        refine x3_3 (ls_of rp ru e) fun l vs n e3' hl rl => ?_; subst e3'
        refine x1_3 (strs_vals rl hs) fun ll h1 h2 h3 => ?_
        exact SC.join (l := ll) (by rw [← h1]; simpa using hl.isList) h2 hj fun t' k => post_tok rp (.str _ _ (join_ok ok h3)) _
      | _ => exact no_some hid
    · trivial
  · rw [mb_lst q]
    exact Ev.ite fun hz => prim_ml L rp ro ra q hid hz
  · cases h : H[n]? with
    | none => rw [mb_at h]; trivial
    | some ao =>
      cases ao with
      | dict es => rw [mb_at h]; exact Ev.ite fun hz => prim_md L rp ro ra h hid hz
      | lst xs => rw [dcOf_at h] at q; cases q
      | _ => rw [mb_at h]; trivial
end
structure ClsF (K : Frag) (C : Addr) : Prop where
  ga : findIn K (.ref C) "__getattribute__" = some (some (.builtin "object.__getattribute__"))
  gt : findIn K (.ref C) "__getattr__" = some none
  sa : findIn K (.ref C) "__setattr__" = some (some (.builtin "object.__setattr__"))
  pl : plainOver K C = true
  hd : hasDictIn K C = true
  mks : makesIn K C = true
theorem clsOK_parts {K : Frag} {C : Addr} (h : clsOK K C = true) : ClsF K C := by
  unfold clsOK at h
  simp only [Bool.and_eq_true, beq_iff_eq] at h
  refine w6 h fun a b c d e f => ?_
  exact ⟨a, b, c, d, e, f⟩
noncomputable def tyN (T : Tb) : Ty → Option Str
  | .int => some "int"
  | .bool => some "bool"
  | .str => some "str"
  | .tup => some "tuple"
  | .lst => some "list"
  | .val => some "ValueError"
  | .exc c => T.exs[c]?
noncomputable def Stat.tyV (S : Stat) : Ty → Option Value
  | .int => some (.type "int")
  | .bool => some (.type "bool")
  | .str => some (.type "str")
  | .tup => some (.type "tuple")
  | .lst => some (.type "list")
  | .val => some (.type "ValueError")
  | .exc c => (S.X c).map .ref
structure Fit (S : Stat) (G : Gm) : Prop where
  cls : ∀ c D, S.cl c = some D → ClsF S.K D
  attr : ∀ c D x, S.cl c = some D → x ∈ S.an → findIn S.K (.ref D) x = some none
  inj : ∀ (i j : Nat) x, S.an[i]? = some x → S.an[j]? = some x → i = j
  na : G.na = S.an.length
  few : S.an.length ≤ 1000
  mth : ∀ c D m f, S.cl c = some D → G.fn c m = some f → ∃ x fa, S.T.mn[m]? = some x ∧ x ∉ S.an ∧ S.fa f = some fa ∧ findIn S.K (.ref D) x = some (some (.ref fa)) ∧ isFn S.K (.ref fa) = true ∧ fnIn S.K fa = true
  ini : S.T.mn[0]? = some ("__init__" : Str)
  exc : ∀ c D, S.X c = some D → excIn S.K D veMro "ValueError.__new__" = true ∧ seesIn S.K D = true
  up : ∀ c d D E l, S.X c = some D → S.X d = some E → G.up[c]? = some l → subIn S.K (.ref D) (.ref E) = some (l.any fun x => decide (x = d))
  fn : ∀ (f : Nat) x, S.T.fns[f]? = some (some x) → ∃ fa, S.fa f = some fa ∧ nsIn S.K mainGlobals x = some (some (.ref fa)) ∧ fnIn S.K fa = true
  cn : ∀ (c : Nat) x, S.T.cls[c]? = some x → ∃ D, S.cl c = some D ∧ nsIn S.K mainGlobals x = some (some (.ref D)) ∧ keepIn S.K (.ref D) = true
  xn : ∀ (c : Nat) x, S.T.exs[c]? = some x → ∃ D, S.X c = some D ∧ nsIn S.K mainGlobals x = some (some (.ref D))
  gi : ∀ x i, (x, i) ∈ S.T.gi → ∃ t, nsIn S.K mainGlobals x = some (some (.int i t))
  bi : ∀ x ∈ biNames, nsIn S.K mainGlobals x = some none
  kb : ∀ (k : Kd) (t : Ty) v, S.tyV t = some v → kitOne S.K (.type k.type) v = some (isK k t)
  kx : ∀ c D (t : Ty) v, S.X c = some D → S.tyV t = some v → kitOne S.K (.ref D) v = some (isX G c t)
theorem getL_any {name : Str} {es : List DictEntry} {r : Option Value} (h : getL name es = some r) : r.isSome = es.any (·.key.isStr name) := by
  unfold getL at h
  split at h
  · rename_i e he
    cases h
    rw [List.any_eq_true.mpr ⟨e, List.mem_of_find?_eq_some he, List.find?_some he⟩]; rfl
  · rename_i he
    split at h
    · cases h
    · cases h
      have : es.any (·.key.isStr name) = false := by
        rw [List.any_eq_false]
        exact fun e hm => List.find?_eq_none.mp he e hm
      rw [this]; rfl
theorem isStr_key {name name' : Str} {v : Value} (h : v.isStr name = true) : v.isStr name' = decide (name = name') := by
  cases v <;> first | exact no_tf h | skip
  rename_i x t
  obtain rfl : x = name := beq_iff_eq.mp h
  show (x == name') = _
  rw [Bool.eq_iff_iff]; simp
theorem find_putL (name name' : Str) (hsh : Int) (t : Tok) (v : Value) : ∀ es : List DictEntry,
    ((putL name hsh (.str name t) v es).find? (·.key.isStr name')).map (·.val) = if name = name' then some v else (es.find? (·.key.isStr name')).map (·.val)
  | [] => by
    simp only [putL, List.find?_cons, List.find?_nil, Value.isStr]
    by_cases q : name = name'
    · subst q; simp
    · have : (name == name') = false := by simpa using q
      simp [this, q]
  | e :: r => by
    have ih := find_putL name name' hsh t v r
    simp only [putL]
    cases h : e.key.isStr name with
    | true =>
      have h' := isStr_key (name' := name') h
      simp only [if_true, List.find?_cons, h']
      by_cases q : name = name'
      · simp [q]
      · simp [q]
    | false =>
      simp only [Bool.false_eq_true, if_false, List.find?_cons]
      cases h2 : e.key.isStr name' with
      | true =>
        have : name ≠ name' := fun q => by rw [q, h2] at h; cases h
        simp [this]
      | false => exact ih
theorem refKey_putL (name : Str) (hsh : Int) (t : Tok) (v : Value) : ∀ es : List DictEntry, (putL name hsh (.str name t) v es).any (·.refKey) = es.any (·.refKey)
  | [] => rfl
  | e :: r => by
    simp only [putL]
    split
    · rfl
    · simp only [List.any_cons, refKey_putL name hsh t v r]
theorem getL_eq (name : Str) (es : List DictEntry) : getL name es = match (es.find? (·.key.isStr name)).map (·.val) with | some v => some (some v) | none => if es.any (·.refKey) then none else some none := by
  unfold getL
  cases es.find? (·.key.isStr name) <;> rfl
theorem putL_length (name : Str) (hsh : Int) (k v : Value) : ∀ es : List DictEntry, (putL name hsh k v es).length = if es.any (·.key.isStr name) then es.length else es.length + 1
  | [] => rfl
  | e :: r => by
    simp only [putL, List.any_cons]
    by_cases h : e.key.isStr name = true
    · simp [h]
    · have ih := putL_length name hsh k v r
      rw [Bool.not_eq_true] at h
      simp only [h, Bool.false_eq_true, if_false, List.length_cons, ih, Bool.false_or]
      split <;> rfl
theorem FRel.put {w : Wd} {an : List Str} {es : List DictEntry} {fs : List (Option AV)} {k : Nat} {x : Str} {hsh : Int} {t : Tok} {v : Value} {a : AV} (inj : ∀ (i j : Nat) x, an[i]? = some x → an[j]? = some x → i = j) (r : FRel w an es fs) (hx : an[k]? = some x) (hk : k < fs.length) (rv : VRel w v a) : FRel w an (putL x hsh (.str x t) v es) (fs.set k (some a)) := by
  have e1 : ∀ name, getL name (putL x hsh (.str x t) v es) = if x = name then some (some v) else getL name es := fun name => by
    rw [getL_eq, getL_eq, find_putL, refKey_putL]
    by_cases q : x = name <;> simp [q]
  refine ⟨?_, by rw [List.length_set]; exact r.2.1, fun y hy => ?_, fun j y hy => ?_⟩
  · rw [putL_length, r.1]
    unfold cnt
    rw [List.countP_set hk]
    have hz := r.2.2.2 k x hx
    rw [List.getElem?_eq_getElem hk] at hz
    cases q : fs[k] with
    | none =>
      rw [q] at hz
      rw [← getL_any hz]
      simp
    | some b =>
      rw [q] at hz
      refine x1_2 (hz) fun u hu _ => ?_; try clear hz
      rw [← getL_any hu]
      have hpos : 0 < List.countP (·.isSome) fs := List.countP_pos_iff.mpr ⟨fs[k], List.getElem_mem hk, by rw [q]; rfl⟩
      simp
      lia
  · rw [e1, if_neg (fun z : x = y => hy (z ▸ List.mem_of_getElem? hx))]
    exact r.2.2.1 y hy
  · have hn := r.2.2.2 j y hy
    rw [List.getElem?_set]
    by_cases q : k = j
    · subst q
      rw [hx] at hy
      cases hy
      rw [if_pos rfl, if_pos hk]
      exact ⟨v, by rw [e1, if_pos rfl], rv⟩
    · rw [if_neg q, e1, if_neg (fun z : x = y => q (inj k j x hx (z ▸ hy)))]
      exact hn
section
variable {S : Stat} {pv : List Addr × List Addr} {h : Heap} {M : Mp} {H : AH} {v : Value} {a : AV}
theorem in_shape {n c : Nat} {fs : List (Option AV)} (e : inOf H a = some (n, c, fs)) : a = .ref n ∧ H[n]? = some (.inst c fs) := by
  cases a <;> first | exact no_some e | skip
  rename_i n
  cases q : H[n]? with
  | none => rw [inOf_at q] at e; cases e
  | some ao =>
    rw [inOf_at q] at e
    cases ao <;> cases e
    exact ⟨rfl, q⟩
theorem in_of {n c : Nat} {fs : List (Option AV)} (R : Rep S pv h M H) (r : VRel (wdOf S pv h M) v a) (e : inOf H a = some (n, c, fs)) :
    ∃ (p : Addr × Addr) (D : Addr) (es : List DictEntry) (m : Nat), v = .ref p.1 ∧ M[n]? = some p ∧ S.cl c = some D ∧ InstAt h p.1 (instObj D p.2) D (some (dictOf es m)) ∧ h.get? p.2 = some (dictOf es m) ∧ FRel (wdOf S pv h M) S.an es fs ∧ p.2 ≠ p.1 := by
  obtain ⟨rfl, q⟩ := in_shape e
  refine x1_2 (r.inv) fun p hv z => ?_
  obtain ⟨ne, D, es, m, hc, h1, h2, f⟩ := R.obj _ _ _ z q
  exact ⟨p, D, es, m, hv, z, hc, ⟨h1, rfl, rfl, h2⟩, h2, f, ne⟩
end
theorem VRel.handed {w : Wd} {v : Value} {a : AV} (r : VRel w v a) : handedIn v = true := by cases r <;> rfl
section
variable {C : Cx} {G : Gm} {s : Shared} {M : Mp} {H : AH} {v u w₀ : Value} {a o i : AV}
theorem prim_attr {n c k : Nat} {fs : List (Option AV)} {x : Str} {b : AV} {expr : Bool} (Y : Fit C.S G) (L : Live C s.heap M) (rp : Rep C.S C.pv s.heap M H) (ro : VRel (C.wd s.heap M) v o) (e : inOf H o = some (n, c, fs)) (hx : C.S.an[k]? = some x) (hk : fs[k]? = some (some b)) : Ev VRel C (getAttr v x expr) s M (.ok b H) := by
  refine x4_7 (in_of rp ro e) fun p D es m e4' z hc I hd f _ => ?_; subst e4'
  have K := Y.cls c D hc
  have := f.2.2.2 k x hx
  rw [hk] at this
  refine x1_2 (this) fun v hv rv => ?_; try clear this
  exact get_value L.K I K.ga (findObj_own K.hd (Y.attr c D x hc (List.mem_of_getElem? hx)) rfl (by rw [lookIn_dict]; exact hv)) rv.handed (post_tok rp rv _)
theorem prim_setAttr {n c k : Nat} {fs : List (Option AV)} {x : Str} (Y : Fit C.S G) (L : Live C s.heap M) (rp : Rep C.S C.pv s.heap M H) (ro : VRel (C.wd s.heap M) u o) (rv : VRel (C.wd s.heap M) v a) (e : inOf H o = some (n, c, fs)) (hx : C.S.an[k]? = some x) (hk : k < fs.length) :
    Ev EqR C (setAttr u x v) s M (.ok () (H.set n (.inst c (fs.set k (some a))))) := by
  refine x4_7 (in_of rp ro e) fun p D es m e4' z hc I hd f ne => ?_; subst e4'
  have KK := Y.cls c D hc
  have k2 := Y.attr c D x hc (List.mem_of_getElem? hx)
  refine set_plain L.K I KK.sa ?_
  have ht : takerIn C.S.K D x = some none := by unfold takerIn; rw [k2]; rfl
  refine osa_open (s := { s with toks := s.toks + 1 }) L.K I KK.pl ht fun b => ?_
  refine x1_2 (any_some KK.hd) fun cd hcd hd' => ?_
  have hx' := I.at_
  refine wpAny_bind (wpAny_pure (wpAny_bind (wpAny_bind (wpAny_loadPart hx' (wpAny_bind (Looks.here (s := { s with toks := s.toks + 1 }) (looks_clsIn L.K hcd) ?_))))))
  rw [hd']
  refine wpAny_pure (a := some p.2) (wpAny_bind (wpAny_pure (wpAny_bind ?_)))
  unfold nsSet
  refine wpAny_bind (wpAny_bind (wpAny_askSetting (wpAny_pure (wpAny_bind (wpAny_mkText (wpAny_bind (wpAny_loadPart hd ?_)))))))
  dsimp only
  have hg : ∃ r, getL x es = some r := by
    have := f.2.2.2 k x hx
    split at this
    · obtain ⟨w, hw, _⟩ := this; exact ⟨_, hw⟩
    · exact ⟨_, this⟩
  obtain ⟨gr, hg⟩ := hg
  have c1 : (!es.toArray.any (·.key.isStr x) && es.toArray.any (·.refKey)) = false := by
    rw [← Array.any_toList, ← Array.any_toList]
    show (!es.any (·.key.isStr x) && es.any (·.refKey)) = false
    rw [← getL_any hg]
    rw [getL_eq] at hg
    split at hg
    · cases hg; rfl
    · split at hg
      · cases hg
      · rename_i z; rw [Bool.not_eq_true] at z; rw [z, Bool.and_false]
  rw [aRefKeyMayBeTheName_at, c1]
  refine wpAny_updatePart hd ?_
  have hp := putName_dict x (PyData.keyHash C.S.w.params x) (.str x (s.toks + 1)) v es m
  have hu := Heap.get?_update_self (h := s.heap) (Obj.putName x (PyData.keyHash C.S.w.params x) (.str x (s.toks + 1)) v) hd (by rw [hp]; rfl)
  rw [hp] at hu
  refine wpAny_bind (wpAny_lookBehind hu (pastItsLine_dict (by
    rw [List.size_toArray, putL_length]
    have h1 := f.1
    have h2 : cnt fs ≤ fs.length := List.countP_le_length
    have h3 := f.2.1
    have h4 := Y.few
    rw [sizeLine_eq]
    split <;> lia -abstractProof)) ?_)
  refine wpAny_pure ?_
  have k' : ∀ b o, b ≠ p.1 → b ≠ p.2 → s.heap.get? b = some o → (s.heap.update p.2 (Obj.putName x (PyData.keyHash C.S.w.params x) (.str x (s.toks + 1)) v)).get? b = some o := fun b o _ hb z => (Heap.get?_update_other _ _ (Ne.symm hb)).trans z
  exact post_setO L rp z (fun es e' => by rw [(in_shape e).2] at e'; cases e') (fun _ q => nomatch q) k' (fun K => ⟨ne, D, _, _, hc, (Heap.get?_update_other _ _ ne).trans I.at_, hu, (f.keep K).put Y.inj hx hk (rv.keep K)⟩) (fun _ => rfl)
theorem prim_setItem {H' : AH} (L : Live C s.heap M) (rp : Rep C.S C.pv s.heap M H) (ro : VRel (C.wd s.heap M) u o) (ri : VRel (C.wd s.heap M) w₀ i) (rv : VRel (C.wd s.heap M) v a) (e : setItemA o i a H = some H') : Ev EqR C (setItem u w₀ v) s M (.ok () H') := by
  cases o <;> first | exact no_some e | skip
  rename_i n
  cases q : H[n]? with
  | none => rw [setItemA_at q] at e; cases e
  | some ao =>
    rw [setItemA_at q] at e
    cases ao with
    | inst c fs => cases e
    | ldict es => cases e
    | lst xs =>
      cases i <;> first | exact no_some e | skip
      rename_i k
      simp only at e
      split at e <;> first | exact no_some e | skip
      rename_i hs
      obtain ⟨lo, hi⟩ := small_lt hs
      refine x1_2 (Option.map_eq_some_iff.mp e) fun j hn e2' => ?_; subst e2'
      obtain ⟨t, rfl⟩ := ri.inv
      refine x1_2 (ro.inv) fun p e1' z => ?_; subst e1'
      obtain ⟨ep, vs, m, hl, rl⟩ := rp.obj _ _ _ z q
      have hs := rl.size
      have fin : ∀ j', j' = j → Post EqR C s M () (setL H n (xs.set j a)) () { s with heap := s.heap.update p.1 (Obj.mapSeq (·.setIfInBounds j' v)) } := by
        rintro j' rfl
        refine post_setO (tk := s.toks) L rp z (fun es e => by rw [q] at e; cases e) (fun _ q => nomatch q) (fun b o hb _ z => (Heap.get?_update_other _ _ (Ne.symm hb)).trans z) (fun K => ⟨ep, _, _, IsL.update hl _, ?_⟩) (fun _ => rfl)
        simpa using VRels.set (rv.keep K) (rl.keep K) j'
      by_cases h0 : 0 ≤ k
      · have : k.toNat = j ∧ k < xs.length := by unfold idxA at hn; rw [if_pos h0] at hn; split at hn <;> simp at hn; exact ⟨hn, by assumption⟩
        exact ki_setAt hl h0 (by lia) (by rw [hs]; exact this.2) (fin _ this.1)
      · have : 0 ≤ k + xs.length ∧ (k + xs.length).toNat = j := by unfold idxA at hn; rw [if_neg h0] at hn; split at hn <;> simp at hn; exact ⟨by assumption, hn⟩
        refine ki_setBack hl (by lia) (by rw [hs]; lia) (by lia) (fin _ ?_)
        rw [hs]; exact this.2
    | dict es =>
      simp only at e
      split at e <;> first | exact no_some e | skip
      rename_i hz
      refine x1_2 (Option.map_eq_some_iff.mp e) fun k hk e2' => ?_; subst e2'
      refine x2_7 (dc_of (n := n) (es := es) rp ro (dcOf_at q)) fun p kvs e2' z ep hm e1 e2 ok => ?_; subst e2'
      have hlen : kvs.length = es.length := by simpa using congrArg List.length e1
      refine wpAny_setItem_pairs (hsz := by rw [hlen, sizeLine_eq]; exact Nat.le_of_lt (lt_t ‹_› rfl)) (key_is ri hk).1 hm fun h' hm' hsb => ?_
      refine post_setO L rp z (fun es e => by rw [q] at e; cases e) (fun _ q => nomatch q) (fun b o hb _ z => (hsb.2 b hb).trans z) (fun K => ?_) (fun K => rfl)
      have hz := zip_stored (k := k) (rv.keep K) e1 (e2.keep K)
      exact ⟨ep, _, hm', hz.1, hz.2, setD_ok ok (key_is ri hk).2⟩
end
set_option linter.unusedSimpArgs false
noncomputable def plainBase : Expr → Bool
  | .Call (.Name _ _) [] [] _ => false
  | _ => true
noncomputable def notSlice : Expr → Bool
  | .Slice .. => false
  | _ => true
noncomputable def notSet : Expr → Bool
  | .Set .. => false
  | _ => true
noncomputable def notStar : Expr → Bool
  | .Starred .. => false
  | _ => true
noncomputable def constA : Const → Option AV
  | .none => some .none
  | .bool b => some (.bool b)
  | .int i => some (.int i)
  | .str x => if PyData.strOk x then some (.str x) else none
  | _ => none
noncomputable def Snd (C : Cx) (env : Env) (ns : List (Option Str)) (f : DE) (e : Expr) : Prop :=
  ∀ {ρ : RE} {s : Shared} {M : Mp} {H : AH}, St C env ns ρ s M H → Ev VRel C (eval e env) s M (f ρ H)
noncomputable def tst (f : DE) (ρ : RE) (H : AH) : Out Bool := (f ρ H).bind fun a H₁ => asBool a fun b => .ok b H₁
noncomputable def SndT (C : Cx) (env : Env) (ns : List (Option Str)) (f : DE) (e : Expr) : Prop :=
  ∀ {ρ : RE} {s : Shared} {M : Mp} {H : AH}, St C env ns ρ s M H → Ev EqR C (isTrue e env (eval e env)) s M (tst f ρ H)
noncomputable abbrev Snd2 (C : Cx) (env : Env) (ns : List (Option Str)) (f : DE) (e : Expr) : Prop := Snd C env ns f e ∧ SndT C env ns f e
theorem bind_bind {α β γ : Type} (o : Out α) (f : α → AH → Out β) (g : β → AH → Out γ) : (o.bind f).bind g = o.bind fun a H => (f a H).bind g := by cases o <;> rfl
theorem asBool_bind {α β : Type} (a : AV) (f : Bool → Out α) (g : α → AH → Out β) : (asBool a f).bind g = asBool a fun i => (f i).bind g := by cases a <;> rfl
theorem orBad_bind {α β γ : Type} (o : Option γ) (f : γ → Out α) (g : α → AH → Out β) : (orBad o f).bind g = orBad o fun i => (f i).bind g := by cases o <;> rfl
section
variable {C : Cx} {G : Gm} {env : Env} {ns : List (Option Str)}
theorem snd_bad {e : Expr} : Snd C env ns badE e := fun _ => trivial
theorem bad_ok {e : Expr} : Snd2 C env ns badE e := ⟨fun _ => trivial, fun _ => trivial⟩
theorem snd_cst {k : Const} {kd : Nat} {p : Pos} {a : AV} (h : constA k = some a) : Snd C env ns (cstE a) (.Constant k kd p) := fun {ρ s M H} st => by
  show Ev VRel C (constValue env k) s M (.ok a H)
  cases k <;> first | exact no_some h | skip
  · cases h; exact Ev.pure st.rep .none
  · cases h; exact Ev.pure st.rep (.bool _)
  · cases h; exact wpAny_mkInt (post_tok st.rep (.int _ _) _)
  · rename_i x
    replace h : (if PyData.strOk x = true then some (AV.str x) else none) = some a := h
    split at h <;> cases h
    rename_i ok; exact wpAny_mkText (post_tok st.rep (.str _ _ ok) _)
theorem snd_var {i : Nat} {x : Str} {p : Pos} (hx : ns[i]? = some (some x)) (hd : (x == ("__debug__" : Str)) = false) (hcd : (x == ("__classdict__" : Str)) = false) : Snd C env ns (varE i) (.Name x p) := fun {ρ s M H} st => by
  show Ev VRel C _ s M (match ρ[i]? with | some (some a) => .ok a H | _ => .bad)
  split
  · rename_i a ha
    refine x2_1 (st.env) fun m cm E => ?_
    refine x1_2 (E.var i x a hx ha) fun v rv hv => ?_
    refine wpAny_Name ?_ hd
    rcases hv with ⟨hk, hm⟩ | ⟨hk, ⟨c, hc⟩, hcm⟩
    · exact wpAny_loadName_local E.fn hk E.loc hm (post_here st.rep rv)
    · have hcell := (E.cell x c hc).1
      rw [hcm] at hcell
      rcases hk with hk | hk
      · exact wpAny_loadName_cell E.fn hk hc hcell (post_here st.rep rv)
      · exact wpAny_loadName_free E.fn hk hc hcell (post_here st.rep rv) hcd
  · trivial
theorem name_glob {ρ : RE} {s : Shared} {M : Mp} {H : AH} {x : Str} {p : Pos} {v : Value} {P : Value → Shared → Prop} {E : Value → Shared → Prop} (st : St C env ns ρ s M H) (hk : env.kindOf x = some .globalImplicit) (hd : (x == ("__debug__" : Str)) = false)
    (e : nsIn C.S.K mainGlobals x = some (some v)) (h : P v s) : wpAny C.S.M C.A (eval (.Name x p) env) P E s := by
  refine x2_1 (st.env) fun m cm Ev => ?_
  have hg : s.heap.Ns env.globals C.S.mg := Ev.glob ▸ C.S.hT.g.keeps st.live.stays
  exact Calls.Name_function_global Ev.fn hk (Calls.loadGlobal_global hg (mg_of C.S.hK C.S.hT.g e) h) hd
theorem name_boot {ρ : RE} {s : Shared} {M : Mp} {H : AH} {x : Str} {p : Pos} {v : Value} {P : Value → Shared → Prop} {E : Value → Shared → Prop} (st : St C env ns ρ s M H) (hk : env.kindOf x = some .globalImplicit) (hd : (x == ("__debug__" : Str)) = false)
    (e : nsIn C.S.K mainGlobals x = some none) (hb : bootBuiltins x = some v) (hn : x ≠ "__name__") (h : P v s) : wpAny C.S.M C.A (eval (.Name x p) env) P E s := by
  refine x2_1 (st.env) fun m cm Ev => ?_
  have hg : s.heap.Ns env.globals C.S.mg := Ev.glob ▸ C.S.hT.g.keeps st.live.stays
  have hbn : s.heap.Ns env.builtins C.S.mb := Ev.bns ▸ C.S.hT.b.keeps st.live.stays
  exact Calls.Name_function_global Ev.fn hk (Calls.loadGlobal_builtin hg (mg_none_of C.S.hK C.S.hT.g e) hbn ((C.S.hT.builtins x hn).trans hb) h) hd
theorem snd_gv {x : Str} {i : Int} {t : Tok} {p : Pos} (hk : env.kindOf x = some .globalImplicit) (hd : (x == ("__debug__" : Str)) = false) (e : nsIn C.S.K mainGlobals x = some (some (.int i t))) : Snd C env ns (cstE (.int i)) (.Name x p) :=
  fun st => name_glob st hk hd e (post_here st.rep (.int _ _))
theorem snd_bin {mt : Bool} {op : Operator} {l r : DE} {l' r' : Expr} {p : Pos} (h1 : Snd C env ns l l') (h2 : Snd C env ns r r') : Snd C env ns (binE mt op l r) (.BinOp l' op r' p) := fun {ρ s M H} st => by
  show Ev VRel C (eval l' env >>= fun a => holding [a] (eval r' env) >>= fun b => standAt p >>= fun _ => operate [a, b] (binaryOp op a b)) s M _
  refine (h1 st).then fun a H₁ v s₁ M₁ x1 rp1 ra => ?_
  have st1 := st.step x1 rp1
  refine Ev.then (Ev.holding (h2 st1)) fun b H₂ u s₂ M₂ x2 rp2 rb => ?_
  exact Ev.stand (Ev.operate (prim_bin (st1.live.step x2) rp2 (ra.keep (x2.kp st1.live noW_seq)) rb))
theorem snd_neg {f : DE} {e' : Expr} {p : Pos} (h1 : Snd C env ns f e') : Snd C env ns (negE f) (.UnaryOp .USub e' p) := fun {ρ s M H} st => by
  show Ev VRel C (eval e' env >>= fun v => standAt p >>= fun _ => holding [v] (unaryOp .USub v)) s M _
  refine (h1 st).then fun a H₁ v s₁ M₁ x1 rp1 ra => Ev.asInt fun i e => ?_
  subst e
  obtain ⟨t, rfl⟩ := ra.inv
  exact Ev.stand (Ev.holding (P.neg_int (post_tok rp1 (.int _ _) _)))
theorem truthy_bool {b : Bool} {s : Shared} {M : Mp} {H : AH} (rp : Rep C.S C.pv s.heap M H) : Ev EqR C (truthy (.bool b)) s M (.ok b H) := wpAny_truthy_bool (post_here rp rfl)
theorem snd_nt {f : DE} {e' : Expr} {p : Pos} (h1 : Snd C env ns f e') : Snd C env ns (ntE f) (.UnaryOp .Not e' p) := fun {ρ s M H} st => by
  show Ev VRel C (eval e' env >>= fun v => standAt p >>= fun _ => holding [v] (unaryOp .Not v)) s M _
  refine (h1 st).then fun a H₁ v s₁ M₁ x1 rp1 ra => Ev.asBool fun b e => ?_
  subst e
  rw [show v = .bool b from ra.inv]
  exact Ev.stand (Ev.holding (not_of (wpAny_truthy_bool (post_here rp1 (.bool _)))))
theorem sndT_value {f : DE} {e : Expr} (h : Snd C env ns f e) (he : ∀ w, isTrue e env w = (w >>= fun v => standAt e.pos >>= fun _ => holding [v] (truthy v))) : SndT C env ns f e := fun {ρ s M H} st => by
  rw [he]
  refine (h st).then fun a H₁ v s₁ M₁ x1 rp1 ra => Ev.asBool fun b e => ?_
  subst e
  rw [show v = .bool b from ra.inv]
  exact Ev.stand (Ev.holding (truthy_bool rp1))
theorem isTrue_value {e : Expr} {env : Env} (h1 : ∀ x p, e ≠ .UnaryOp .Not x p) (h2 : ∀ o vs p, e ≠ .BoolOp o vs p) (h3 : ∀ t b o p, e ≠ .IfExp t b o p) (h4 : ∀ l ops rs p, e ≠ .Compare l ops rs p) (w : Sem Value) :
    isTrue e env w = (w >>= fun v => standAt e.pos >>= fun _ => holding [v] (truthy v)) := by
  cases e <;> first | rfl | skip
  · exact absurd rfl (h2 _ _ _)
  · rename_i op x p
    cases op <;> first | rfl | exact absurd rfl (h1 _ _)
  · exact absurd rfl (h3 _ _ _ _)
  · exact absurd rfl (h4 _ _ _ _)
theorem sndT_nt {f : DE} {e' : Expr} {p : Pos} (h1 : SndT C env ns f e') : SndT C env ns (ntE f) (.UnaryOp .Not e' p) := fun {ρ s M H} st => by
  show Ev EqR C (isTrue e' env (eval e' env) >>= fun b => pure (!b)) s M _
  have : tst (ntE f) ρ H = (tst f ρ H).bind fun b H₁ => .ok (!b) H₁ := by
    simp only [tst, ntE, bind_bind, asBool_bind]; rfl
  rw [this]
  refine (h1 st).then fun c H₁ v s₁ M₁ x1 rp1 ra => ?_
  cases ra
  exact Ev.pure rp1 rfl
noncomputable def opOf (k : Bool) : BoolOp := if k then .And else .Or
set_option backward.match.sparseCases true in
theorem bop_value {f : Expr → DE} (h : ∀ e, Snd2 C env ns (f e) e) (k : Bool) {p : Pos} : ∀ (es : List Expr) {ρ : RE} {s : Shared} {M : Mp} {H : AH}, St C env ns ρ s M H → Ev VRel C (boolOp p (opOf k) (evalEach es env)) s M (bopE k (es.map f) ρ H)
  | [], _, _, _, _, st => trivial
  | [x], _, _, _, _, st => (h x).1 st
  | x :: y :: r', ρ, s, M, H, st => by
    show Ev VRel C (eval x env >>= fun v => standAt p >>= fun _ => holding [v] (truthy v) >>= fun t => match opOf k, t with
      | .And, false | .Or, true => pure v
      | _, _ => boolOp p (opOf k) (evalEach (y :: r') env)) s M ((f x ρ H).bind fun a H₁ => asBool a fun b => if b = k then bopE k ((y :: r').map f) ρ H₁ else .ok (.bool b) H₁)
    refine ((h x).1 st).then fun a H₁ v s₁ M₁ x1 rp1 ra => Ev.asBool fun b e => ?_
    subst e
    rw [show v = .bool b from ra.inv]
    refine Ev.stand (Ev.look (v := b) (fun z => wpAny_holding (wpAny_truthy_bool z)) ?_)
    have ih := bop_value h k (p := p) (y :: r') (st.step x1 rp1)
    cases k <;> cases b
    · exact ih
    · exact Ev.pure rp1 (.bool _)
    · exact Ev.pure rp1 (.bool _)
    · exact ih
set_option backward.match.sparseCases true in
theorem bop_test {f : Expr → DE} (h : ∀ e, Snd2 C env ns (f e) e) (k : Bool) : ∀ (es : List Expr) {ρ : RE} {s : Shared} {M : Mp} {H : AH}, St C env ns ρ s M H → Ev EqR C (allTrue (opOf k) es env) s M (tst (bopE k (es.map f)) ρ H)
  | [], _, _, _, _, st => trivial
  | [x], ρ, s, M, H, st => by
    show Ev EqR C (isTrue x env (eval x env) >>= fun t => match opOf k, t with
      | .And, false => pure false
      | .Or, true => pure true
      | _, _ => pure (opOf k == .And)) s M (tst (f x) ρ H)
    have : tst (f x) ρ H = (tst (f x) ρ H).bind fun b H₁ => .ok b H₁ := by cases tst (f x) ρ H <;> rfl
    rw [this]
    refine ((h x).2 st).then fun b H₁ v s₁ M₁ x1 rp1 ra => ?_
    cases ra
    cases k <;> cases b <;> exact Ev.pure rp1 rfl
  | x :: y :: r', ρ, s, M, H, st => by
    show Ev EqR C (isTrue x env (eval x env) >>= fun t => match opOf k, t with
      | .And, false => pure false
      | .Or, true => pure true
      | _, _ => allTrue (opOf k) (y :: r') env) s M (((f x ρ H).bind fun a H₁ => asBool a fun b => if b = k then bopE k ((y :: r').map f) ρ H₁ else .ok (.bool b) H₁).bind fun a H₁ => asBool a fun b => .ok b H₁)
    have : (((f x ρ H).bind fun a H₁ => asBool a fun b => if b = k then bopE k ((y :: r').map f) ρ H₁ else .ok (.bool b) H₁).bind fun a H₁ => asBool a fun b => .ok b H₁) = (tst (f x) ρ H).bind fun b H₁ => if b = k then tst (bopE k ((y :: r').map f)) ρ H₁ else .ok b H₁ := by
      simp only [tst, bind_bind, asBool_bind]
      congr 1
      funext a H₁
      congr 1
      funext b
      show _ = if b = k then _ else _
      split <;> rfl
    rw [this]
    refine ((h x).2 st).then fun b H₁ v s₁ M₁ x1 rp1 ra => ?_
    cases ra
    have ih := bop_test h k (y :: r') (st.step x1 rp1)
    cases k <;> cases b
    · exact ih
    · exact Ev.pure rp1 rfl
    · exact Ev.pure rp1 rfl
    · exact ih
theorem marks_false : ∀ (ops : List CmpOp) (es : List Expr), es.all notSet = true → lastMarks ops es = false
  | [], _, _ => by simp [lastMarks]
  | _ :: _, [], _ => by simp [lastMarks]
  | [op], [e], h => by
    simp only [List.all_cons, Bool.and_eq_true] at h
    simp only [lastMarks]
    cases e <;> first | rfl | exact no_tf h.1
  | op :: op' :: ops, e :: r, h => by
    simp only [List.all_cons, Bool.and_eq_true] at h
    simp only [lastMarks]
    exact marks_false _ _ h.2
  | [op], e :: e' :: r, h => by
    simp only [List.all_cons, Bool.and_eq_true] at h
    simp only [lastMarks]
theorem marked_same (ops : List CmpOp) (es : List Expr) (ts : List (Sem Value)) (h : es.all notSet = true) : markedEach ops es ts = ts :=
  markedEach_of_false ops es ts (marks_false ops es h)
theorem cmp_ev {op : CmpOp} {s : Shared} {M : Mp} {H : AH} {v u : Value} {a b : AV} {c : Bool} (L : Live C s.heap M) (rp : Rep C.S C.pv s.heap M H) (ra : VRel (C.wd s.heap M) v a) (rb : VRel (C.wd s.heap M) u b) (e : cmpA H op a b = some c) : Ev VRel C (compareOp op v u) s M (.ok (.bool c) H) :=
  prim_cmp L rp ra rb e fun t => post_tok rp (.bool _) t
theorem chain_value {f : Expr → DE} (h : ∀ e, Snd2 C env ns (f e) e) {p : Pos} : ∀ (es : List Expr) (ops : List CmpOp), ops.length = es.length → ∀ {ρ : RE} {s : Shared} {M : Mp} {H : AH} {a : AV} {v : Value}, St C env ns ρ s M H → VRel (C.wd s.heap M) v a → Ev VRel C (compareChain p v ops (evalEach es env)) s M (chainE a ops (es.map f) ρ H)
  | [], [], _, _, _, _, _, _, _, st, ra => trivial
  | [], _ :: _, hl, _, _, _, _, _, _, st, ra => by cases hl
  | [x], [], hl, _, _, _, _, _, _, st, ra => by cases hl
  | [x], [op], hl, ρ, s, M, H, a, v, st, ra => by
    show Ev VRel C (holding [v] (eval x env) >>= fun rv => standAt p >>= fun _ => operate [v, rv] (compareOp op v rv)) s M ((f x ρ H).bind fun b H₁ => orBad (cmpA H₁ op a b) fun c => .ok (.bool c) H₁)
    refine Ev.then (Ev.holding ((h x).1 st)) fun b H₁ u s₁ M₁ x1 rp1 rb => Ev.orBad fun c e => Ev.stand (Ev.operate ?_)
    exact cmp_ev (st.live.step x1) rp1 (ra.keep (x1.kp st.live noW_seq)) rb e
  | [x], op :: op' :: ops, hl, _, _, _, _, _, _, st, ra => by cases hl
  | x :: y :: r', [], hl, _, _, _, _, _, _, st, ra => by cases hl
  | x :: y :: r', [op], hl, _, _, _, _, _, _, st, ra => by cases hl
  | x :: y :: r', op :: op' :: ops, hl, ρ, s, M, H, a, v, st, ra => by
    show Ev VRel C (holding [v] (eval x env) >>= fun rv => standAt p >>= fun _ => holding [v, rv] (compareOp op v rv) >>= fun c => release [v, rv] [c] >>= fun _ => holding [c, rv] (truthy c) >>= fun t =>
        if t = true then compareChain p rv (op' :: ops) (evalEach (y :: r') env) else pure c) s M ((f x ρ H).bind fun b H₁ => orBad (cmpA H₁ op a b) fun c => if c then chainE b (op' :: ops) ((y :: r').map f) ρ H₁ else .ok (.bool false) H₁)
    refine Ev.then (Ev.holding ((h x).1 st)) fun b H₁ u s₁ M₁ x1 rp1 rb => Ev.orBad fun c e => Ev.stand ?_
    have st1 := st.step x1 rp1
    have : (if c = true then chainE b (op' :: ops) ((y :: r').map f) ρ H₁ else .ok (.bool false) H₁) = (Out.ok (.bool c) H₁).bind fun d H₂ => asBool d fun c => if c = true then chainE b (op' :: ops) ((y :: r').map f) ρ H₂ else .ok (.bool false) H₂ := rfl
    rw [this]
    refine Ev.then (Ev.holding (cmp_ev (st.live.step x1) rp1 (ra.keep (x1.kp st.live noW_seq)) rb e)) fun d H₂ cv s₂ M₂ x2 rp2 rc => Ev.asBool fun c e => ?_
    subst e
    rw [show cv = .bool c from rc.inv]
    refine Ev.look (v := ()) (fun z => wpAny_release z) (Ev.look (v := c) (fun z => wpAny_holding (wpAny_truthy_bool z)) ?_)
    cases c
    · exact Ev.pure rp2 (.bool _)
    · exact chain_value h (y :: r') (op' :: ops) (Nat.succ.inj hl) (st1.step x2 rp2) (rb.keep (x2.kp st1.live noW_seq))
theorem chain_test {f : Expr → DE} (h : ∀ e, Snd2 C env ns (f e) e) {p : Pos} : ∀ (es : List Expr) (ops : List CmpOp), ops.length = es.length → ∀ {ρ : RE} {s : Shared} {M : Mp} {H : AH} {a : AV} {v : Value}, St C env ns ρ s M H → VRel (C.wd s.heap M) v a → Ev EqR C (testChain p v ops (evalEach es env)) s M (tst (chainE a ops (es.map f)) ρ H)
  | [], [], _, _, _, _, _, _, _, st, ra => trivial
  | [], _ :: _, hl, _, _, _, _, _, _, st, ra => by cases hl
  | [x], [], hl, _, _, _, _, _, _, st, ra => by cases hl
  | [x], [op], hl, ρ, s, M, H, a, v, st, ra => by
    show Ev EqR C (holding [v] (eval x env) >>= fun rv => standAt p >>= fun _ => operate [v, rv] (compareOp op v rv) >>= fun c => holding [c] (truthy c)) s M (((f x ρ H).bind fun b H₁ => orBad (cmpA H₁ op a b) fun c => .ok (.bool c) H₁).bind fun a H₁ => asBool a fun b => .ok b H₁)
    simp only [bind_bind, orBad_bind]
    refine Ev.then (Ev.holding ((h x).1 st)) fun b H₁ u s₁ M₁ x1 rp1 rb => Ev.orBad fun c e => Ev.stand ?_
    refine Ev.then (Ev.operate (cmp_ev (st.live.step x1) rp1 (ra.keep (x1.kp st.live noW_seq)) rb e)) fun d H₂ cv s₂ M₂ x2 rp2 rc => Ev.asBool fun c e => ?_
    subst e
    rw [show cv = .bool c from rc.inv]
    exact Ev.holding (truthy_bool rp2)
  | [x], op :: op' :: ops, hl, _, _, _, _, _, _, st, ra => by cases hl
  | x :: y :: r', [], hl, _, _, _, _, _, _, st, ra => by cases hl
  | x :: y :: r', [op], hl, _, _, _, _, _, _, st, ra => by cases hl
  | x :: y :: r', op :: op' :: ops, hl, ρ, s, M, H, a, v, st, ra => by
    show Ev EqR C (holding [v] (eval x env) >>= fun rv => standAt p >>= fun _ => holding [v, rv] (compareOp op v rv) >>= fun c => release [v, rv] [c] >>= fun _ => holding [c, rv] (truthy c) >>= fun t =>
        if t = true then testChain p rv (op' :: ops) (evalEach (y :: r') env) else pure false) s M (((f x ρ H).bind fun b H₁ => orBad (cmpA H₁ op a b) fun c => if c then chainE b (op' :: ops) ((y :: r').map f) ρ H₁ else .ok (.bool false) H₁).bind fun a H₁ => asBool a fun b => .ok b H₁)
    simp only [bind_bind, orBad_bind]
    refine Ev.then (Ev.holding ((h x).1 st)) fun b H₁ u s₁ M₁ x1 rp1 rb => Ev.orBad fun c e => Ev.stand ?_
    have st1 := st.step x1 rp1
    have : ((if c = true then chainE b (op' :: ops) ((y :: r').map f) ρ H₁ else .ok (.bool false) H₁).bind fun a H₁ => asBool a fun b => .ok b H₁) = (Out.ok (.bool c) H₁).bind fun d H₂ => asBool d fun c => if c = true then tst (chainE b (op' :: ops) ((y :: r').map f)) ρ H₂ else .ok false H₂ := by
      cases c <;> rfl
    rw [this]
    refine Ev.then (Ev.holding (cmp_ev (st.live.step x1) rp1 (ra.keep (x1.kp st.live noW_seq)) rb e)) fun d H₂ cv s₂ M₂ x2 rp2 rc => Ev.asBool fun c e => ?_
    subst e
    rw [show cv = .bool c from rc.inv]
    refine Ev.look (v := ()) (fun z => wpAny_release z) (Ev.look (v := c) (fun z => wpAny_holding (wpAny_truthy_bool z)) ?_)
    cases c
    · exact Ev.pure rp2 rfl
    · exact chain_test h (y :: r') (op' :: ops) (Nat.succ.inj hl) (st1.step x2 rp2) (rb.keep (x2.kp st1.live noW_seq))
theorem snd_cmp {f : Expr → DE} (h : ∀ e, Snd2 C env ns (f e) e) {l : Expr} {ops : List CmpOp} {es : List Expr} {p : Pos} (hs : es.all notSet = true) (hl : ops.length = es.length) : Snd2 C env ns (cmpE (f l) ops (es.map f)) (.Compare l ops es p) := by
  refine ⟨fun {ρ s M H} st => ?_, fun {ρ s M H} st => ?_⟩
  · show Ev VRel C (eval l env >>= fun v => compareChain p v ops (markedEach ops es (evalEach es env))) s M _
    rw [marked_same ops es _ hs]
    exact ((h l).1 st).then fun a H₁ v s₁ M₁ x1 rp1 ra => chain_value h es ops hl (st.step x1 rp1) ra
  · show Ev EqR C (eval l env >>= fun v => testChain p v ops (markedEach ops es (evalEach es env))) s M (((f l ρ H).bind fun a H₁ => chainE a ops (es.map f) ρ H₁).bind fun a H₁ => asBool a fun b => .ok b H₁)
    rw [marked_same ops es _ hs, bind_bind]
    exact ((h l).1 st).then fun a H₁ v s₁ M₁ x1 rp1 ra => chain_test h es ops hl (st.step x1 rp1) ra
theorem snd_bop {f : Expr → DE} (h : ∀ e, Snd2 C env ns (f e) e) {k : Bool} {es : List Expr} {p : Pos} : Snd2 C env ns (bopE k (es.map f)) (.BoolOp (opOf k) es p) := ⟨fun st => bop_value h k es st, fun st => bop_test h k es st⟩
theorem snd_ife {t a b : DE} {t' a' b' : Expr} {p : Pos} (ht : SndT C env ns t t') (ha : Snd C env ns a a') (hb : Snd C env ns b b') : Snd C env ns (ifeE t a b) (.IfExp t' a' b' p) := fun {ρ s M H} st => by
  show Ev VRel C (isTrue t' env (eval t' env) >>= fun c => if c = true then eval a' env else eval b' env) s M _
  have : ifeE t a b ρ H = (tst t ρ H).bind fun c H₁ => if c then a ρ H₁ else b ρ H₁ := by
    simp only [tst, ifeE, bind_bind, asBool_bind]; rfl
  rw [this]
  refine (ht st).then fun c H₁ v s₁ M₁ x1 rp1 rc => ?_
  cases rc
  cases c
  · exact hb (st.step x1 rp1)
  · exact ha (st.step x1 rp1)
end
noncomputable def EvC (C : Cx) (c : Code) (s : Shared) (M : Mp) : Out AV → Prop
  | .ok y H' => codeAny C.S.M C.A c (fun r s' => ∃ v, r = .ok (.ret v) ∧ Post VRel C s M y H' v s') s
  | .exc x H' => codeAny C.S.M C.A c (fun r s' => ∃ e, r = .error e ∧ PostX C s M x H' e s') s
  | .bad => True
noncomputable def CallOK (S : Stat) (hot : Bool) (d : Nat) (f : Addr) (args : List AV) (H : AH) (o : Out AV) : Prop :=
  ∀ (C : Cx) (s : Shared) (M : Mp) (vals : List Value), C.S = S → C.hot = hot → d ≤ C.d → Live C s.heap M → Rep S C.pv s.heap M H → VRels (C.wd s.heap M) vals args → EvC C (.call (.ref f) ⟨vals, []⟩) s M o
noncomputable def FOK (S : Stat) (hot : Bool) (d : Nat) (Φ : FT) : Prop := ∀ f fa args H, S.fa f = some fa → CallOK S hot d fa args H (Φ f args H)
theorem Ev.ofCode {C : Cx} {f : Value} {vals : List Value} {s : Shared} {M : Mp} {o : Out AV} (h : EvC C (.call f ⟨vals, []⟩) s M o) : Ev VRel C (call f vals) s M o := by
  cases o with
  | bad => trivial
  | ok y H' => exact wpAny_call (codeAny_mono h fun r s' z_1 => x1_2 z_1 fun v e p => by subst e; exact p)
  | exc c H' => exact wpAny_call (codeAny_mono h fun r s' z_2 => x1_2 z_2 fun v e p => by subst e; exact p)
section
variable {C : Cx} {G : Gm} {Φ : FT} {d : Nat} {env : Env} {ns : List (Option Str)}
theorem star_cons {e : Expr} {r : List Expr} (h : notStar e = true) : starEach (e :: r) env = (false, eval e env) :: starEach r env := by
  cases e <;> first | rfl | exact no_tf h
theorem back_cons {e : Expr} {r : List Expr} {pos : Pos} (h : notStar e = true) : backTo pos (starEach (e :: r) env) = (false, eval e env) :: backTo pos (starEach r env) := by
  rw [star_cons h]; rfl
theorem back_plain {pos : Pos} : ∀ (es : List Expr), es.all notStar = true → (backTo pos (starEach es env)).any (·.1) = false
  | [], _ => rfl
  | e :: r, h => by
    simp only [List.all_cons, Bool.and_eq_true] at h
    rw [back_cons h.1]
    simpa using back_plain r h.2
theorem snd_list {f : Expr → DE} (h : ∀ e, Snd2 C env ns (f e) e) {pos : Pos} : ∀ (es : List Expr), es.all notStar = true → ∀ {ρ : RE} {s : Shared} {M : Mp} {H : AH}, St C env ns ρ s M H → Ev VRels C (spliced (backTo pos (starEach es env))) s M (evL (es.map f) ρ H)
  | [], _, ρ, s, M, H, st => Ev.pure st.rep .nil
  | e :: r, hs, ρ, s, M, H, st => by
    simp only [List.all_cons, Bool.and_eq_true] at hs
    rw [back_cons hs.1]
    show Ev VRels C (eval e env >>= fun v => pure [v] >>= fun here => holding here (spliced (backTo pos (starEach r env))) >>= fun vs => pure (here ++ vs)) s M ((f e ρ H).bind fun a H₁ => (evL (r.map f) ρ H₁).bind fun as H₂ => .ok (a :: as) H₂)
    refine ((h e).1 st).then fun a H₁ v s₁ M₁ x1 rp1 ra => Ev.look (fun z => wpAny_pure z) ?_
    have st1 := st.step x1 rp1
    refine Ev.then (Ev.holding (snd_list h r hs.2 st1)) fun as H₂ vs s₂ M₂ x2 rp2 rs => ?_
    exact Ev.pure rp2 (.cons (ra.keep (x2.kp st1.live noW_seq)) rs)
theorem snd_tup {f : Expr → DE} (h : ∀ e, Snd2 C env ns (f e) e) {es : List Expr} {k : Nat} {p : Pos} (hs : es.all notStar = true) : Snd C env ns (tupE (es.map f)) (.Tuple es k p) := fun {ρ s M H} st => by
  show Ev VRel C (standAt p >>= fun _ => spliced (backTo p (starEach es env)) >>= fun vs => newTuple vs) s M _
  refine Ev.stand ((snd_list h es hs st).then fun as H₁ vs s₁ M₁ x1 rp1 ra => Ev.ite fun hz => ?_)
  exact wpAny_newTuple (post_push rp1 (new_tup (vs := vs.toArray) (n := 0) (st.live.step x1) rp1 (by simpa using ra) rfl) _) (by rw [ra.1]; exact hz)
theorem snd_lst {mt : Bool} {f : Expr → DE} (h : ∀ e, Snd2 C env ns (f e) e) {es : List Expr} {p : Pos} (hs : es.all notStar = true) : Snd C env ns (lstE mt (es.map f)) (.List es p) := fun {ρ s M H} st => by
  show Ev VRel C (standAt p >>= fun _ => spliced (backTo p (starEach es env)) >>= fun vs => newList vs) s M _
  refine Ev.stand ((snd_list h es hs st).then fun as H₁ vs s₁ M₁ x1 rp1 ra => Ev.ite fun hz => ?_)
  exact ev_newL (st.live.step x1) rp1 fun k => wpAny_newList (k _ vs.toArray 0 _ _ (fun b o e => Heap.get?_push_of_some _ e) (size_none _) (Heap.get?_push_size _ rfl) (by simpa using ra)) (by rw [ra.1]; exact hz)
noncomputable def ArgsR : RelT Args (List AV) := fun w a xs => a.kw = [] ∧ VRels w a.pos xs
theorem args_ev {f : Expr → DE} (h : ∀ e, Snd2 C env ns (f e) e) {es : List Expr} {pos : Pos} {fv : Value} {ρ : RE} {s : Shared} {M : Mp} {H : AH} (hs : es.all notStar = true) (st : St C env ns ρ s M H) : Ev ArgsR C (evalArgs fv true (backTo pos (starEach es env)) []) s M (evL (es.map f) ρ H) := by
  have := snd_list h (pos := pos) es hs st
  cases es with
  | nil => exact PyProof.Rows.evalArgs_none (post_here st.rep ⟨rfl, .nil⟩)
  | cons e r =>
    simp only [List.all_cons, Bool.and_eq_true] at hs
    rw [back_cons hs.1] at this ⊢
    generalize evL ((e :: r).map f) ρ H = o at this
    cases o with
    | bad => trivial
    | exc c H' => exact Calls.evalArgs_plain (wpAny_mono this (fun _ _ q => q.elim) fun _ _ q => q)
    | ok y H' => exact Calls.evalArgs_plain (wpAny_mono this (fun _ _ z_3 => x1_3 z_3 fun M' a b c => ⟨M', a, b, rfl, c⟩) fun _ _ q => q)
theorem call_ev {f : Expr → DE} (h : ∀ e, Snd2 C env ns (f e) e) {es : List Expr} {pos : Pos} {fv : Value} {first : List Value} {ρ : RE} {s : Shared} {M : Mp} {H : AH} {t : Sem Value} {g : List AV → AH → Out AV} (hs : es.all notStar = true) (st : St C env ns ρ s M H)
    (cw : ∀ {P : Value → Shared → Prop} {E : Value → Shared → Prop}, wpAny C.S.M C.A (evalArgs fv true (backTo pos (starEach es env)) []) (fun a s₁ => C.S.K.In s₁.heap ∧ wpAny C.S.M C.A (call fv (first ++ a.pos) a.kw) P E s₁) E s → wpAny C.S.M C.A t P E s)
    (hk : ∀ as H₁ vals s₁ M₁, Step C noW s M s₁ M₁ → St C env ns ρ s₁ M₁ H₁ → VRels (C.wd s₁.heap M₁) vals as → Ev VRel C (call fv (first ++ vals)) s₁ M₁ (g as H₁)) : Ev VRel C t s M ((evL (es.map f) ρ H).bind g) := by
  have A := args_ev (fv := fv) (pos := pos) h hs st
  generalize evL (es.map f) ρ H = o at A
  cases o with
  | bad => trivial
  | exc c H' => exact cw (wpAny_mono A (fun _ _ q => q.elim) fun _ _ q => q)
  | ok as H₁ =>
    show Ev VRel C t s M (g as H₁)
    have B := fun vals s₁ M₁ x1 rp1 r => hk as H₁ vals s₁ M₁ x1 (st.step x1 rp1) r
    generalize g as H₁ = o' at B
    cases o' with
    | bad => trivial
    | exc c H' =>
      refine cw (wpAny_mono A (fun a s₁ z_4 => x1_4 z_4 fun M₁ x1 rp1 hkw r => ⟨(st.live.step x1).K, ?_⟩) fun _ _ q => q.elim)
      rw [hkw]
      exact wpAny_mono (B a.pos s₁ M₁ x1 rp1 r) (fun _ _ q => q) fun _ _ z_5 => x3_2 z_5 fun e M₂ B he z => ⟨e, M₂, B, he, z.after x1 fun _ q => q⟩
    | ok y H' =>
      refine cw (wpAny_mono A (fun a s₁ z_6 => x1_4 z_6 fun M₁ x1 rp1 hkw r => ⟨(st.live.step x1).K, ?_⟩) fun _ _ q => q.elim)
      rw [hkw]
      exact wpAny_mono (B a.pos s₁ M₁ x1 rp1 r) (fun _ _ z_7 => x1_2 z_7 fun M₂ x2 z => ⟨M₂, x1.trans x2, z⟩) fun _ _ q => q
theorem fnIn_keep {K : Frag} {f : Addr} (h : fnIn K f = true) : keepIn K (.ref f) = true := by
  unfold fnIn at h
  unfold keepIn
  dsimp only
  cases q : K.lookup f with
  | none => rw [q] at h; cases h
  | some o =>
    rw [q] at h
    obtain ⟨_, _, d, _⟩ := o
    cases d with
    | func _ => rfl
    | _ => exact no_tf h
theorem snd_call {f : Expr → DE} (Y : Fit C.S G) (F : FOK C.S C.hot d Φ) (hd : d ≤ C.d) (h : ∀ e, Snd2 C env ns (f e) e) {x : Str} {i : Nat} {es : List Expr} {p p' : Pos} (hk : env.kindOf x = some .globalImplicit) (hdb : (x == ("__debug__" : Str)) = false) (hi : C.S.T.fns[i]? = some (some x)) (hs : es.all notStar = true) :
    Snd C env ns (callE Φ i (es.map f)) (.Call (.Name x p') es [] p) := fun {ρ s M H} st => by
  refine x1_3 (Y.fn i x hi) fun fa h1 h2 h3 => ?_
  show Ev VRel C (eval (.Name x p') env >>= fun fv => callWith p fv [] (backTo p (starEach es env)) []) s M _
  refine Ev.look (fun z => name_glob st hk hdb h2 z) ?_
  refine call_ev (first := []) h hs st (fun z => callWith_of (P := C.S.K.In) (by rw [back_plain es hs]; rfl) (keeps_K (fnIn_keep h3)) z) fun as H₁ vals s₁ M₁ x1 st1 r => ?_
  exact Ev.ofCode (F i fa as H₁ h1 C s₁ M₁ vals rfl rfl hd st1.live st1.rep r)
theorem biV_shape (b : Bi) : (∃ i, biV b = .builtin i) ∨ ∃ T, biV b = .type T := by cases b <;> first | exact .inl ⟨_, rfl⟩ | exact .inr ⟨_, rfl⟩
theorem snd_bi {f : Expr → DE} (Y : Fit C.S G) (h : ∀ e, Snd2 C env ns (f e) e) {x : Str} {b : Bi} {es : List Expr} {p p' : Pos} (hk : env.kindOf x = some .globalImplicit) (hdb : (x == ("__debug__" : Str)) = false) (hn : x ≠ "__name__") (hx : x ∈ biNames) (hb : bootBuiltins x = some (biV b)) (hs : es.all notStar = true) :
    Snd C env ns (biE C.hot b (es.map f)) (.Call (.Name x p') es [] p) := fun {ρ s M H} st => by
  show Ev VRel C (eval (.Name x p') env >>= fun fv => callWith p fv [] (backTo p (starEach es env)) []) s M _
  refine Ev.look (fun z => name_boot st hk hdb (Y.bi x hx) hb hn z) ?_
  refine call_ev (first := []) (pos := p) h hs st (fun {P E} z => ?_) fun as H₁ vals s₁ M₁ x1 st1 r => prim_bi st1.live st1.rep r
  have z' := wpAny_mono z (fun a s₁ q => q.2) fun _ _ q => q
  rcases biV_shape b with ⟨i, e⟩ | ⟨T, e⟩ <;> rw [e] at z' ⊢
  · exact Calls.callWith_builtin (back_plain es hs) z'
  · exact PyProof.Rows.callWith_type (back_plain es hs) z'
theorem base_plain {o : Expr} {m : Str} {w : Sem Value} (h : plainBase o = true) : attributeBase o m env w = w := by
  cases o <;> first | rfl | skip
  rename_i f as ks p
  cases f <;> first | rfl | skip
  cases as <;> first | rfl | skip
  cases ks <;> first | rfl | cases h
theorem form_ok {pos : Pos} {es : List Expr} (hs : es.all notStar = true) (hl : es.length < 20) : methodCallForm (es.length + ([] : List Keyword).length) (backTo pos (starEach es env)) (backToKw pos (keywordEach [] env)) = true := by
  unfold methodCallForm
  have h1 : (backTo pos (starEach es env)).all (fun x => !x.1) = true := by
    have := back_plain (env := env) (pos := pos) es hs
    rw [List.all_eq_true]
    rw [List.any_eq_false] at this
    intro x hx
    simpa using this x hx
  rw [h1]
  simp only [Bool.true_and]
  have h2 : (backToKw pos (keywordEach [] env)).all (fun x => x.1.isSome) = true := rfl
  have h3 : (backToKw pos (keywordEach [] env)).isEmpty = true := rfl
  rw [h2, h3]
  simp
  lia
theorem snd_mb {f : Expr → DE} (h : ∀ e, Snd2 C env ns (f e) e) {b : Bm} {o' : Expr} {es : List Expr} {apos p : Pos} (hb : plainBase o' = true) (hs : es.all notStar = true) (hl : es.length < 20) (hline : (apos.endLine == p.line) = true) :
    Snd C env ns (mbE b (f o') (es.map f)) (.Call (.Attribute o' b.name apos) es [] p) := fun {ρ s M H} st => by
  show Ev VRel C (eval (.Call (.Attribute o' b.name apos) es [] p) env) s M _
  rw [arm_eval_Call, base_plain hb]
  refine ((h o').1 st).then fun a H₁ v s₁ M₁ x1 rp1 ra => Ev.orBad fun id hid => Ev.stand ?_
  unfold methodCall
  rw [form_ok hs hl]
  have hpos : methodCallPos true o' env apos p = pure p := by unfold methodCallPos; simp [hline]
  have st1 := st.step x1 rp1
  refine x1_5 (meth_at rp1 ra hid) fun T pa slot hty hT hdd => ?_
  refine Ev.look (fun z => wpAny_holding (getMethod_builtin hT pa slot hty hdd z)) (Ev.look (fun z => wpAny_of_eq hpos z) ?_)
  refine call_ev (first := [v]) h hs st1 (fun z => Calls.callWith_builtin (back_plain es hs) (wpAny_mono z (fun a s₁ q => q.2) fun _ _ q => q)) fun as H₂ vals s₂ M₂ x2 st2 r => Ev.ite fun hkd => ?_
  rw [hkd] at hid
  exact prim_mb st2.live st2.rep (ra.keep (x2.kp st1.live noW_seq)) r hid
theorem snd_mo {f : Expr → DE} (Y : Fit C.S G) (F : FOK C.S C.hot d Φ) (hd : d ≤ C.d) (h : ∀ e, Snd2 C env ns (f e) e) {m : Nat} {x : Str} {o' : Expr} {es : List Expr} {apos p : Pos} (hx : C.S.T.mn[m]? = some x) (hb : plainBase o' = true) (hs : es.all notStar = true) (hl : es.length < 20) (hline : (apos.endLine == p.line) = true) :
    Snd C env ns (moE G Φ m (f o') (es.map f)) (.Call (.Attribute o' x apos) es [] p) := fun {ρ s M H} st => by
  show Ev VRel C (eval (.Call (.Attribute o' x apos) es [] p) env) s M _
  rw [arm_eval_Call, base_plain hb]
  refine ((h o').1 st).then fun a H₁ v s₁ M₁ x1 rp1 ra => Ev.orBad fun i hi => Ev.orBad fun fi hf => Ev.stand ?_
  obtain ⟨n, c, fs⟩ := i
  unfold methodCall
  rw [form_ok hs hl]
  have hpos : methodCallPos true o' env apos p = pure p := by unfold methodCallPos; simp [hline]
  have st1 := st.step x1 rp1
  refine x4_7 (in_of rp1 ra hi) fun q D ds k e4' z hc I hde fr ne => ?_; subst e4'
  refine x2_6 (Y.mth c D m fi hc hf) fun x' fa e1 e2 e3 e4 e5 e6 => ?_
  rw [hx] at e1
  cases e1
  have K := Y.cls c D hc
  refine Ev.look (fun z => wpAny_holding (method_fn st1.live.K I K.ga K.gt e4 (beq_iff_eq.mp e5) ?_ z)) (Ev.look (fun z => wpAny_of_eq hpos z) ?_)
  · have := fr.2.2.1 x e2
    show (lookIn x (dictOf ds k)).map _ = _
    rw [lookIn_dict, this]; rfl
  refine call_ev (first := [.ref q.1]) h hs st1 (fun z => callWith_of (P := C.S.K.In) (by rw [back_plain es hs]; rfl) (keeps_K (fnIn_keep e6)) z) fun as H₂ vals s₂ M₂ x2 st2 r => ?_
  exact Ev.ofCode (F fi fa (a :: as) H₂ e3 C s₂ M₂ (.ref q.1 :: vals) rfl rfl hd st2.live st2.rep (.cons (ra.keep (x2.kp st1.live noW_seq)) r))
theorem snd_attr (Y : Fit C.S G) {f : DE} {k : Nat} {e' : Expr} {x : Str} {p : Pos} (h0 : Snd C env ns f e') (hx : C.S.an[k]? = some x) (hb : plainBase e' = true) : Snd C env ns (attrE k f) (.Attribute e' x p) := fun {ρ s M H} st => by
  show Ev VRel C (attributeBase e' x env (eval e' env) >>= fun o => standAt p.atName >>= fun _ => holding [o] (getAttr o x true) >>= fun r => letTemporaryGo e' o r >>= fun _ => pure r) s M _
  rw [base_plain hb]
  refine (h0 st).then fun a H₁ v s₁ M₁ x1 rp1 ra => Ev.orBad fun i hi => Ev.stand ?_
  obtain ⟨n, c, fs⟩ := i
  show Ev VRel C _ s₁ M₁ (match fs[k]? with | some (some v) => .ok v H₁ | _ => .bad)
  split
  · rename_i b hb
    rw [show Out.ok b H₁ = (Out.ok b H₁).bind fun y H => .ok y H from rfl]
    refine Ev.then (Ev.holding (prim_attr Y (st.live.step x1) rp1 ra hi hx hb)) fun y H₂ u s₂ M₂ x2 rp2 ry => ?_
    exact Ev.look (v := ()) (fun z => wpAny_letTemporaryGo z) (Ev.pure rp2 ry)
  · trivial
end
section
variable {prog : Program} {w : World} {A : Around} {E : Value → Shared → Prop} {s : Shared} {K : Frag} {x D : Addr} {ox : Obj}
theorem exc_class {Q : Option Value → Shared → Prop} (hs : seesIn K D = true) (X : K.In s.heap) (I : InstAt s.heap x ox D none) (h : Q (some (.ref D)) { s with toks := s.toks + 1 }) : wpAny (model prog w) A (getAttr? (.ref x) "__class__") Q E s := by
  unfold seesIn at hs
  simp only [Bool.and_eq_true, beq_iff_eq] at hs
  obtain ⟨⟨⟨⟨⟨⟨⟨h0, h1⟩, h2⟩, h3⟩, h4⟩, h5⟩, h6⟩, h7⟩ := hs
  have hf : findObj K D none "__class__" = some (.bind (.builtin "getset_descriptor.__get__") (.builtin "object.__class__")) := by
    obtain ⟨cd, hc⟩ := Option.isSome_iff_exists.mp h0
    unfold findObj
    rw [hc, Option.bind_some, h3, Option.bind_some]
    simp [h4, h5]
  obtain ⟨hh, g, d, t, os⟩ := s
  have L0 := I.type (M := model prog w)
  have L1 := looks_findIn (M := model prog w) X h1
  have L2 := looks_findIn (M := model prog w) X h2
  have L3 := looks_find (M := model prog w) X I hf
  have L4 := looks_mroIn (M := model prog w) X h7
  have f3 := F.excAttr_ValueError.ga.bind (.ref x)
  have hx0 : (false && onTheHeap (Value.builtin "BaseException.__getattribute__")) = false := rfl
  have hx2 : (Value.builtin "BaseException.__getattribute__" == Value.builtin "object.__getattribute__") = false := by decide +kernel
  have hx1 : (onTheHeap (Value.ref D) && Value.builtin "BaseException.__getattribute__" == Value.builtin "object.__getattribute__") = false := by rw [hx2]; rfl
  unfold getAttr? getAttrBy? getAttrBy
  refine wpAny_bind (wpAny_mkText (wpAny_bind (wpAny_attempt (wpAny_holding (wpAny_bind (L0.at (wpAny_bind (L1.at ?_))))))))
  repeat (any_goals (first | assumption | with_reducible refine Looks.at L0 ?_ | with_reducible refine Looks.at L1 ?_ | with_reducible refine Looks.at L2 ?_ | wp_step))
  refine codeAny_call_builtin F.excAttr_ValueError.ga.plain F.entry_bexc_ga ?_
  have hk : builtinKind "BaseException.__getattribute__" = some .slot := by decide +kernel
  have hsplit : splitId "BaseException.__getattribute__" = some ("BaseException", "__getattribute__") := by decide +kernel
  have ha := F.args_bexc_ga (.ref x) (.str "__class__" t)
  simp only [checkBuiltinCall, hk, hsplit]
  refine wpAny_bind ?_
  unfold isInstance
  repeat (any_goals (first | assumption | with_reducible refine Looks.at L0 ?_ | with_reducible refine Looks.at L4 ?_ | with_reducible refine Looks.at L3 ?_ | wp_step))
  refine class_get (s := ⟨hh, g, d, t + 1, os⟩) X I h6 ?_
  repeat (any_goals (first | assumption | wp_step))
theorem kitx_exc (hs : seesIn K D = true) : KitX K (.ref x) (.ref D) (fun h => InstAt h x ox D none) where
  ty := fun _ _ _ I => I.type
  it := fun _ _ X _ => by
    have h0 : (clsIn K D).isSome = true := by
      unfold seesIn at hs
      simp only [Bool.and_eq_true] at hs
      exact hs.1.1.1.1.1.1.1
    obtain ⟨cdD, hcD⟩ := Option.isSome_iff_exists.mp h0
    unfold clsIn at hcD
    split at hcD
    · rename_i c' d' cd' sl' ho
      intro A' Q' E' s' k q
      unfold isType loadHead
      exact wpAny_bind (wpAny_loadPart (k _ _ (X _ _ ho)) (wpAny_pure q))
    · cases hcD
  ne := fun h tp dd its n sl X htp => by
    have h0 : (clsIn K D).isSome = true := by
      unfold seesIn at hs
      simp only [Bool.and_eq_true] at hs
      exact hs.1.1.1.1.1.1.1
    obtain ⟨cdD, hcD⟩ := Option.isSome_iff_exists.mp h0
    refine Bool.eq_false_iff.mpr fun q => ?_
    have e : D = tp := Value.ref.inj (beq_iff_eq.mp q)
    subst e
    unfold clsIn at hcD
    split at hcD
    · rename_i c' d' cd' sl' ho
      have z := (X _ _ ho).symm.trans htp
      cases z
    · cases hcD
  ca := fun X I k => exc_class hs X I k
end
section
variable {C : Cx} {G : Gm} {Φ : FT} {d : Nat} {env : Env} {ns : List (Option Str)}
theorem getitem_at {s : Shared} {M : Mp} {H : AH} {v : Value} {a : AV} (rp : Rep C.S C.pv s.heap M H) (r : VRel (C.wd s.heap M) v a) (h : (∃ xs, lsOf H a = some xs) ∨ (∃ xs, a = .tup xs) ∨ (∃ x, a = .str x) ∨ ∃ p, dcOf H a = some p) :
    ∃ T id, s.TypeIs v T ∧ typeLookup (.type T) "__getitem__" = pure (some (.builtin id)) := by
  rcases h with ⟨xs, e⟩ | ⟨xs, rfl⟩ | ⟨x, rfl⟩ | ⟨⟨n, es⟩, e⟩
  · refine x3_3 (ls_of rp r e) fun l vs n e3' hl rl => ?_; subst e3'
    exact ⟨"list", _, ⟨_, hl, rfl⟩, list_getitem_lookup⟩
  · refine x3_3 (r.inv) fun l vs n e3' ho _ => ?_; subst e3'
    exact ⟨"tuple", _, ⟨_, ho, rfl⟩, F.slot_tuple_getitem.lookup⟩
  · refine x1_2 (r.inv) fun t e1' _ => ?_; subst e1'
    exact ⟨"str", _, typeIs_str _ _ _, F.slot_str_getitem.lookup⟩
  · refine x2_5 (dc_of rp r e) fun p kvs e2' z _ hd _ => ?_; subst e2'
    exact ⟨"dict", _, hd.typeIs, F.slot_dict_getitem.lookup⟩
noncomputable def itemy (H : AH) (a : AV) : Bool := (lsOf H a).isSome || (dcOf H a).isSome || (match a with | .tup _ => true | .str _ => true | _ => false)
theorem itemy_shape {H : AH} {a : AV} (h : itemy H a = true) : (∃ xs, lsOf H a = some xs) ∨ (∃ xs, a = .tup xs) ∨ (∃ x, a = .str x) ∨ ∃ p, dcOf H a = some p := by
  unfold itemy at h
  rw [Bool.or_eq_true, Bool.or_eq_true] at h
  rcases h with (h | h) | h
  · exact .inl (Option.isSome_iff_exists.mp h)
  · exact .inr (.inr (.inr (Option.isSome_iff_exists.mp h)))
  · cases a with
    | tup xs => exact .inr (.inl ⟨xs, rfl⟩)
    | str x => exact .inr (.inr (.inl ⟨x, rfl⟩))
    | _ => exact no_tf h
theorem tf_no {P : Prop} (h : true = false) : P := nomatch h
theorem sub_itemy {a i : AV} {H : AH} (h : itemy H a = false) : subA a i H = .bad := by
  unfold itemy at h
  rw [Bool.or_eq_false_iff, Bool.or_eq_false_iff] at h
  obtain ⟨⟨h1, h2⟩, h3⟩ := h
  have e1 : lsOf H a = none := by simpa using h1
  have e2 : dcOf H a = none := by simpa using h2
  unfold subA
  rw [e2]
  cases i <;> first | rfl | skip
  cases a <;> first | exact tf_no h3 | (simp only [asInt, e1]; rfl)
theorem slc_itemy {mt : Bool} {a l u t : AV} {H : AH} (h : itemy H a = false) : slcA mt a l u t H = .bad := by
  unfold itemy at h
  rw [Bool.or_eq_false_iff, Bool.or_eq_false_iff] at h
  obtain ⟨⟨h1, h2⟩, h3⟩ := h
  have e1 : lsOf H a = none := by simpa using h1
  unfold slcA
  cases optI l <;> first | rfl | skip
  cases optI u <;> first | rfl | skip
  cases t.isNone <;> first | rfl | skip
  cases a <;> first | exact tf_no h3 | (simp only [orBad, e1, ↓reduceIte])
theorem tail_ev {value slice : Expr} {o i : Value} {s : Shared} {M : Mp} {H : AH} {a : AV} {r : Out AV} {ops : List Value} (rp : Rep C.S C.pv s.heap M H) (ra : VRel (C.wd s.heap M) o a) (hb : itemy H a = false → r = .bad)
    (hs : subscripted slice false o i = operate ops (getItem o i)) (hg : Ev VRel C (getItem o i) s M r) : Ev VRel C (getitemInPython o >>= fun b => subscripted slice b o i >>= fun r => letTemporaryGo value o r >>= fun _ => pure r) s M r := by
  cases h : itemy H a with
  | false => rw [hb h]; trivial
  | true =>
    refine x2_2 (getitem_at rp ra (itemy_shape h)) fun T id hT hl => ?_
    exact hg.map fun z => tail_any (value := value) hT hl z hs
theorem snd_sub {f g : DE} {e' i' : Expr} {p : Pos} (h0 : Snd C env ns f e') (h1 : Snd C env ns g i') (hn : notSlice i' = true) : Snd C env ns (subE f g) (.Subscript e' i' p) := fun {ρ s M H} st => by
  show Ev VRel C (eval e' env >>= fun o => holding [o] (eval i' env) >>= fun i => standAt p >>= fun _ => getitemInPython o >>= fun b => subscripted i' b o i >>= fun r => letTemporaryGo e' o r >>= fun _ => pure r) s M _
  refine (h0 st).then fun a H₁ v s₁ M₁ x1 rp1 ra => ?_
  have st1 := st.step x1 rp1
  refine Ev.then (Ev.holding (h1 st1)) fun b H₂ u s₂ M₂ x2 rp2 rb => Ev.stand ?_
  have ra2 := ra.keep (x2.kp st1.live noW_seq)
  exact tail_ev (ops := [v, u]) rp2 ra2 sub_itemy (by cases i' <;> first | rfl | cases hn) (prim_sub (st1.live.step x2) rp2 ra2 rb)
noncomputable def SndO (C : Cx) (env : Env) (ns : List (Option Str)) (f : DE) (e : Option Expr) : Prop :=
  ∀ {ρ : RE} {s : Shared} {M : Mp} {H : AH}, St C env ns ρ s M H → Ev VRel C (valueOrNone (evalOpt e env)) s M (f ρ H)
theorem snd_opt {f : Expr → DE} (h : ∀ e, Snd2 C env ns (f e) e) : ∀ o : Option Expr, SndO C env ns ((o.map f).getD (cstE .none)) o
  | none => fun st => Ev.pure st.rep .none
  | some e => fun st => (h e).1 st
noncomputable def SliceR : RelT Value (AV × AV × AV) := fun w v a => ∃ g w₁ w₂ w₃, v = .ref g ∧ w.h.IsSliceOf g w₁ w₂ w₃ ∧ VRel w w₁ a.1 ∧ VRel w w₂ a.2.1 ∧ VRel w w₃ a.2.2
theorem snd_slc {mt : Bool} {f lo hi t : DE} {e' : Expr} {lo' hi' t' : Option Expr} {p p' : Pos} (h0 : Snd C env ns f e') (h1 : SndO C env ns lo lo') (h2 : SndO C env ns hi hi') (h3 : SndO C env ns t t') : Snd C env ns (slcE mt f lo hi t) (.Subscript e' (.Slice lo' hi' t' p') p) := fun {ρ s M H} st => by
  show Ev VRel C (eval e' env >>= fun o => holding [o] (eval (.Slice lo' hi' t' p') env) >>= fun i => standAt p >>= fun _ => getitemInPython o >>= fun b => subscripted (.Slice lo' hi' t' p') b o i >>= fun r => letTemporaryGo e' o r >>= fun _ => pure r) s M _
  refine (h0 st).then fun a H₁ v s₁ M₁ x1 rp1 ra => ?_
  have st1 := st.step x1 rp1
  have sl : Ev SliceR C (eval (.Slice lo' hi' t' p') env) s₁ M₁ ((lo ρ H₁).bind fun l H₂ => (hi ρ H₂).bind fun u H₃ => (t ρ H₃).bind fun k H₄ => .ok (l, u, k) H₄) := by
    show Ev SliceR C (valueOrNone (evalOpt lo' env) >>= fun l => holding [l] (valueOrNone (evalOpt hi' env)) >>= fun u => holding [l, u] (valueOrNone (evalOpt t' env)) >>= fun k => newFields "slice" [l, u, k]) s₁ M₁ _
    refine (h1 st1).then fun a H₁ v s₁ M₁ x1 rp1 ra => ?_
    have st1 := st1.step x1 rp1
    refine Ev.then (Ev.holding (h2 st1)) fun b H₂ u s₂ M₂ x2 rp2 rb => ?_
    have st2 := st1.step x2 rp2
    refine Ev.then (Ev.holding (h3 st2)) fun c H₃ k s₃ M₃ x3 rp3 rc => ?_
    have ex : ∀ {o : Obj}, Kp (C.wd s₃.heap M₃) (C.wd (s₃.heap.push o) M₃) := fun {o} => kp_ext fun b o e => Heap.get?_push_of_some _ e
    exact wpAny_newObj_type (post_push rp3 ⟨_, v, u, k, rfl, Heap.IsSliceOf.new _ _ _ _, ((ra.keep (x2.kp st1.live noW_seq)).keep (x3.kp st2.live noW_seq)).keep ex, (rb.keep (x3.kp st2.live noW_seq)).keep ex, rc.keep ex⟩ _)
  have : ((lo ρ H₁).bind fun l H₂ => (hi ρ H₂).bind fun u H₃ => (t ρ H₃).bind fun k H₄ => slcA mt a l u k H₄) = ((lo ρ H₁).bind fun l H₂ => (hi ρ H₂).bind fun u H₃ => (t ρ H₃).bind fun k H₄ => .ok (l, u, k) H₄).bind fun y H₄ => slcA mt a y.1 y.2.1 y.2.2 H₄ := by
    simp only [bind_bind]; rfl
  show Ev VRel C _ s₁ M₁ ((lo ρ H₁).bind fun l H₂ => (hi ρ H₂).bind fun u H₃ => (t ρ H₃).bind fun k H₄ => slcA mt a l u k H₄)
  rw [this]
  refine Ev.then (Ev.holding sl) fun y H₂ i s₂ M₂ x2 rp2 ri => Ev.stand ?_
  refine x4_5 (ri) fun g w₁ w₂ w₃ e4' hg r1 r2 r3 => ?_; try clear ri; subst e4'
  have ra2 := ra.keep (x2.kp st1.live noW_seq)
  have hsub : ∃ ops, subscripted (.Slice lo' hi' t' p') false v (.ref g) = operate ops (getItem v (.ref g)) := by
    cases t'
    · exact ⟨[.ref g, v], rfl⟩
    · exact ⟨[v, .ref g], rfl⟩
  obtain ⟨ops, hsub⟩ := hsub
  exact tail_ev (ops := ops) rp2 ra2 slc_itemy hsub (prim_slc (st1.live.step x2) rp2 ra2 r1 r2 r3 hg)
theorem snd_dct0 {p : Pos} : Snd C env ns dct0E (.Dict [] [] p) := fun {ρ s M H} st => by
  show Ev VRel C (standAt p >>= fun _ => dictDisplay []) s M (.ok (.ref H.length) (H ++ [.dict []]))
  refine Ev.stand ?_
  show wpAny C.S.M C.A newDict _ _ s
  have hr := size_none s.heap
  have k : ∀ (ob : Obj) b o, s.heap.get? b = some o → (s.heap.push ob).get? b = some o := fun ob b o e => Heap.get?_push_of_some _ e
  refine wpAny_bind (wpAny_alloc (wpAny_pure ⟨M ++ [(s.heap.objs.size, s.heap.objs.size)], Step.new (t := s.toks) (k _) hr hr, st.rep.newO (fun a q => st.live.priv a (.inr q)) (fun _ q => nomatch q) (k _) hr hr ⟨rfl, [], Heap.DictOf.new _, rfl, .nil, fun _ h => nomatch h⟩, .ref (p := (s.heap.objs.size, s.heap.objs.size)) ?_⟩))
  show (M ++ [_])[H.length]? = _
  rw [← st.rep.len]; simp
theorem disp_two {k v k' v' : Sem Value} {S : Model} {A : Around} {P : Value → Shared → Prop} {E : Value → Shared → Prop} {s : Shared} {p : Pos} (h : wpAny S A (alloc { cls := .type "dict", data := .dict #[] } >>= fun d => k >>= fun a => v >>= fun b => standAt p >>= fun _ => k' >>= fun a' => v' >>= fun b' => standAt p >>= fun _ => dictSet d a b >>= fun _ => dictSet d a' b' >>= fun _ => pure (.ref d)) P E s) : wpAny S A (dictDisplay [(some k, v >>= fun x => standAt p >>= fun _ => pure x), (some k', v' >>= fun x => standAt p >>= fun _ => pure x)]) P E s := by
  rw [show dictDisplay [(some k, v >>= fun x => standAt p >>= fun _ => pure x), (some k', v' >>= fun x => standAt p >>= fun _ => pure x)] = _ from dictDisplay_pairs [(k, v >>= fun x => standAt p >>= fun _ => pure x), (k', v' >>= fun x => standAt p >>= fun _ => pure x)] (by simp) (by simp)]
  intro Γ q hΓ
  have := h Γ q hΓ
  unfold subDict
  simp only [List.length_cons, List.length_nil, if_pos (show 0 + 1 + 1 ≤ 15 by decide), evalPairs, Sem.wp_bind', Sem.wp_holding, Sem.wp_pure', List.forIn_cons, List.forIn_nil] at this ⊢
  exact this
theorem prim_dset {s : Shared} {M : Mp} {H H' : AH} {v : Value} {w₀ : Value} {d : Addr} {o i a : AV} (L : Live C s.heap M) (rp : Rep C.S C.pv s.heap M H) (ro : VRel (C.wd s.heap M) (.ref d) o) (ri : VRel (C.wd s.heap M) w₀ i) (rv : VRel (C.wd s.heap M) v a) {n : Nat} {es : List (Key × AV)} (ho : o = .ref n) (q : H[n]? = some (.dict es)) (e : setItemA o i a H = some H') : Ev EqR C (dictSet d w₀ v) s M (.ok () H') := by
  subst ho
  rw [setItemA_at q] at e
  simp only at e
  split at e <;> first | exact no_some e | skip
  rename_i hz
  refine x1_2 (Option.map_eq_some_iff.mp e) fun k hk e2' => ?_; subst e2'
  refine x2_7 (dc_of (n := n) (es := es) rp ro (dcOf_at q)) fun p kvs e2' z ep hm e1 e2 ok => ?_; cases e2'
  have hlen : kvs.length = es.length := by simpa using congrArg List.length e1
  refine wpAny_dictSet_pairs (hsz := by rw [hlen, sizeLine_eq]; exact Nat.le_of_lt (lt_t ‹_› rfl)) (key_is ri hk).1 hm fun h' hm' hsb => ?_
  refine post_setO L rp z (fun es e => by rw [q] at e; cases e) (fun _ q => nomatch q) (fun b o hb _ z => (hsb.2 b hb).trans z) (fun K => ?_) (fun K => rfl)
  have hz := zip_stored (k := k) (rv.keep K) e1 (e2.keep K)
  exact ⟨ep, _, hm', hz.1, hz.2, setD_ok ok (key_is ri hk).2⟩
theorem dset_at {H H' : AH} {a i v : AV} (hd : (dcOf H a).isSome = true) (e : setItemA a i v H = some H') : ∃ n es, a = .ref n ∧ H[n]? = some (.dict es) := by
  obtain ⟨⟨n, es⟩, hq⟩ := Option.isSome_iff_exists.mp hd
  cases a <;> first | exact no_some hq | skip
  rename_i m
  cases h : H[m]? with
  | none => rw [dcOf_at h] at hq; cases hq
  | some ao =>
    rw [dcOf_at h] at hq
    cases ao with
    | dict es' => exact ⟨m, es', rfl, h⟩
    | ldict es' => rw [setItemA_at h] at e; cases e
    | _ => cases hq
theorem snd_dct2 {f g f' g' : DE} {e' i' e'' i'' : Expr} {p : Pos} (h0 : Snd C env ns f e') (h1 : Snd C env ns g i') (h2 : Snd C env ns f' e'') (h3 : Snd C env ns g' i'') : Snd C env ns (dct2E f g f' g') (.Dict [some e', some e''] [i', i''] p) := fun {ρ s M H} st => by
  show Ev VRel C (standAt p >>= fun _ => dictDisplay [(some (eval e' env), eval i' env >>= fun x => standAt p >>= fun _ => pure x), (some (eval e'' env), eval i'' env >>= fun x => standAt p >>= fun _ => pure x)]) s M (dctF f g f' g' ρ (.ref H.length) (H ++ [.dict []]))
  refine Ev.stand (Ev.map disp_two ?_)
  have hr := size_none s.heap
  have k : ∀ (ob : Obj) b o, s.heap.get? b = some o → (s.heap.push ob).get? b = some o := fun ob b o e => Heap.get?_push_of_some _ e
  have a0 : Ev (fun w d a => VRel w (.ref d) a) C (alloc { cls := .type "dict", data := .dict #[] }) s M (.ok (.ref H.length) (H ++ [.dict []])) := wpAny_alloc ⟨M ++ [(s.heap.objs.size, s.heap.objs.size)], Step.new (t := s.toks) (k _) hr hr, st.rep.newO (fun a q => st.live.priv a (.inr q)) (fun _ q => nomatch q) (k _) hr hr ⟨rfl, [], Heap.DictOf.new _, rfl, .nil, fun _ h => nomatch h⟩, .ref (p := (s.heap.objs.size, s.heap.objs.size)) (by
    show (M ++ [_])[H.length]? = _
    rw [← st.rep.len]; simp)⟩
  refine Ev.then (f := fun d H => dctF f g f' g' ρ d H) a0 fun a H₁ dd s₁ M₁ x1 rp1 ra => ?_
  have st1 := st.step x1 rp1
  refine (h0 st1).then fun b H₂ u s₂ M₂ x2 rp2 rb => ?_
  have st2 := st1.step x2 rp2
  refine (h1 st2).then fun c H₃ w s₃ M₃ x3 rp3 rc => ?_
  have st3 := st2.step x3 rp3
  refine Ev.stand ?_
  refine (h2 st3).then fun b' H₄ u' s₄ M₄ x4 rp4 rb' => ?_
  have st4 := st3.step x4 rp4
  refine (h3 st4).then fun c' H₅ w' s₅ M₅ x5 rp5 rc' => ?_
  have st5 := st4.step x5 rp5
  refine Ev.stand (Ev.ite fun hd => Ev.orBad fun H₆ e => ?_)
  have kp2 := x2.kp st1.live noW_seq
  have kp3 := x3.kp st2.live noW_seq
  have kp4 := x4.kp st3.live noW_seq
  have kp5 := x5.kp st4.live noW_seq
  have ra1 : VRel (C.wd s₁.heap M₁) (.ref dd) a := ra
  have ra5 : VRel (C.wd s₅.heap M₅) (.ref dd) a := (((ra1.keep kp2).keep kp3).keep kp4).keep kp5
  obtain ⟨n, es, ho, hq⟩ := dset_at hd e
  refine Ev.then (o := .ok () H₆) (f := fun _ H => if (dcOf H a).isSome then orBad (setItemA a b' c' H) fun H₆ => .ok a H₆ else .bad) (prim_dset st5.live rp5 ra5 (((rb.keep kp3).keep kp4).keep kp5) ((rc.keep kp4).keep kp5) ho hq e) fun _ H₇ _ s₇ M₇ x7 rp7 _ => ?_
  have st7 := st5.step x7 rp7
  have kp7 := x7.kp st5.live noW_seq
  refine Ev.ite fun hd' => Ev.orBad fun H₈ e' => ?_
  obtain ⟨n', es', ho', hq'⟩ := dset_at hd' e'
  exact Ev.then (o := .ok () H₈) (f := fun _ H => .ok a H) (prim_dset st7.live rp7 (ra5.keep kp7) ((rb'.keep kp5).keep kp7) (rc'.keep kp7) ho' hq' e') fun _ H₉ _ s₉ M₉ x9 rp9 _ => Ev.pure rp9 ((ra5.keep kp7).keep (x9.kp st7.live noW_seq))
theorem create_units (C : Addr) (rest : List Value) : (Code.builtin "type.__call__" ⟨.ref C :: rest, []⟩).weight = 1 ∧ (Code.builtin "type.__call__" ⟨.ref C :: rest, []⟩).cUnits ≤ 20 ∧ (Code.builtin "type.__call__" ⟨.ref C :: rest, []⟩).envs = [] := by
  refine ⟨rfl, ?_, rfl⟩
  have : ∃ n, n ≤ 20 ∧ (Code.builtin "type.__call__" ⟨.ref C :: rest, []⟩).cUnits = n := ⟨1, by decide, by with_unfolding_all rfl⟩
  refine x1_2 (this) fun n h1 h2 => ?_; try clear this
  lia
theorem new_ev {c f : Nat} {s : Shared} {M : Mp} {H : AH} {as : List AV} {vals : List Value} {D : Addr} (Y : Fit C.S G) (F : FOK C.S C.hot d Φ) (hd : d + 1 ≤ C.d) (hc : C.S.cl c = some D) (hf : G.fn c 0 = some f) (L : Live C s.heap M) (rp : Rep C.S C.pv s.heap M H) (ra : VRels (C.wd s.heap M) vals as) :
    Ev VRel C (call (.ref D) vals) s M ((Φ f (.ref H.length :: as) (H ++ [.inst c (List.replicate G.na none)])).bind fun r H₂ => match r with | .none => .ok (.ref H.length) H₂ | _ => .bad) := by
  refine x2_6 (Y.mth c D 0 f hc hf) fun x fa e1 e2 e3 e4 e5 e6 => ?_
  rw [Y.ini] at e1
  cases e1
  have K := Y.cls c D hc
  refine Ev.ofCode ?_
  obtain ⟨hp, g, dr, t, os⟩ := s
  have XK : C.S.K.In hp := L.K
  have mk : ∀ {R : Result → Shared → Prop}, codeAny C.S.M (C.A.under (.builtin "type.__call__" ⟨.ref D :: vals, []⟩)) (.call (.ref fa) ⟨.ref (hp.objs.size + 1) :: vals, []⟩) (InitBack (hp.objs.size + 1) R) ⟨(hp.push emptyDict).push (instObj D hp.objs.size), g, dr, t, os⟩ → codeAny C.S.M C.A (.call (.ref D) ⟨vals, []⟩) R ⟨hp, g, dr, t, os⟩ := fun z =>
    make_core (makes_of XK K.mks) (looks_findIn XK e4) (fun self => bind_fn XK self (beq_iff_eq.mp e5)) (.inl rfl) z
  refine x0_3 (create_units D vals) fun u1 u2 u3 => ?_
  let C' : Cx := { C with A := C.A.under (.builtin "type.__call__" ⟨.ref D :: vals, []⟩), d := C.d - 1 }
  have kp : ∀ b o, hp.get? b = some o → ((hp.push emptyDict).push (instObj D hp.objs.size)).get? b = some o := fun b o e => Heap.get?_push_of_some _ (Heap.get?_push_of_some _ e)
  have hdx : hp.get? hp.objs.size = none := size_none _
  have hx : hp.get? (hp.objs.size + 1) = none := by
    cases q : hp.get? (hp.objs.size + 1) with
    | none => rfl
    | some o => exact absurd (Heap.lt_size q) (Nat.not_lt.mpr (Nat.le_succ _))
  have hx1 : ((hp.push emptyDict).push (instObj D hp.objs.size)).get? (hp.objs.size + 1) = some (instObj D hp.objs.size) := by
    have := Heap.get?_push_size (hp.push emptyDict) (o := instObj D hp.objs.size) rfl
    rw [Heap.size_push] at this
    exact this
  have rp' : Rep C.S C.pv ((hp.push emptyDict).push (instObj D hp.objs.size)) (M ++ [(hp.objs.size + 1, hp.objs.size)]) (H ++ [.inst c (List.replicate G.na none)]) := by
    refine rp.newO (p := (hp.objs.size + 1, hp.objs.size)) (fun a q => L.priv a (.inr q)) (fun _ q => nomatch q) kp hx hdx ⟨Ne.symm (Nat.succ_ne_self _), D, [], 0, hc, hx1, Heap.get?_push_of_some _ (Heap.get?_push_size _ rfl), ?_, ?_, fun _ _ => rfl, fun k x hk => ?_⟩
    · unfold cnt; rw [List.countP_replicate]; rfl
    · rw [List.length_replicate]; exact Y.na
    · rw [List.getElem?_replicate]
      by_cases q : k < G.na
      · rw [if_pos q]; rfl
      · rw [if_neg q]; rfl
  have x1 : Step C noW ⟨hp, g, dr, t, os⟩ M ⟨(hp.push emptyDict).push (instObj D hp.objs.size), g, dr, t, os⟩ (M ++ [(hp.objs.size + 1, hp.objs.size)]) := Step.new (s := ⟨hp, g, dr, t, os⟩) (t := t) kp hx hdx
  have L1 := L.step x1
  have L' : Live C' ((hp.push emptyDict).push (instObj D hp.objs.size)) (M ++ [(hp.objs.size + 1, hp.objs.size)]) := by
    refine ⟨?_, L1.funs, L1.stays, L1.off, L1.new, fun h => L1.handled h, L1.dicts, ?_, ?_, L1.priv, L1.poff⟩
    · show pushEnvs (Code.builtin "type.__call__" ⟨.ref D :: vals, []⟩).envs C.A.frames = some C.fe
      rw [u3]; exact L1.frames
    · show C.A.depth + _ + (C.d - 1) < recursionLimit
      rw [u1]; have : C.A.depth + C.d < recursionLimit := L1.depth; lia -abstractProof
    · show C.A.units + _ + 20 * (C.d - 1) + 100 < cLine
      have : C.A.units + 20 * C.d + 100 < cLine := L1.units; lia -abstractProof
  have Ks : Kp (C.wd hp M) (C.wd ((hp.push emptyDict).push (instObj D hp.objs.size)) (M ++ [(hp.objs.size + 1, hp.objs.size)])) := kp_new kp hx hdx
  have self : VRel (C.wd ((hp.push emptyDict).push (instObj D hp.objs.size)) (M ++ [(hp.objs.size + 1, hp.objs.size)])) (.ref (hp.objs.size + 1)) (.ref H.length) := by
    refine .ref (p := (hp.objs.size + 1, hp.objs.size)) ?_
    show (M ++ [_])[H.length]? = _
    rw [← rp.len]; simp
  have back : ∀ {W : Addr → Prop} {s s' : Shared} {M M' : Mp}, Step C' W s M s' M' → Step C W s M s' M' := fun x => ⟨x.keep, x.slots, x.alive, x.pre, x.grow, x.gens, x.os⟩
  have B := F f fa (.ref H.length :: as) (H ++ [.inst c (List.replicate G.na none)]) e3 C' ⟨(hp.push emptyDict).push (instObj D hp.objs.size), g, dr, t, os⟩ _ (.ref (hp.objs.size + 1) :: vals) rfl rfl (by show d ≤ C.d - 1; lia -abstractProof) L' rp' (.cons self (ra.keep Ks))
  generalize Φ f (.ref H.length :: as) (H ++ [.inst c (List.replicate G.na none)]) = o at B
  cases o with
  | bad => trivial
  | exc c' H' =>
    refine mk (codeAny_mono B fun r s' z_1 => x1_2 z_1 fun e he z_1 => x3_2 z_1 fun e' M' B' ev ex => ?_)
    subst he
    have ex' : Exn C noW _ (M ++ [(hp.objs.size + 1, hp.objs.size)]) e' c' s' M' H' B' := ⟨ex.keepB, ex.base, ex.rep, ex.flt, ex.slots, ex.alive, ex.pre, ex.grow, ex.gens, ex.os, ex.fresh⟩
    exact ⟨_, rfl, e', M', B', ev, ex'.after x1 fun _ q => q⟩
  | ok y H' =>
    cases y <;> first | trivial | skip
    refine mk (codeAny_mono B fun r s' z_1 => x1_2 z_1 fun v he z_1 => x1_3 z_1 fun M' st rp2 rv => ?_)
    subst he
    rw [show v = .none from rv.inv]
    exact ⟨rfl, _, rfl, M', x1.trans (back st), rp2, self.keep ((back st).kp L1 noW_seq)⟩
theorem snd_new {f : Expr → DE} (Y : Fit C.S G) (F : FOK C.S C.hot d Φ) (hd : d + 1 ≤ C.d) (h : ∀ e, Snd2 C env ns (f e) e) {x : Str} {c : Nat} {es : List Expr} {p p' : Pos} (hk : env.kindOf x = some .globalImplicit) (hdb : (x == ("__debug__" : Str)) = false) (hi : C.S.T.cls[c]? = some x) (hs : es.all notStar = true) :
    Snd C env ns (newE G Φ c (es.map f)) (.Call (.Name x p') es [] p) := fun {ρ s M H} st => by
  refine x1_3 (Y.cn c x hi) fun D h1 h2 h3 => ?_
  show Ev VRel C (eval (.Name x p') env >>= fun fv => callWith p fv [] (backTo p (starEach es env)) []) s M _
  refine Ev.look (fun z => name_glob st hk hdb h2 z) ?_
  refine call_ev (first := []) h hs st (fun z => callWith_of (P := C.S.K.In) (by rw [back_plain es hs]; rfl) (keeps_K h3) z) fun as H₁ vals s₁ M₁ x1 st1 r => Ev.orBad fun fi hf => ?_
  exact new_ev Y F hd h1 hf st1.live st1.rep r
theorem kitx_rel {Q : Prop} {s : Shared} {M : Mp} {H : AH} {v tv : Value} {a : AV} {ty : Ty} {b : Bool} (Y : Fit C.S G) (rp : Rep C.S C.pv s.heap M H) (r : VRel (C.wd s.heap M) v a) (hb : isiA G H a ty = some b) (hv : C.S.tyV ty = some tv) (k : ∀ t P, KitX C.S.K v t P → P s.heap → kitOne C.S.K t tv = some b → v ≠ .builtin "__main__.__loader__#opaque" → Q) : Q := by
  cases a <;> first | exact no_some hb | skip
  · cases hb; rw [show v = .none from r.inv] at k; exact k _ _ kitx_none trivial (Y.kb .none ty tv hv) fun q => nomatch q
  · rename_i x; cases hb; rw [show v = .bool x from r.inv] at k; exact k _ _ kitx_bool trivial (Y.kb .bool ty tv hv) fun q => nomatch q
  · cases hb; obtain ⟨t, rfl⟩ := r.inv; exact k _ _ kitx_int trivial (Y.kb .int ty tv hv) fun q => nomatch q
  · cases hb; obtain ⟨t, rfl, _⟩ := r.inv; exact k _ _ kitx_str trivial (Y.kb .str ty tv hv) fun q => nomatch q
  · cases hb; refine x3_2 r.inv fun l vs n e z => ?_; subst e; exact k _ _ kitx_tuple ⟨_, z.1, rfl⟩ (Y.kb .tup ty tv hv) fun q => nomatch q
  · rename_i n
    refine x1_2 (r.inv) fun p e1' z => ?_; subst e1'
    replace hb : (kdOf H (.ref n)).map (fun k => isK k ty) = some b := hb
    cases q : H[n]? with
    | none => rw [kdOf_at q] at hb; exact no_some hb
    | some ao =>
      rw [kdOf_at q] at hb
      cases ao with
      | lst xs =>
        cases hb
        obtain ⟨_, vs, m, ho, _⟩ := rp.obj _ _ _ z q
        exact k _ _ kitx_list ⟨_, ho, rfl⟩ (Y.kb .lst ty tv hv) fun q => nomatch q
      | _ => exact no_some hb
  · cases hb
    obtain ⟨x, D, rfl, ⟨o, vs, ho, hcl, hn, hd⟩, hX, _⟩ := r.inv
    exact k _ _ (kitx_exc (Y.exc _ D hX).2) ⟨ho, hcl, by unfold notCls; rw [hd], by rw [hn]; trivial⟩ (Y.kx _ D ty tv hX hv) fun q => nomatch q
theorem type_walk {ρ : RE} {s : Shared} {M : Mp} {H : AH} {x : Str} {p : Pos} {ty : Ty} {v : Value} {P : Value → Shared → Prop} {E : Value → Shared → Prop} (Y : Fit C.S G) (st : St C env ns ρ s M H) (hk : env.kindOf x = some .globalImplicit) (hd : (x == ("__debug__" : Str)) = false) (hn : x ≠ "__name__")
    (hx : tyN C.S.T ty = some x) (hv : C.S.tyV ty = some v) (h : P v s) : wpAny C.S.M C.A (eval (.Name x p) env) P E s := by
  have boot : ∀ {T : String} (y : Str), y ∈ biNames → bootBuiltins y = some (.type T) → some y = some x → some (Value.type T) = some v → wpAny C.S.M C.A (eval (.Name x p) env) P E s := fun y h1 h2 e1 e2 => by
    cases e1; cases e2; exact name_boot st hk hd (Y.bi _ h1) h2 hn h
  cases ty with
  | int => exact boot "int" (by decide) (by decide +kernel) hx hv
  | bool => exact boot "bool" (by decide) (by decide +kernel) hx hv
  | str => exact boot "str" (by decide) (by decide +kernel) hx hv
  | tup => exact boot "tuple" (by decide) (by decide +kernel) hx hv
  | lst => exact boot "list" (by decide) (by decide +kernel) hx hv
  | val => exact boot "ValueError" (by decide) (by decide +kernel) hx hv
  | exc c =>
    refine x1_2 (Y.xn c x hx) fun D h1 h2 => ?_
    replace hv : (C.S.X c).map Value.ref = some v := hv
    rw [h1] at hv
    cases hv
    exact name_glob st hk hd h2 h
theorem snd_isi {f : DE} {e' : Expr} {ty : Ty} {x : Str} {px : Pos} {p p' : Pos} (Y : Fit C.S G) (hk : env.kindOf "isinstance" = some .globalImplicit) (h : Snd C env ns f e') (hs : notStar e' = true)
    (k1 : env.kindOf x = some .globalImplicit) (k2 : (x == ("__debug__" : Str)) = false) (k3 : x ≠ "__name__") (k4 : tyN C.S.T ty = some x) : Snd C env ns (isiE G f [ty]) (.Call (.Name "isinstance" p') [e', .Name x px] [] p) := fun {ρ s M H} st => by
  obtain ⟨tv, h3⟩ : ∃ v, C.S.tyV ty = some v := by
    cases ty with
    | exc c =>
      refine x1_2 (Y.xn c x k4) fun D h1 _ => ?_
      exact ⟨.ref D, by show (C.S.X c).map _ = _; rw [h1]; rfl⟩
    | _ => exact ⟨_, rfl⟩
  show Ev VRel C (eval (.Name "isinstance" p') env >>= fun fv => callWith p fv [] (backTo p (starEach [e', .Name x px] env)) []) s M ((f ρ H).bind fun a H₁ => orBad (isiA G H₁ a ty) fun b => .ok (.bool b) H₁)
  refine Ev.look (fun z => name_boot st hk (by decide) (Y.bi _ (by decide)) (by decide +kernel : bootBuiltins "isinstance" = some (.builtin "isinstance")) (by decide) z) ?_
  have A := h st
  generalize f ρ H = o at A
  have cw : ∀ {P : Value → Shared → Prop} {E : Value → Shared → Prop}, wpAny C.S.M C.A (eval e' env) (fun v s₁ => wpAny C.S.M C.A (spliced [(false, eval (.Name x px) env)]) (fun us s₂ => wpAny C.S.M C.A (call (.builtin "isinstance") (v :: us)) P E s₂) E s₁) E s → wpAny C.S.M C.A (callWith p (.builtin "isinstance") [] (backTo p (starEach [e', .Name x px] env)) []) P E s := fun z => by
    refine Calls.callWith_builtin (back_plain [e', .Name x px] (by simp [hs]; rfl)) ?_
    rw [back_cons hs, back_cons rfl]
    exact Calls.evalArgs_plain (Calls.spliced_cons z)
  cases o with
  | bad => trivial
  | exc c H' => exact cw (wpAny_mono A (fun _ _ q => q.elim) fun _ _ q => q)
  | ok a H₁ =>
    show Ev VRel C _ s M (orBad (isiA G H₁ a ty) fun b => .ok (.bool b) H₁)
    refine Ev.orBad fun b hb => cw (wpAny_mono A (fun v s₁ z_8 => x1_3 z_8 fun M₁ x1 rp1 ra => ?_) fun _ _ q => q.elim)
    have st1 := st.step x1 rp1
    refine kitx_rel Y rp1 ra hb h3 fun t P Z p0 hkit hx => ?_
    refine Calls.spliced_cons (type_walk Y st1 k1 k2 k3 k4 h3 (Calls.spliced_nil ?_))
    exact kia_one Z st1.live.K p0 hkit hx fun tk => by
      refine x1_2 (post_tok (C := C) (R := VRel) (x := Value.bool b) (y := AV.bool b) rp1 (.bool _) tk) fun M₃ x3 z => ?_
      exact ⟨M₃, x1.trans x3, z⟩
end
section
variable {C : Cx} {env : Env} {ns : List (Option Str)} {ρ : RE} {s s' : Shared} {M M' : Mp} {H H' : AH}
noncomputable abbrev Cx.withPv (C : Cx) (pv : List Addr × List Addr) : Cx := { C with pv := pv }
theorem St.pv {pv : List Addr × List Addr} (st : St C env ns ρ s M H) (R : Rep C.S pv s.heap M H') (k : Kp (C.wd s.heap M) (wdOf C.S pv s.heap M)) (hp : ∀ a, a ∈ pv.1 ∨ a ∈ pv.2 → ∃ o, s.heap.get? a = some o) (ho : ∀ a ∈ pv.1, ¬ foot M a) : St (C.withPv pv) env ns ρ s M H' := by
  obtain ⟨L, _, m, cm, E⟩ := st
  exact ⟨⟨L.frames, L.funs, L.stays, L.off, L.new, L.handled, L.dicts, L.depth, L.units, hp, ho⟩, R, m, cm, E.keep rfl (fun _ q => q) (fun o ho => ⟨o.slots, ho⟩) (fun n c o e ho => ho) k fun a o _ _ n => n⟩
theorem kp_same {S : Stat} {pv pv' : List Addr × List Addr} {h : Heap} (e : ∀ a o, h.get? a = some o → a ∈ pv'.1 → a ∈ pv.1) : Kp (wdOf S pv h M) (wdOf S pv' h M) :=
  ⟨fun b o eo n _ => ⟨eo, fun q => n (q.imp id (e b o eo))⟩, ⟨[], by simp [wdOf]⟩, rfl⟩
theorem Rep.lock {S : Stat} {l1 l2 : List Addr} {h : Heap} {n : Nat} {p : Addr × Addr} {es : List (Key × AV)} (R : Rep S (l1, l2) h M H) (e : M[n]? = some p) (q : H[n]? = some (.dict es)) : Rep S (l1, p.1 :: l2) h M (H.set n (.ldict es)) := by
  have hlt : n < H.length := (List.getElem?_eq_some_iff.mp q).1
  have o1 := R.obj n p _ e q
  refine ⟨by rw [List.length_set]; exact R.len, fun m r ao e1 e2 => ?_, R.apart, fun m r e1 z => ?_, fun m r es' e1 e2 => ?_⟩
  · rw [List.getElem?_set] at e2
    split at e2
    · rename_i y; subst y
      cases e2
      rw [e] at e1; cases e1; exact o1
    · exact R.obj m r ao e1 e2
  · by_cases y : n = m
    · subst y; exact ⟨es, by rw [List.getElem?_set, if_pos rfl, if_pos hlt]⟩
    · rw [List.getElem?_set, if_neg y]
      refine x0_4 (R.apart n m p r e e1 y) fun a b c d => ?_
      refine R.held m r e1 (z.imp (fun z => ?_) fun z => ?_)
      · exact (List.mem_cons.mp z).resolve_left a.symm
      · exact (List.mem_cons.mp z).resolve_left b.symm
  · by_cases y : n = m
    · subst y; rw [e] at e1; cases e1; exact .head _
    · rw [List.getElem?_set, if_neg y] at e2; exact .tail _ (R.lkd m r es' e1 e2)
theorem Rep.free {S : Stat} {l1 l2 : List Addr} {h : Heap} {n : Nat} {p : Addr × Addr} (R : Rep S (l1, p.1 :: l2) h M H) (e : M[n]? = some p) (hl : p.1 ∉ l2 ∧ p.2 ∉ l2) : Rep S (l1, l2) h M (freeH (some n) H) := by
  obtain ⟨es, q⟩ := R.held n p e (.inl (.head _))
  have hlt : n < H.length := (List.getElem?_eq_some_iff.mp q).1
  have o1 := R.obj n p _ e q
  simp only [freeH, q]
  refine ⟨by rw [List.length_set]; exact R.len, fun m r ao e1 e2 => ?_, R.apart, fun m r e1 z => ?_, fun m r es' e1 e2 => ?_⟩
  · rw [List.getElem?_set] at e2
    split at e2
    · rename_i y; subst y
      cases e2
      rw [e] at e1; cases e1; exact o1
    · exact R.obj m r ao e1 e2
  · by_cases y : n = m
    · subst y
      rw [e] at e1; cases e1
      exact absurd z fun z => z.elim hl.1 hl.2
    · rw [List.getElem?_set, if_neg y]
      exact R.held m r e1 (z.imp (.tail _) (.tail _))
  · by_cases y : n = m
    · subst y; rw [List.getElem?_set, if_pos rfl, if_pos hlt] at e2; cases e2
    · rw [List.getElem?_set, if_neg y] at e2
      exact (List.mem_cons.mp (R.lkd m r es' e1 e2)).resolve_left (R.apart n m p r e e1 y).1.symm
theorem Step.pv {W : Addr → Prop} {pv : List Addr × List Addr} (x : Step (C.withPv pv) W s M s' M') (h : ∀ a ∈ C.pv.2, a ∈ pv.2) : Step C W s M s' M' := ⟨fun b o e n => x.keep b o e fun q => h b (n q), x.slots, x.alive, x.pre, x.grow, x.gens, x.os⟩
end
noncomputable def Steady (C : Cx) (env : Env) (h : Heap) (M : Mp) (b : Addr) : Prop := (∃ o, h.get? b = some o) ∧ ¬ OwnW env b ∧ b ∉ C.fs ∧ (foot M b → b ∈ C.pv.2) ∧ b ∉ C.pv.1
noncomputable def itOK (T : String) : Bool := !(["enumerate", "zip", "dict_itemiterator", "dict_reverseitemiterator", "odict_iterator", "itertools.zip_longest", "itertools.pairwise"].contains T) && !(["tuple", "list", "range"].contains T)
noncomputable def IsIt (h : Heap) (I : Addr) : Prop := ∃ o T, h.get? I = some o ∧ o.cls = .type T ∧ itOK T = true
theorem IsIt.not {h : Heap} {I : Addr} (x : IsIt h I) : ∃ o, h.get? I = some o ∧ ¬ Held o := by
  refine x2_3 (x) fun o T ho hc hT => ?_; try clear x
  unfold itOK at hT
  rw [Bool.and_eq_true, Bool.not_eq_true', Bool.not_eq_true'] at hT
  refine ⟨o, ho, not_held hc fun q => ?_⟩
  rcases q with rfl | rfl | rfl <;> exact absurd hT.2 (by decide)
set_option backward.match.sparseCases true in
theorem letGo_ok {M : Model} {A : Around} {target : Expr} {I : Addr} {v : Value} {s : Shared} {Q : Unit → Shared → Prop} {E : Value → Shared → Prop} (x : IsIt s.heap I) (h : Q () s) : wpAny M A (letOwnedTupleGo target (.ref I) v) Q E s := by
  refine x2_3 (x) fun o T ho hc hT => ?_; try clear x
  have key : wpAny M A (do
      let (.ref r, .ref a) := (Value.ref I, v) | return
      let o ← load r
      match o.cls, o.data with
      | .type n, .fields vs =>
        if ["enumerate", "zip", "dict_itemiterator", "dict_reverseitemiterator", "odict_iterator", "itertools.zip_longest", "itertools.pairwise"].contains n && vs[0]? == some (rawInt a) then
          rule "for.unpacks-the-owned-tuple"
          updateField r 0 .none
      | _, _ => pure ()) Q E s := by
    cases v <;> first | exact wpAny_pure h | skip
    refine wpAny_bind (wpAny_load ho ?_)
    rw [hc]
    cases o.data <;> first | exact wpAny_pure h | skip
    unfold itOK at hT
    rw [Bool.and_eq_true, Bool.not_eq_true'] at hT
    simp only [hT.1, Bool.false_and, Bool.false_eq_true, if_false]
    exact wpAny_pure h
  cases target <;> first | exact wpAny_pure h | exact key
inductive Itr (C : Cx) (env : Env) (h : Heap) (M : Mp) (I : Addr) : Src → Nat → Prop
  | seq {fp : List Addr} {P : Nat → Value → Prop} {W : Nat → Heap → Prop} {xs : List AV} {k : Nat} : Walks C.S.prog C.S.w C.A I fp [I] xs.length P W → W k h → (∀ b ∈ fp, b = I ∨ Steady C env h M b) → (∀ (i : Nat) v x, P i v → xs[i]? = some x → VRel (C.wd h M) v x) → k ≤ xs.length →
      (∀ i h, W i h → IsIt h I) → Itr C env h M I (.seq xs) k
  | lref {n : Nat} {p : Addr × Addr} {k : Nat} : h.IsListIter I p.1 k → M[n]? = some p → Itr C env h M I (.lref n) k
section
variable {C : Cx} {env : Env} {ns : List (Option Str)} {ρ : RE} {s s' : Shared} {M M' : Mp} {H H' : AH} {I : Addr} {src : Src} {k : Nat} {v : Value} {a : AV}
theorem Itr.is {h : Heap} (i : Itr C env h M I src k) : IsIt h I := by
  cases i with
  | seq W h0 hf hi hk hg => exact hg _ _ h0
  | lref h0 e => obtain ⟨o, ho, hc, _⟩ := h0; exact ⟨o, _, ho, hc, by decide⟩
theorem Itr.after (i : Itr C env s.heap M I src k) (x : Step C (OwnW env) s M s' M') (y : Aside C env s.heap M I) (L : Live C s.heap M) (hw : VarsOnly s.heap (OwnW env)) : Itr C env s'.heap M' I src k := by
  cases i with
  | seq W h0 hf hi hk hg =>
    refine .seq W (W.frame _ _ _ h0 fun b hb o e => ?_) (fun b hb => (hf b hb).imp id fun z => ?_) (fun i v y q e => (hi i v y q e).keep (x.kp L hw)) hk hg
    · rcases hf b hb with rfl | z
      · exact y.keepObj x e
      · exact x.keep b o e z.2.2.2.1 z.2.1 z.2.2.1
    · obtain ⟨⟨o, ho⟩, z2, z3, z4, z5⟩ := z
      exact ⟨⟨o, x.keep b o ho z4 z2 z3⟩, z2, z3, x.offM ho z4, z5⟩
  | lref h0 e =>
    refine .lref (h0.at fun o e => y.keepObj x e) ?_
    obtain ⟨l, rfl⟩ := x.pre
    rw [List.getElem?_append_left (List.getElem?_eq_some_iff.mp e).1]; exact e
theorem Aside.kp {h h' : Heap} (y : Aside C env h M I) (q : ∀ b o, b ≠ I → h.get? b = some o → h'.get? b = some o) : Kp (C.wd h M) (C.wd h' M) := ⟨fun b o e n hd => ⟨q b o (fun z => by
    subst z
    refine x1_2 (y.obj) fun o' h1 h2 => ?_
    have e : h.get? b = some o := e
    rw [e] at h1; cases h1
    exact h2.elim (fun z => n (.inr z)) fun z => z hd) e, n⟩, ⟨[], by simp [wdOf]⟩, rfl⟩
theorem itr_next {P : Option Value → Shared → Prop} {E : Value → Shared → Prop} (st : St C env ns ρ s M H) (hh : C.A.handled = none) (y : Aside C env s.heap M I) (i : Itr C env s.heap M I src k) {r : Option AV} (hr : itemAt H src k = some r)
    (hitem : ∀ v a h' tk, r = some a → (∀ b o, b ≠ I → s.heap.get? b = some o → h'.get? b = some o) → VRel (C.wd h' M) v a → Itr C env h' M I src (k + 1) → P (some v) { s with heap := h', toks := tk })
    (hend : ∀ h' tk, r = none → (∀ b o, b ≠ I → s.heap.get? b = some o → h'.get? b = some o) → P none { s with heap := h', toks := tk }) : wpAny C.S.M C.A (pyNext (.ref I)) P E s := by
  have kp : ∀ {h' : Heap}, (∀ b o, b ≠ I → s.heap.get? b = some o → h'.get? b = some o) → Kp (C.wd s.heap M) (C.wd h' M) := y.kp
  cases i with
  | seq W h0 hf hi hk hg =>
    rename_i fp P' W' xs
    have hr : xs[k]? = r := Option.some.inj hr
    have st' : ∀ {h' : Heap}, (∀ b o, b ∉ [I] → s.heap.get? b = some o → h'.get? b = some o) → ∀ b ∈ fp, b = I ∨ Steady C env h' M b := fun q b hb => (hf b hb).elim .inl fun z => by
      by_cases e : b = I
      · exact .inl e
      · obtain ⟨⟨o, ho⟩, z⟩ := z
        exact .inr ⟨⟨o, q b o (by simp [e]) ho⟩, z⟩
    have wr : ∀ {h' : Heap}, (∀ b o, b ∉ [I] → s.heap.get? b = some o → h'.get? b = some o) → ∀ b o, b ≠ I → s.heap.get? b = some o → h'.get? b = some o := fun q b o n e => q b o (by simp [n]) e
    by_cases hlt : k < xs.length
    · refine W.item k s P E hlt h0 fun v h' tk q hw hk' => ?_
      have e : xs[k]? = some xs[k] := List.getElem?_eq_getElem hlt
      exact hitem v xs[k] h' tk (hr.symm.trans e) (wr hk') ((hi k v _ q e).keep (kp (wr hk'))) (.seq W hw (st' hk') (fun i v x q e => (hi i v x q e).keep (kp (wr hk'))) hlt hg)
    · have : k = xs.length := by lia
      subst this
      refine W.done s P E h0 fun h' tk hk' => ?_
      exact hend h' tk (hr.symm.trans (List.getElem?_eq_none (Nat.le_refl _))) (wr hk')
  | lref h0 e =>
    rename_i n p
    simp only [itemAt] at hr
    split at hr
    · rename_i xs q
      have hr : xs[k]? = r := Option.some.inj hr
      obtain ⟨_, vs, m, hl, rl⟩ := st.rep.obj _ _ _ e q
      cases e2 : xs[k]? with
      | none =>
        refine wpAny_pyNext_list_end hh h0 hl.isList ?_ fun h' q => hend h' s.toks (hr.symm.trans e2) fun b o n e => q b o n e
        rw [← Array.getElem?_toList]
        exact List.getElem?_eq_none (by rw [rl.1]; exact List.getElem?_eq_none_iff.mp e2)
      | some a =>
        refine x1_2 (rl.get k e2) fun v hv r' => ?_
        refine wpAny_pyNext_list_item h0 hl.isList (by rw [← Array.getElem?_toList]; exact hv) fun h' q1 q2 => ?_
        have kk : ∀ b o, b ≠ I → s.heap.get? b = some o → h'.get? b = some o := fun b o n e => (q2.2 b n).trans e
        exact hitem v a h' s.toks (hr.symm.trans e2) kk (r'.keep (kp kk)) (.lref q1 e)
    · cases hr
theorem itr_self {P : Value → Shared → Prop} {E : Value → Shared → Prop} (i : Itr C env s.heap M I src k) (h : P (.ref I) s) : wpAny C.S.M C.A (pyIter (.ref I)) P E s := by
  cases i with
  | seq W h0 hf hi hk hg => exact W.self _ s P E h0 h
  | lref h0 e => exact wpAny_pyIter_listiter h0 h
theorem span_at {a b : Int} {k : Nat} {v : AV} (h : (span a b)[k]? = some v) : v = .int (a + k) := by
  unfold span at h
  rw [List.getElem?_map] at h
  refine x1_2 (Option.map_eq_some_iff.mp h) fun m h1 h2 => ?_
  obtain ⟨_, h3⟩ := List.getElem?_eq_some_iff.mp h1
  rw [List.getElem_range] at h3
  rw [h3]; exact h2.symm
theorem span_len (a b : Int) : (span a b).length = (b - a).toNat := by unfold span; simp
theorem sign_at {x : Str} {k : Nat} {a : AV} (h : (signs x)[k]? = some a) : ∃ c, x.cps[k]? = some c ∧ a = .str ⟨#[c]⟩ := by
  unfold signs at h
  rw [List.getElem?_map] at h
  refine x1_2 (Option.map_eq_some_iff.mp h) fun c h1 h2 => ?_
  exact ⟨c, by rw [← Array.getElem?_toList]; exact h1, h2.symm⟩
theorem rng_size {a b : Int} : Builtin.Range.rangeSize a b 1 = ((b - a).toNat : Int) := by
  unfold Builtin.Range.rangeSize
  rw [if_pos (by decide)]
  split
  · rename_i h
    rw [Int.ediv_one, Int.sub_add_cancel, Int.toNat_of_nonneg (Int.sub_nonneg_of_le (Int.le_of_lt h))]
  · rename_i h
    rw [Int.toNat_of_nonpos (Int.sub_nonpos_of_le (Int.not_lt.mp h))]; rfl
theorem rng_small {a b : Int} (h : (small a && small b) = true) : Builtin.Range.small a b 1 = true := by
  rw [Bool.and_eq_true] at h
  have h1 := small_lt h.1
  have h2 := small_lt h.2
  have f : ∀ {x : Int}, -(2 ^ 62 : Int) < x ∧ x < 2 ^ 62 → -9223372036854775808 ≤ x ∧ x < 9223372036854775808 := fun q => ⟨Int.le_trans (by decide) (Int.le_of_lt q.1), Int.lt_trans q.2 (by decide)⟩
  unfold Builtin.Range.small
  rw [rng_size]
  simp [Builtin.Range.rangeFitsLong]
  exact ⟨⟨⟨f h1, f h2⟩, Int.le_trans (by decide) (Int.le_max_right _ _), Int.max_lt.mpr ⟨Int.lt_of_lt_of_le (Int.sub_lt_sub h2.2 h1.1) (by decide), by decide⟩⟩, .inr (f h2)⟩
noncomputable def lockOf (M : Mp) : Option Nat → List Addr
  | none => []
  | some n => match M[n]? with
    | some p => [p.1]
    | none => []
noncomputable abbrev Cx.held (C : Cx) (M : Mp) (l : Option Nat) : Cx := C.withPv (C.pv.1, lockOf M l ++ C.pv.2)
theorem itr_start {n : Nat} {l : Option Nat} {P : Value → Shared → Prop} {E : Value → Shared → Prop} (st : St C env ns ρ s M H) (hh : C.A.handled = none) (hs : srcOf H a = some (src, n, l)) (rv : VRel (C.wd s.heap M) v a)
    (h : ∀ h', (∀ b o, s.heap.get? b = some o → h'.get? b = some o) → St (C.held M l) env ns ρ { s with heap := h' } M (lockH l H) → Aside (C.held M l) env h' M s.heap.objs.size → Itr (C.held M l) env h' M s.heap.objs.size src 0 → P (.ref s.heap.objs.size) { s with heap := h' }) : wpAny C.S.M C.A (pyIter v) P E s := by
  refine x1_2 (show ∃ K : Src → Option Nat → Prop, K src l ∧ ∀ src l, K src l → ∀ h', (∀ b o, s.heap.get? b = some o → h'.get? b = some o) → St (C.held M l) env ns ρ { s with heap := h' } M (lockH l H) → Aside (C.held M l) env h' M s.heap.objs.size → Itr (C.held M l) env h' M s.heap.objs.size src 0 → P (.ref s.heap.objs.size) { s with heap := h' } from ⟨_, h, fun _ _ h => h⟩) fun K h₁ hK => ?_
  clear h
  have kx : ∀ (o : Obj) b o', s.heap.get? b = some o' → (s.heap.push o).get? b = some o' := fun o b o' e => Heap.get?_push_of_some _ e
  have h0 := size_none s.heap
  -- no dict is held
  have go : ∀ {o : Obj} {T : String}, l = none → o.cls = .type T → itOK T = true → o.isFreed = false → (St C env ns ρ { s with heap := s.heap.push o } M H → Itr C env (s.heap.push o) M s.heap.objs.size src 0) → P (.ref s.heap.objs.size) { s with heap := s.heap.push o } := fun {o T} el hc hT hf hi => by
    subst el
    have st' : St C env ns ρ { s with heap := s.heap.push o } M H := st.step (Step.ext (t := s.toks) (kx o)) (st.rep.ext (kx o))
    refine x1_2 (IsIt.not (h := s.heap.push o) (I := s.heap.objs.size) ⟨o, T, Heap.get?_push_size _ hf, hc, hT⟩) fun o' e' nh => ?_
    exact hK _ _ h₁ _ (kx o) st' (Aside.new st h0 e' nh) (hi st')
  have steady : ∀ {b : Addr} {ob : Obj} {h' : Heap}, s.heap.get? b = some ob → Held ob → ¬ (C.wd s.heap M).F b → (∀ b o, s.heap.get? b = some o → h'.get? b = some o) → Steady C env h' M b := fun {b ob h'} e hd nf k => by
    refine x2_1 (st.env) fun m cm En => ?_
    exact ⟨⟨ob, k b ob e⟩, fun q => En.vars b ob q e hd, st.live.offFs e hd.nd, fun q => absurd (.inl q) nf, fun q => nf (.inr q)⟩
  cases a with
  | lst xs =>
    cases hs
    refine x3_4 (rv.inv) fun x vs m e3' ho nf rs => ?_; subst e3'
    have hd : Held { cls := .type "list", dict := none, data := .seq vs m, slots := #[] } := ⟨.inl ⟨_, _, rfl⟩, fun _ q => by injection q with q; exact .inr (.inl q.symm)⟩
    have hne : x ≠ s.heap.objs.size := ne_of ho h0
    refine wpAny_pyIter_list ho.isList (go (T := "list_iterator") rfl rfl (by decide) rfl fun st' => ?_)
    have W := Walks.list (prog := C.S.prog) (w := C.S.w) hh s.heap.objs.size x hne vs
    rw [rs.size] at W
    exact .seq W ⟨⟨_, Heap.get?_push_size _ rfl, rfl, rfl⟩, (show IsL _ x vs m from kx _ _ _ ho).isList⟩ (fun b hb => by
      rcases List.mem_cons.mp hb with e | hb
      · exact .inl e
      · cases List.mem_singleton.mp hb; exact .inr (steady ho hd nf (kx _))) (fun i v y q e => (rs.2 i v y (by rw [Array.getElem?_toList]; exact q) e).keep (kp_ext (kx _))) (Nat.zero_le _) fun i h w => by
      obtain ⟨⟨o, ho, hc, _⟩, _⟩ := w; exact ⟨o, _, ho, hc, by decide⟩
  | str x =>
    cases hs
    refine x1_2 (rv.inv) fun t e1' ok => ?_; subst e1'
    have items : ∀ {h' : Heap} (i : Nat) v y, SignAt x i v → (signs x)[i]? = some y → VRel (C.wd h' M) v y := fun {h'} i v y ⟨c, u, hc, hv⟩ e => by
      refine x1_2 (sign_at e) fun c' hc' e2' => ?_; subst e2'
      rw [hc] at hc'
      cases hc'
      subst hv
      exact .str _ _ (strOk_sub ok fun d hd => by
        simp only [List.mem_singleton] at hd
        subst hd
        exact List.mem_of_getElem? (i := i) (by rw [Array.getElem?_toList]; exact hc))
    have hlen : (signs x).length = x.cps.size := by unfold signs; simp
    cases ha : x.cps.all (· < 128)
    · refine wpAny_pyIter_wide ha (go (T := "str_iterator") rfl rfl (by decide) rfl fun st' => ?_)
      have W := Walks.strWide (prog := C.S.prog) (w := C.S.w) hh s.heap.objs.size x t
      rw [← hlen] at W
      exact .seq W ⟨_, Heap.get?_push_size _ rfl, rfl, rfl⟩ (fun b hb => .inl (List.mem_singleton.mp hb)) items (Nat.zero_le _) fun i h w => by
        obtain ⟨o, ho, hc, _⟩ := w; exact ⟨o, _, ho, hc, by decide⟩
    · refine wpAny_pyIter_ascii ha (go (T := "str_ascii_iterator") rfl rfl (by decide) rfl fun st' => ?_)
      have W := Walks.strAscii (prog := C.S.prog) (w := C.S.w) hh s.heap.objs.size x t
      rw [← hlen] at W
      exact .seq W ⟨_, Heap.get?_push_size _ rfl, rfl, rfl⟩ (fun b hb => .inl (List.mem_singleton.mp hb)) items (Nat.zero_le _) fun i h w => by
        obtain ⟨o, ho, hc, _⟩ := w; exact ⟨o, _, ho, hc, by decide⟩
  | rng x y =>
    replace hs : (if (small x && small y) = true then some (Src.seq (span x y), (y - x).toNat, (none : Option Nat)) else none) = some (src, n, l) := hs
    split at hs <;> cases hs
    rename_i hsm
    refine x4_3 (rv.inv) fun r t u t' e4' ho nf => ?_; subst e4'
    refine wpAny_pyIter_range ho (rng_small hsm) (go (T := "range_iterator") rfl rfl (by decide) rfl fun st' => ?_)
    have W := Walks.range (prog := C.S.prog) (w := C.S.w) hh s.heap.objs.size x 1 (y - x).toNat
    rw [← span_len] at W
    refine .seq W ?_ (fun b hb => .inl (List.mem_singleton.mp hb)) (fun i v z ⟨t, hv⟩ e => ?_) (Nat.zero_le _) fun i h w => ⟨_, _, w, rfl, by decide⟩
    · rw [rng_size]
      have e1 : x + ((0 : Nat) : Int) * 1 = x := Int.add_zero x
      have e2 : (((span x y).length : Nat) : Int) - ((0 : Nat) : Int) = ((y - x).toNat : Int) := by rw [span_len]; exact Int.sub_zero _
      rw [e1, e2]
      exact Heap.get?_push_size _ rfl
    · rw [span_at e, hv, Int.mul_one]
      exact .int _ _
  | ref k =>
    refine x1_2 (rv.inv) fun p e1' z => ?_; subst e1'
    cases q : H[k]? with
    | none => rw [srcOf_at q] at hs; cases hs
    | some ao =>
      rw [srcOf_at q] at hs
      cases ao with
      | inst c fs => cases hs
      | lst xs =>
        cases hs
        obtain ⟨_, vs, m, ho, rs⟩ := st.rep.obj _ _ _ z q
        exact wpAny_pyIter_list ho.isList (go (T := "list_iterator") rfl rfl (by decide) rfl fun st' => .lref ⟨_, Heap.get?_push_size _ rfl, rfl, rfl⟩ z)
      | dict es =>
        cases hs
        obtain ⟨_, hD⟩ := st.rep.obj _ _ _ z q
        have hl : lockOf M (some k) = [p.1] := by simp only [lockOf, show M[k]? = some p from z]
        have hmem : p.1 ∈ (C.held M (some k)).pv.2 := by show p.1 ∈ lockOf M (some k) ++ C.pv.2; rw [hl]; exact .head _
        have stL : St (C.held M (some k)) env ns ρ s M (lockH (some k) H) := by
          have R := st.rep.lock z q
          have e : lockH (some k) H = H.set k (.ldict es) := by simp only [lockH, q]
          rw [e]
          refine St.pv st (by rw [hl]; exact R) (kp_same fun _ _ _ z => z) (fun a ha => ?_) st.live.poff
          rcases ha with ha | ha
          · exact st.live.priv a (.inl ha)
          · rw [hl] at ha
            rcases List.mem_cons.mp ha with rfl | ha
            · exact st.rep.there (foot_at z).1
            · exact st.live.priv a (.inr ha)
        refine x1_4 (hD) fun kvs hm e1 e2 ok => ?_; try clear hD
        obtain ⟨ep, hd⟩ := hm.dictAt
        have hlen : (es.map (·.1.av)).length = kvs.length := by simpa using (congrArg List.length e1).symm
        obtain ⟨ob, hob⟩ := st.rep.there (foot_at z).1
        have hne : p.1 ≠ s.heap.objs.size := ne_of hob h0
        refine wpAny_pyIter_dict (knd := kk C.S.prog C.S.w) (st.live.notSys (foot_at z).1) hd ?_
        have st' : St (C.held M (some k)) env ns ρ { s with heap := s.heap.push { cls := .type "dict_keyiterator", data := .fields #[.ref p.1, .int 0 0, .int kvs.length 0, .int ep 0] } } M (lockH (some k) H) := stL.step (Step.ext (t := s.toks) (kx _)) (stL.rep.ext (kx _))
        have isit : IsIt (s.heap.push { cls := .type "dict_keyiterator", data := .fields #[.ref p.1, .int 0 0, .int kvs.length 0, .int ep 0] }) s.heap.objs.size := ⟨_, _, Heap.get?_push_size _ rfl, rfl, by decide⟩
        refine x1_2 (isit.not) fun o' e' nh => ?_
        refine hK _ _ h₁ _ (kx _) st' (Aside.new stL h0 e' nh) ?_
        have W := Walks.dictKeys (knd := kk C.S.prog C.S.w) (A := C.A) hh s.heap.objs.size p.1 hne kvs ep
        rw [← hlen] at W
        refine .seq W ⟨by rw [hlen]; exact ⟨_, Heap.get?_push_size _ rfl, rfl, rfl⟩, hd.at' fun o e => kx _ _ _ e⟩ (fun b hb => ?_) (fun i v x ⟨kx', x', h1, h2⟩ e => ?_) (Nat.zero_le _) fun i h w => by
          obtain ⟨⟨o, ho, hc, _⟩, _⟩ := w; exact ⟨o, _, ho, hc, by decide⟩
        · rcases List.mem_cons.mp hb with e | hb
          · exact .inl e
          · cases List.mem_singleton.mp hb
            refine x2_1 (st.env) fun m cm En => ?_
            exact .inr ⟨⟨ob, kx _ _ _ hob⟩, fun q => (En.off _ q).1 (foot_at z).1, fun q => st.live.off _ q (foot_at z).1, fun _ => hmem, fun q => st.live.poff _ q (foot_at z).1⟩
        · rw [List.getElem?_map] at e
          refine x1_2 (Option.map_eq_some_iff.mp e) fun en h6 e2' => ?_; subst e2'
          have h5 : (es.map (·.1))[i]? = some kx' := by rw [← e1, List.getElem?_map, h1]; rfl
          rw [List.getElem?_map, h6] at h5
          cases h5
          have hk := ok en (List.mem_of_getElem? h6)
          have h2 : en.1.is v = true := h2
          generalize en.1 = ky at h2 hk
          rcases Key.is_shape h2 with ⟨x, t, rfl, rfl⟩ | ⟨i, t, rfl, rfl⟩
          · exact .str x t hk
          · exact .int i t
      | _ => exact no_some hs
  | _ => exact no_some hs
end
noncomputable def relN (sc names : List (Str × NameKind)) : List (Str × NameKind) := names.map fun (n, k) => if (k == .free && sc.lookup n == some .cell) then (n, .cell) else (n, k)
noncomputable def nsC (ns : List (Option Str)) (names : List (Str × NameKind)) (x : Str) : List (Option Str) := (ns.map fun o => o.bind fun y => if names.lookup y == some .free then some y else none) ++ [some x]
theorem forIn_pure {α β : Type} (f : α → β → Sem (ForInStep β)) (g : β → α → β) : ∀ (l : List α) (b : β), (∀ x ∈ l, ∀ r, f x r = pure (.yield (g r x))) → forIn l b f = (pure (l.foldl g b) : Sem β)
  | [], b, h => rfl
  | x :: l, b, h => by
    rw [List.forIn_cons, h x List.mem_cons_self, pure_bind]
    exact forIn_pure f g l _ fun y hy => h y (List.mem_cons_of_mem _ hy)
noncomputable def closAdd (env : Env) (cs : List (Str × Addr)) (y : Str × NameKind) : List (Str × Addr) := if y.2 == .free then (match env.cells.lookup y.1 with | some c => (y.1, c) :: cs | none => cs) else cs
noncomputable def closOf (env : Env) (names : List (Str × NameKind)) : List (Str × Addr) := names.foldl (closAdd env) []
theorem clos_eq {scope : Scope} {env : Env} (h : ∀ y ∈ scope.names, y.2 = .free → ∃ c, env.cells.lookup y.1 = some c) : closureFor scope env = pure (closOf env scope.names) := by
  simp only [closureFor]
  rw [forIn_pure _ (closAdd env) scope.names [] (fun x hx c => by
    obtain ⟨n, kind⟩ := x
    by_cases q : kind = .free
    · subst q
      obtain ⟨a, ha⟩ := h _ hx rfl
      simp [closAdd, cellOf, ha]
    · have : (kind == NameKind.free) = false := by simpa using q
      simp [closAdd, this])]
  rfl
theorem clos_sub {env : Env} : ∀ (names : List (Str × NameKind)) (cs : List (Str × Addr)), (∀ n c, cs.lookup n = some c → env.cells.lookup n = some c) → ∀ n c, (names.foldl (closAdd env) cs).lookup n = some c → env.cells.lookup n = some c
  | [], cs, h, n, c, e => h n c e
  | y :: r, cs, h, n, c, e => by
    refine clos_sub r (closAdd env cs y) (fun n c e => ?_) n c e
    unfold closAdd at e
    split at e
    · split at e
      · rename_i a ha
        rw [List.lookup_cons] at e
        split at e
        · rename_i q
          rw [beq_iff_eq] at q; subst q; cases e; exact ha
        · exact h n c e
      · exact h n c e
    · exact h n c e
theorem clos_keeps {env : Env} : ∀ (names : List (Str × NameKind)) (cs : List (Str × Addr)) (n : Str), (∃ c, cs.lookup n = some c) → ∃ c, (names.foldl (closAdd env) cs).lookup n = some c
  | [], cs, n, h => h
  | y :: r, cs, n, h => by
    refine clos_keeps r (closAdd env cs y) n ?_
    unfold closAdd
    split
    · split
      · rw [List.lookup_cons]
        split
        · exact ⟨_, rfl⟩
        · exact h
      · exact h
    · exact h
theorem clos_has {env : Env} {n : Str} {c : Addr} (hc : env.cells.lookup n = some c) : ∀ (names : List (Str × NameKind)) (cs : List (Str × Addr)), (n, NameKind.free) ∈ names → ∃ c, (names.foldl (closAdd env) cs).lookup n = some c
  | [], cs, h => nomatch h
  | y :: r, cs, h => by
    rcases List.mem_cons.mp h with rfl | h
    · refine clos_keeps r _ n ?_
      refine ⟨c, ?_⟩
      unfold closAdd
      rw [if_pos (by rfl)]
      simp only [hc, List.lookup_cons, beq_self_eq_true]
    · exact clos_has hc r _ h
theorem relN_lookup {sc : List (Str × NameKind)} {y : Str} : ∀ (names : List (Str × NameKind)), (relN sc names).lookup y = (names.lookup y).map fun k => if (k == .free && sc.lookup y == some .cell) then .cell else k
  | [] => rfl
  | (n, k) :: r => by
    have ih := relN_lookup (sc := sc) (y := y) r
    show List.lookup y ((if (k == .free && sc.lookup n == some .cell) = true then (n, NameKind.cell) else (n, k)) :: relN sc r) = _
    by_cases q : y = n
    · subst q
      split <;> rename_i z <;> simp only [List.lookup_cons, beq_self_eq_true, Option.map_some]
      · rw [if_pos z]
      · rw [if_neg z]
    · have q' : (y == n) = false := by simpa using q
      split <;> simp [List.lookup_cons, q', ih]
theorem nsC_at {ns : List (Option Str)} {names : List (Str × NameKind)} {i : Nat} {x y : Str} (h : (nsC ns names x)[i]? = some (some y)) : (i = ns.length ∧ y = x) ∨ (i < ns.length ∧ ns[i]? = some (some y) ∧ names.lookup y = some .free) := by
  unfold nsC at h
  rw [List.getElem?_append, List.length_map] at h
  split at h
  · rename_i q
    refine .inr ⟨q, ?_⟩
    rw [List.getElem?_map] at h
    cases e : ns[i]? with
    | none => rw [e] at h; cases h
    | some o =>
      rw [e] at h
      cases o with
      | none => cases h
      | some w =>
        have h : (if (names.lookup w == some .free) = true then some w else none) = some y := Option.some.inj h
        split at h
        · rename_i z; cases h; exact ⟨rfl, by simpa using z⟩
        · cases h
  · rename_i q
    have : i = ns.length := by
      have := (List.getElem?_eq_some_iff.mp h).1
      simp at this; lia
    subst this
    rw [Nat.sub_self] at h
    cases h
    exact .inl ⟨rfl, rfl⟩
theorem nsC_j {ns : List (Option Str)} {names : List (Str × NameKind)} {x : Str} : (nsC ns names x)[ns.length]? = some (some x) := by
  unfold nsC
  rw [List.getElem?_append, List.length_map, if_neg (Nat.lt_irrefl _), Nat.sub_self]
  rfl
structure CompAt (env : Env) (x : Str) (sc : Scope) : Prop where
  kind : sc.kind = .function
  loc : sc.names.lookup x = some .local
  nocell : ∀ y ∈ sc.names, y.2 ≠ .cell
  locs : ∀ y ∈ sc.names, y.2 = .local → sc.names.lookup y.1 = some .local
  free : ∀ y ∈ sc.names, y.2 = .free → env.kindOf y.1 = some .cell ∨ env.kindOf y.1 = some .free
theorem relabel_names {sc : Scope} {env : Env} (h : env.scope.kind = .function) : (relabel sc env).names = relN env.scope.names sc.names := by
  unfold relabel relN Env.kindOf
  rw [h]
  simp
theorem EnvAt.inner {C : Cx} {pv : List Addr × List Addr} {env : Env} {ns : List (Option Str)} {ρ : RE} {h : Heap} {M : Mp} {m cm : Str → Option Value} (E : EnvAt C env ns ρ h (C.wd h M) m cm) {x : Str} {sc : Scope} (Y : CompAt env x sc) {c : Addr} (hn : h.Ns c (fun _ => none)) (hf : ¬ foot M c) (hb : C.S.base.get? c = none) (hne : ∀ n a, env.cells.lookup n = some a → a ≠ c) (k : Kp (C.wd h M) (wdOf C.S pv h M)) :
    EnvAt (C.withPv pv) (compEnvC sc (closOf env sc.names) c env) (nsC ns sc.names x) (ρ ++ [none]) h (wdOf C.S pv h M) (fun _ => none) cm := by
  have hsub : ∀ n a, (closOf env sc.names).lookup n = some a → env.cells.lookup n = some a := clos_sub sc.names [] (fun _ _ q => nomatch q)
  have hkind : ∀ y, (compEnvC sc (closOf env sc.names) c env).kindOf y = (relN env.scope.names sc.names).lookup y := fun y => by
    show (relabel sc env).names.lookup y = _
    rw [relabel_names E.fn]
  have hfree : ∀ y, sc.names.lookup y = some .free → ∃ a, env.cells.lookup y = some a := fun y hy => E.has y (Y.free _ (mem_of_lookup hy) rfl)
  have hcl : ∀ y, sc.names.lookup y = some .free → ∃ a, (closOf env sc.names).lookup y = some a := fun y hy => by
    obtain ⟨a, ha⟩ := hfree y hy
    exact clos_has ha sc.names [] (mem_of_lookup hy)
  refine ⟨Y.kind, E.glob, E.bns, hn, ?_, fun i k y h1 h2 => ?_, by unfold nsC; simp [E.len], fun y hy => ?_, fun n a ha => ?_, fun n n' a h1 h2 => E.apart n n' a (hsub _ _ h1) (hsub _ _ h2), fun i y a h1 h2 => ?_⟩
  · rintro a (q | ⟨n, q⟩)
    · have q : a = c := q
      subst q; exact ⟨hf, hb⟩
    · exact E.off a (.inr ⟨n, hsub n a q⟩)
  · rcases nsC_at h1 with ⟨rfl, rfl⟩ | ⟨_, q1, q2⟩ <;> rcases nsC_at h2 with ⟨rfl, e⟩ | ⟨_, p1, p2⟩
    · rfl
    · rw [Y.loc] at p2; cases p2
    · rw [e, Y.loc] at q2; cases q2
    · exact E.inj i k y q1 p1
  · refine hcl y ?_
    rw [hkind, relN_lookup] at hy
    cases q : sc.names.lookup y with
    | none => rw [q] at hy; rcases hy with hy | hy <;> cases hy
    | some k =>
      rw [q] at hy
      simp only [Option.map_some, Option.some.injEq] at hy
      have hk : k ≠ .cell := Y.nocell _ (mem_of_lookup q)
      by_cases z : k = .free
      · rw [z]
      · have z' : (k == NameKind.free) = false := by simpa using z
        simp only [z', Bool.false_and, Bool.false_eq_true, if_false] at hy
        rcases hy with hy | hy
        · exact absurd hy hk
        · exact absurd hy z
  · refine x0_3 (E.cell n a (hsub _ _ ha)) fun c1 c3 c4 => ?_
    exact ⟨c1, c3, hne n a (hsub _ _ ha)⟩
  · rcases nsC_at h1 with ⟨rfl, rfl⟩ | ⟨hij, q1, q2⟩
    · rw [← E.len, List.getElem?_append_right (Nat.le_refl _), Nat.sub_self] at h2
      cases h2
    · rw [List.getElem?_append_left (by rw [E.len]; exact hij)] at h2
      refine x1_2 (E.var i y a q1 h2) fun v rv hv => ?_
      refine ⟨v, rv.keep k, .inr ?_⟩
      have hk := Y.free _ (mem_of_lookup q2) rfl
      rcases hv with ⟨z, _⟩ | ⟨_, _, z⟩
      · rcases hk with hk | hk <;> rw [z] at hk <;> cases hk
      · refine ⟨?_, hcl y q2, z⟩
        rw [hkind, relN_lookup, q2]
        simp only [Option.map_some, Option.some.injEq]
        split
        · exact .inl rfl
        · exact .inr rfl
noncomputable def TestsOK (C : Cx) (env : Env) (ns : List (Option Str)) (cond : DE) (ifs : List Expr) : Prop :=
  ∀ {ρ : RE} {s : Shared} {M : Mp} {H : AH}, St C env ns ρ s M H →
    Ev EqR C (forIn ifs true fun c r => if r = true then do let ok ← isTrue c env (eval c env); pure (ForInStep.yield ok) else pure (ForInStep.yield r)) s M (tst cond ρ H)
theorem tests_nil {C : Cx} {env : Env} {ns : List (Option Str)} : TestsOK C env ns (cstE (.bool true)) [] := fun st => Ev.pure st.rep rfl
theorem tests_one {C : Cx} {env : Env} {ns : List (Option Str)} {cond : DE} {c : Expr} (h : SndT C env ns cond c) : TestsOK C env ns cond [c] := fun st => (h st).map fun z => wpAny_tests_one z
theorem no_ok {α : Type} {y : α} {H : AH} {P : Prop} (h : (Out.bad : Out α) = .ok y H) : P := nomatch h
theorem bind_ok {α β : Type} {o : Out α} {f : α → AH → Out β} {y : β} {Hf : AH} (h : o.bind f = .ok y Hf) : ∃ a H₁, o = .ok a H₁ ∧ f a H₁ = .ok y Hf := by
  cases o with
  | ok a H₁ => exact ⟨a, H₁, rfl, h⟩
  | _ => cases h
theorem asBool_ok {α : Type} {a : AV} {f : Bool → Out α} {y : α} {Hf : AH} (h : asBool a f = .ok y Hf) : ∃ c, a = .bool c ∧ f c = .ok y Hf := by
  cases a <;> first | exact no_ok h | exact ⟨_, rfl, h⟩
set_option smartUnfolding false in
theorem compL_inv {P : Prop} {T E : AV → AH → Out AV} {src : Src} {n k : Nat} {acc ys : List AV} {H Hf : AH} (h : compL T E src n k acc H = .ok ys Hf) (g0 : itemAt H src k = some none → ys = acc → Hf = H → P)
    (g1 : ∀ v m c H₁, itemAt H src k = some (some v) → n = m + 1 → T v H = .ok (.bool c) H₁ → ((c = false ∧ compL T E src m (k + 1) acc H₁ = .ok ys Hf) ∨ (c = true ∧ ∃ a H₂, E v H₁ = .ok a H₂ ∧ compL T E src m (k + 1) (acc ++ [a]) H₂ = .ok ys Hf)) → P) : P := by
  cases n with
  | zero =>
    have h : (match itemAt H src k with | none => Out.bad | some none => .ok acc H | some (some v) => .bad) = .ok ys Hf := h
    cases q : itemAt H src k with
    | none => rw [q] at h; exact no_ok h
    | some x =>
      rw [q] at h
      cases x with
      | none => cases h; exact g0 q rfl rfl
      | some v => exact no_ok h
  | succ m =>
    have h : (match itemAt H src k with | none => Out.bad | some none => .ok acc H | some (some v) => (T v H).bind fun c H₁ => asBool c fun c => if c then (E v H₁).bind fun a H₂ => compL T E src m (k + 1) (acc ++ [a]) H₂ else compL T E src m (k + 1) acc H₁) = .ok ys Hf := h
    cases q : itemAt H src k with
    | none => rw [q] at h; exact no_ok h
    | some x =>
      rw [q] at h
      cases x with
      | none => cases h; exact g0 q rfl rfl
      | some v =>
        refine x2_2 (bind_ok h) fun a H₁ hT h => ?_
        refine x1_2 (asBool_ok h) fun c ec h => ?_
        subst ec
        refine g1 v m c H₁ q rfl hT ?_
        cases c with
        | false => exact .inl ⟨rfl, h⟩
        | true => exact x2_2 (bind_ok h) fun a H₂ hE h => .inr ⟨rfl, a, H₂, hE, h⟩
theorem fold_no {e : Expr} {env : Env} (h : notSet e = true) : ∀ x, foldedSetIterable e env x = pure x := by
  intro x
  cases e <;> first | rfl | exact no_tf h
section
variable {C : Cx} {env : Env} {ns : List (Option Str)}
structure CG (C : Cx) (cenv : Env) (s₀ : Shared) (I D : Addr) : Prop where
  i0 : s₀.heap.get? I = none
  c0 : s₀.heap.get? cenv.locals = none
  d0 : s₀.heap.get? D = none
  dp : D ∈ C.pv.1
  ip : I ∉ C.pv.1 ∧ I ∉ C.pv.2
  ne : I ≠ D
structure CS (C : Cx) (cenv : Env) (ns' : List (Option Str)) (s₀ : Shared) (M₀ : Mp) (I D : Addr) (src : Src) (ρ : RE) (k : Nat) (acc : List AV) (vs : Array Value) (j : Nat) (s : Shared) (M : Mp) (H : AH) : Prop where
  y : Step C noW s₀ M₀ s M
  st : St C cenv ns' ρ s M H
  aI : Aside C cenv s.heap M I
  aD : Aside C cenv s.heap M D
  it : Itr C cenv s.heap M I src k
  hl : IsL s.heap D vs j
  rl : VRels (C.wd s.heap M) vs.toList acc
inductive CompInv (C : Cx) (cenv : Env) (ns' : List (Option Str)) (elt cond : DE) (ρ : RE) (s₀ : Shared) (M₀ : Mp) (I D : Addr) (src : Src) (ys : List AV) (Hf : AH) (m : Nat) (s' : Shared) : Prop
  | mk (ov : Option AV) (M' : Mp) (H' : AH) (k : Nat) (acc : List AV) (vs : Array Value) (j : Nat) (h1 : m + k ≤ 1000000) (h2 : acc.length ≤ k) (h3 : CS C cenv ns' s₀ M₀ I D src (ρ ++ [ov]) k acc vs j s' M' H')
    (h10 : compL (fun v => cond (ρ ++ [some v])) (fun v => elt (ρ ++ [some v])) src m k acc H' = .ok ys Hf) : CompInv C cenv ns' elt cond ρ s₀ M₀ I D src ys Hf m s'
section
variable {cenv : Env} {ns' : List (Option Str)} {s₀ s s' : Shared} {M₀ M M' : Mp} {I D : Addr} {src : Src} {ρ : RE} {k j tk : Nat} {acc : List AV} {vs : Array Value} {H H' : AH} {h' : Heap}
theorem CS.off (Z : CS C cenv ns' s₀ M₀ I D src ρ k acc vs j s M H) (G : CG C cenv s₀ I D) (kp : ∀ b o, b ≠ I → s.heap.get? b = some o → h'.get? b = some o) : Step C noW s₀ M₀ { s with heap := h', toks := tk } M ∧ St C cenv ns' ρ { s with heap := h', toks := tk } M H :=
  ⟨Z.y.but (tk := tk) G.i0 kp, Z.st.but (tk := tk) Z.aI kp fun q => q.elim (fun q => absurd q G.ip.1) fun q => absurd q G.ip.2⟩
theorem CS.next (Z : CS C cenv ns' s₀ M₀ I D src ρ k acc vs j s M H) (G : CG C cenv s₀ I D) (kp : ∀ b o, b ≠ I → s.heap.get? b = some o → h'.get? b = some o) (i2 : Itr C cenv h' M I src (k + 1)) : CS C cenv ns' s₀ M₀ I D src ρ (k + 1) acc vs j { s with heap := h', toks := tk } M H := by
  obtain ⟨y, st⟩ := Z.off (tk := tk) G kp
  refine x1_2 (i2.is.not) fun oI eI nI => ?_
  exact ⟨y, st, ⟨⟨oI, eI, .inr nI⟩, Z.aI.foot, Z.aI.fs, Z.aI.own, Z.aI.base⟩, ⟨⟨_, kp _ _ G.ne.symm Z.hl, .inl G.dp⟩, Z.aD.foot, Z.aD.fs, Z.aD.own, Z.aD.base⟩, i2, kp _ _ G.ne.symm Z.hl, Z.rl.keep (Z.aI.kp kp)⟩
theorem CS.own {ρ' : RE} {W : Addr → Prop} (Z : CS C cenv ns' s₀ M₀ I D src ρ k acc vs j s M H) (x : Step C (OwnW cenv) s M s' M') (st : St C cenv ns' ρ' s' M' H') (y : Step C noW s₀ M₀ s' M') : CS C cenv ns' s₀ M₀ I D src ρ' k acc vs j s' M' H' := by
  have E2 : VarsOnly s.heap (OwnW cenv) := by obtain ⟨_, _, E⟩ := Z.st.env; exact E.vars
  exact ⟨y, st, Z.aI.step x, Z.aD.step x, Z.it.after x Z.aI Z.st.live E2, Z.aD.keepObj x Z.hl, Z.rl.keep (x.kp Z.st.live E2)⟩
theorem CS.step (Z : CS C cenv ns' s₀ M₀ I D src ρ k acc vs j s M H) (x : Step C noW s M s' M') (rp : Rep C.S C.pv s'.heap M' H') : CS C cenv ns' s₀ M₀ I D src ρ k acc vs j s' M' H' :=
  Z.own (W := noW) x.ofNo (Z.st.step x rp) (Z.y.trans x)
theorem CS.push {xv : Value} {yv : AV} (Z : CS C cenv ns' s₀ M₀ I D src ρ k acc vs j s M H) (G : CG C cenv s₀ I D) (rx : VRel (C.wd s.heap M) xv yv) : ∃ j', CS C cenv ns' s₀ M₀ I D src ρ k (acc ++ [yv]) (vs.push xv) j' { s with heap := s.heap.update D (Obj.mapSeq (·.push xv)) } M H := by
  have k6 : ∀ b o, b ≠ D → s.heap.get? b = some o → (s.heap.update D (Obj.mapSeq (·.push xv))).get? b = some o := fun b o n e => (Heap.get?_update_other _ _ (Ne.symm n)).trans e
  have hl6 := IsL.update Z.hl (·.push xv)
  have kp6 : Kp (C.wd s.heap M) (C.wd (s.heap.update D (Obj.mapSeq (·.push xv))) M) := ⟨fun b o e n hd => ⟨k6 b o (fun z => n (.inr (z ▸ G.dp))) e, n⟩, ⟨[], by simp [wdOf]⟩, rfl⟩
  generalize s.heap.update D (Obj.mapSeq (·.push xv)) = h6 at *
  refine ⟨_, Z.y.but (tk := s.toks) G.d0 k6, Z.st.but (tk := s.toks) Z.aD k6 (fun _ => ⟨_, hl6⟩), ⟨⟨_, k6 _ _ G.ne Z.aI.obj.choose_spec.1, Z.aI.obj.choose_spec.2⟩, Z.aI.foot, Z.aI.fs, Z.aI.own, Z.aI.base⟩, ⟨⟨_, hl6, .inl G.dp⟩, Z.aD.foot, Z.aD.fs, Z.aD.own, Z.aD.base⟩, ?_, hl6, by simpa using (Z.rl.keep kp6).snoc (rx.keep kp6)⟩
  have i5 := Z.it
  cases i5 with
  | seq W hw hf hi hk hg =>
    refine .seq W (W.frame _ _ _ hw fun b hb o e => ?_) (fun b hb => (hf b hb).imp id fun z => ?_) (fun i v x q e => (hi i v x q e).keep kp6) hk hg
    · rcases hf b hb with rfl | z
      · exact k6 _ _ G.ne e
      · exact k6 _ _ (fun q => z.2.2.2.2 (q ▸ G.dp)) e
    · obtain ⟨⟨o, ho⟩, z2, z3, z4, z5⟩ := z
      exact ⟨⟨o, k6 _ _ (fun q => z5 (q ▸ G.dp)) ho⟩, z2, z3, z4, z5⟩
  | lref hw e => exact .lref (hw.at fun o e => k6 _ _ G.ne e) e
end
theorem comp_loop (hh : C.A.handled = none) {cenv : Env} {ns' : List (Option Str)} {elt cond : DE} {elt' it' : Expr} {ifs : List Expr} {x : Str} {px pos : Pos} {sc : Scope} {ρ : RE} {s₀ s4 : Shared} {M₀ M4 : Mp} {H4 Hf : AH} {src : Src} {n : Nat} {ys : List AV} {I D : Addr} {R : Result → Shared → Prop}
    (hj : ns'[ρ.length]? = some (some x)) (hxk : cenv.kindOf x = some .local) (helt : Snd C cenv ns' elt elt') (hcond : TestsOK C cenv ns' cond ifs) (h0 : s₀.heap.get? I = none) (hc0 : s₀.heap.get? cenv.locals = none) (hD0 : s₀.heap.get? D = none) (hDp : D ∈ C.pv.1) (hIp : I ∉ C.pv.1 ∧ I ∉ C.pv.2) (hn : n ≤ 1000000)
    (y4 : Step C noW s₀ M₀ s4 M4) (st4 : St C cenv ns' (ρ ++ [none]) s4 M4 H4) (haI : Aside C cenv s4.heap M4 I) (haD : Aside C cenv s4.heap M4 D) (hID : I ≠ D) (it4 : Itr C cenv s4.heap M4 I src 0) (hl4 : IsL s4.heap D #[] 0)
    (w : compL (fun v => cond (ρ ++ [some v])) (fun v => elt (ρ ++ [some v])) src n 0 [] H4 = .ok ys Hf)
    (hR : ∀ s' M' vs j m, Step C noW s₀ M₀ s' M' → Rep C.S C.pv s'.heap M' Hf → Live C s'.heap M' → IsL s'.heap D vs j → VRels (C.wd s'.heap M') vs.toList ys → ¬ foot M' D → s'.heap.Ns cenv.locals m → ¬ foot M' cenv.locals → R (.ok .next) s') :
    codeAny C.S.M C.A (.compLoop (.ListComp elt' [⟨.Name x px, it', ifs, 0⟩] sc pos) 0 (.ref I) (.ref D) cenv) R s4 := by
  have G : CG C cenv s₀ I D := ⟨h0, hc0, hD0, hDp, hIp, hID⟩
  refine codeAny_compLoop_tests (CompInv C cenv ns' elt cond ρ s₀ M₀ I D src ys Hf)
    (fun m s' I' => ?_) n ⟨none, M4, H4, 0, [], #[], 0, hn, Nat.le_refl _, ⟨y4, st4, haI, haD, it4, hl4, .nil⟩, w⟩
  clear y4 st4 haI haD hID it4 hl4 w h0 hc0 hD0 hDp hIp
  obtain ⟨ov, M', H', k, acc, vs, j, hmk, hak, Z, w'⟩ := I'
  refine compL_inv w' (fun hr e1 e2 => ?_) fun bv m c H₁ hr ez hT w1 => ?_
  · subst e1; subst e2
    refine itr_next Z.st hh Z.aI Z.it hr (fun u a h' tk e => nomatch e) fun h' tk _ kp => ?_
    obtain ⟨y2, s2⟩ := Z.off (tk := tk) G kp
    refine x2_1 (s2.env) fun m2 cm2 E2 => ?_
    exact hR _ M' vs j m2 y2 s2.rep s2.live (kp _ _ G.ne.symm Z.hl) (Z.rl.keep (Z.aI.kp kp)) Z.aD.foot E2.loc (E2.off _ (.inl rfl)).1
  clear w' hR
  subst ez
  refine itr_next Z.st hh Z.aI Z.it hr (fun u a h' tk e kp rv i2 => ?_) fun h' tk e => nomatch e
  cases e
  have Z2 := Z.next (tk := tk) G kp i2
  clear Z hr kp i2
  generalize hs2 : ({ s' with heap := h', toks := tk } : Shared) = t2 at Z2
  have e2 : t2.heap = h' := by rw [← hs2]
  rw [← e2] at rv
  clear e2 hs2
  refine wpAny_assign_Name ?_
  refine x2_1 (Z2.st.env) fun m3 cm3 En3 => ?_
  refine wpAny_storeName_local hxk En3.loc (fun h3 hn3 hs3 => ?_) (by rw [En3.fn]; rfl)
  obtain ⟨x3, st3⟩ := local_turned (o := some bv) (tk := t2.toks + 1) Z2.st En3 hj hxk hn3 hs3 (fun b e => ⟨u, Option.some.inj e ▸ rv, by simp⟩) fun y hy => by simp [hy]
  have es : (ρ ++ [ov]).set ρ.length (some bv) = ρ ++ [some bv] := by simp
  rw [es] at st3
  have Z3 := Z2.own (W := noW) (x3.wider fun _ q => .inl q) st3 (Z2.y.thenNew x3 (fun b q => .inr (by rw [q]; exact G.c0)))
  clear Z2 x3 st3 es En3 rv hn3 hs3
  generalize ({ t2 with heap := h3, toks := t2.toks + 1 } : Shared) = t3 at Z3
  have A := hcond Z3.st
  have hT' : tst cond (ρ ++ [some bv]) H' = .ok c H₁ := by unfold tst; rw [show cond (ρ ++ [some bv]) H' = .ok (.bool c) H₁ from hT]; rfl
  rw [hT'] at A
  clear hT hT'
  refine wpAny_mono A (fun ok s4 z_9 => x1_3 z_9 fun M₄ z4 rp4 eb => ?_) fun _ _ q => q.elim
  obtain rfl : ok = c := eb
  have Z4 := Z3.step z4 rp4
  clear Z3 A z4 rp4
  refine w1.elim (fun z => ?_) fun z => ?_
  · obtain ⟨ez, w2⟩ := z
    subst ez
    exact ⟨m, Nat.lt_succ_self m, some bv, M₄, H₁, k + 1, acc, vs, j, by lia, by exact Nat.le_trans ‹_› (Nat.le_add_right _ _), Z4, w2⟩
  · refine y2_2 z fun ez yv H₂ hE w2 => ?_
    clear z; subst ez
    have B := helt Z4.st
    rw [show elt (ρ ++ [some bv]) H₁ = .ok yv H₂ from hE] at B
    refine wpAny_mono B (fun xv s5 z_10 => x1_3 z_10 fun M₅ z5 rp5 rx => ?_) fun _ _ q => q.elim
    have Z5 := Z4.step z5 rp5
    refine call_meets F.slot_list_append ⟨_, Z5.hl, rfl⟩ F.entry_list_append (F.args_list_append_2 _ _) (list_append D vs j xv (by rw [Z5.rl.size, sizeLine_eq]; lia)) ⟨Z5.hl, ?_⟩
    obtain ⟨j', Z6⟩ := Z5.push G rx
    exact ⟨m, Nat.lt_succ_self m, some bv, M₅, H₂, k + 1, acc ++ [yv], _, j', by lia, by rw [List.length_append]; simp; lia, Z6, w2⟩
end
theorem Itr.to {C : Cx} {env env' : Env} {h h' : Heap} {M : Mp} {I : Addr} {src : Src} {k : Nat} {l1 : List Addr} (i : Itr C env h M I src k) (kx : ∀ b o, h.get? b = some o → h'.get? b = some o) (ho : ∀ b o, h.get? b = some o → ¬ OwnW env b → ¬ OwnW env' b) (hl : ∀ b o, h.get? b = some o → b ∉ C.pv.1 → b ∉ l1) (kp : Kp (C.wd h M) (wdOf C.S (l1, C.pv.2) h' M)) : Itr (C.withPv (l1, C.pv.2)) env' h' M I src k := by
  cases i with
  | seq W hw hf hi hk hg =>
    refine .seq W (W.frame _ _ _ hw fun b _ o e => kx b o e) (fun b hb => (hf b hb).imp id fun z => ?_) (fun i v x q e => (hi i v x q e).keep kp) hk hg
    obtain ⟨⟨o, e⟩, z2, z3, z4, z5⟩ := z
    exact ⟨⟨o, kx b o e⟩, ho b o e z2, z3, z4, hl b o e z5⟩
  | lref hw e => exact .lref (hw.at fun o e => kx _ o e) e
theorem Rep.adopt {S : Stat} {l1 l2 : List Addr} {h : Heap} {M : Mp} {H : AH} {D : Addr} {vs : Array Value} {j : Nat} {ys : List AV} (R : Rep S (D :: l1, l2) h M H) (hl : IsL h D vs j) (rl : VRels (wdOf S (D :: l1, l2) h M) vs.toList ys) (nf : ¬ foot M D) (hn : D ∉ l2) :
    Kp (wdOf S (D :: l1, l2) h M) (wdOf S (l1, l2) h (M ++ [(D, D)])) ∧ Rep S (l1, l2) h (M ++ [(D, D)]) (H ++ [.lst ys]) := by
  have fa : ∀ a, foot (M ++ [(D, D)]) a ↔ foot M a ∨ a = D := fun a => by
    rw [foot_append]
    refine or_congr Iff.rfl ⟨fun z_11 => x1_2 z_11 fun p hp z => ?_, fun z => ⟨(D, D), .head _, .inl z⟩⟩
    cases List.mem_singleton.mp hp
    exact z.elim id id
  have K : Kp (wdOf S (D :: l1, l2) h M) (wdOf S (l1, l2) h (M ++ [(D, D)])) := ⟨fun b o e n _ => ⟨e, fun q => n (by
    rcases q with q | q
    · rcases (fa b).mp q with q | q
      · exact .inl q
      · exact .inr (q ▸ .head _)
    · exact .inr (.tail _ q))⟩, ⟨[(D, D)], rfl⟩, rfl⟩
  refine ⟨K, ?_⟩
  have cs : ∀ {α : Type} (L : List α) (x y : α) (n : Nat), (L ++ [x])[n]? = some y → L[n]? = some y ∨ (n = L.length ∧ y = x) := fun L x y n e => by
    rw [List.getElem?_append] at e
    split at e
    · exact .inl e
    · rename_i q
      have h1 := (List.getElem?_eq_some_iff.mp e).1
      simp only [List.length_singleton] at h1
      exact .inr ⟨by lia -abstractProof, List.mem_singleton.mp (List.mem_of_getElem? e)⟩
  have old : ∀ {n : Nat} {q : Addr × Addr}, M[n]? = some q → Apart q (D, D) := fun {n q} e => by
    have h1 : q.1 ≠ D := fun z => nf (z ▸ (foot_at e).1)
    have h2 : q.2 ≠ D := fun z => nf (z ▸ (foot_at e).2)
    exact ⟨h1, h1, h2, h2⟩
  have len := R.len
  refine ⟨by rw [List.length_append, List.length_append, len]; rfl, fun n q ao e e' => ?_, fun i k q q' e e' ne => ?_, fun n q e z => ?_, fun n q es e e' => ?_⟩
  · rcases cs M _ _ n e with e | ⟨rfl, rfl⟩ <;> rcases cs H _ _ _ e' with e' | ⟨h1, rfl⟩
    · exact (R.obj n q ao e e').keep K rfl rfl
    · have := (List.getElem?_eq_some_iff.mp e).1; lia -abstractProof
    · have := (List.getElem?_eq_some_iff.mp e').1; lia -abstractProof
    · exact ⟨rfl, vs, j, hl, rl.keep K⟩
  · rcases cs M _ _ i e with e | ⟨rfl, rfl⟩ <;> rcases cs M _ _ k e' with e' | ⟨rfl, rfl⟩
    · exact R.apart i k q q' e e' ne
    · exact old e
    · obtain ⟨a, b, c, d⟩ := old e'; exact ⟨a.symm, c.symm, b.symm, d.symm⟩
    · exact absurd rfl ne
  · rcases cs M _ _ n e with e | ⟨rfl, rfl⟩
    · obtain ⟨es, q'⟩ := R.held n q e z
      exact ⟨es, by rw [List.getElem?_append_left (List.getElem?_eq_some_iff.mp q').1]; exact q'⟩
    · exact absurd z fun z => z.elim hn hn
  · rcases cs M _ _ n e with e | ⟨rfl, rfl⟩ <;> rcases cs H _ _ _ e' with e' | ⟨h1, h2⟩
    · exact R.lkd n q es e e'
    · cases h2
    · have := (List.getElem?_eq_some_iff.mp e').1; lia -abstractProof
    · cases h2
theorem Rep.letGo {C : Cx} {h h₀ : Heap} {M M' : Mp} {H H₀ : AH} {l : Option Nat} {l1 : List Addr} (R : Rep C.S (l1, lockOf M l ++ C.pv.2) h M' H) (pre : ∃ e, M' = M ++ e) (R₀ : Rep C.S C.pv h₀ M H₀) (hl : ∀ n, l = some n → ∃ es, H₀[n]? = some (.dict es)) : Rep C.S (l1, C.pv.2) h M' (freeH l H) := by
  cases l with
  | none => exact R
  | some n =>
    obtain ⟨es, q⟩ := hl n rfl
    have hp : ∃ p, M[n]? = some p := ⟨_, List.getElem?_eq_getElem (by rw [R₀.len]; exact (List.getElem?_eq_some_iff.mp q).1)⟩
    obtain ⟨p, hp⟩ := hp
    have e : lockOf M (some n) = [p.1] := by simp only [lockOf, hp]
    rw [e] at R
    obtain ⟨e', rfl⟩ := pre
    refine Rep.free R (by rw [List.getElem?_append_left (List.getElem?_eq_some_iff.mp hp).1]; exact hp) (R₀.off2 hp fun es' h => ?_)
    rw [q] at h; cases h
theorem src_lock {H : AH} {a : AV} {src : Src} {n : Nat} {l : Option Nat} (h : srcOf H a = some (src, n, l)) : ∀ k, l = some k → ∃ es, H[k]? = some (.dict es) := by
  intro k e
  subst e
  cases a <;> first | exact no_some h | skip
  · cases h
  · cases h
  · rename_i m
    cases q : H[m]? with
    | none => rw [srcOf_at q] at h; cases h
    | some ao =>
      rw [srcOf_at q] at h
      cases ao <;> cases h
      exact ⟨_, q⟩
  · rename_i x y
    replace h : (if (small x && small y) = true then some (Src.seq (span x y), (y - x).toNat, (none : Option Nat)) else none) = some (src, n, some k) := h
    split at h <;> cases h
section
variable {C : Cx} {env : Env} {ns : List (Option Str)}
theorem comp_end {pv : List Addr × List Addr} {M₀ M' : Mp} {s₀ s' : Shared} {H₀ H' Hf : AH} {l : Option Nat} {D : Addr} {vs : Array Value} {j : Nat} {ys : List AV} {y : AV} {mt : Bool} (hpv : pv = (D :: C.pv.1, lockOf M₀ l ++ C.pv.2)) (R₀ : Rep C.S C.pv s₀.heap M₀ H₀) (L₀ : Live C s₀.heap M₀) (hl : ∀ n, l = some n → ∃ es, H₀[n]? = some (.dict es)) (hD0 : s₀.heap.get? D = none)
    (x : Step (C.withPv pv) noW s₀ M₀ s' M') (R : Rep C.S pv s'.heap M' H') (hL : IsL s'.heap D vs j) (rl : VRels (wdOf C.S pv s'.heap M') vs.toList ys) (nf : ¬ foot M' D) (e : newL mt ys (freeH l H') = .ok y Hf) :
    ∃ M₂, Step C noW s₀ M₀ s' M₂ ∧ Rep C.S C.pv s'.heap M₂ Hf ∧ VRel (C.wd s'.heap M₂) (.ref D) y ∧ ∀ c, s₀.heap.get? c = none → c ≠ D → ¬ foot M' c → ¬ foot M₂ c := by
  subst hpv
  have x' : Step C noW s₀ M₀ s' M' := x.pv fun a q => List.mem_append.mpr (.inr q)
  have R1 : Rep C.S (D :: C.pv.1, C.pv.2) s'.heap M' (freeH l H') := R.letGo x.pre R₀ hl
  cases mt with
  | false =>
    cases e
    have K : Kp (wdOf C.S (D :: C.pv.1, lockOf M₀ l ++ C.pv.2) s'.heap M') (C.wd s'.heap M') := kp_same fun a o _ q => .tail _ q
    have q := rl.keep K
    exact ⟨M', x', R1.keep (l := C.pv.1) (kp_same fun a o _ q => .tail _ q) fun _ _ => rfl, .lst hL (fun q => q.elim nf (L₀.pv0 hD0)) q.1 q.2, fun c _ _ n => n⟩
  | true =>
    cases e
    have hn : D ∉ C.pv.2 := fun q => by obtain ⟨o, ho⟩ := L₀.priv D (.inr q); rw [hD0] at ho; cases ho
    have rl1 : VRels (wdOf C.S (D :: C.pv.1, C.pv.2) s'.heap M') vs.toList ys := rl.keep (kp_same fun a o _ q => q)
    obtain ⟨K, R2⟩ := R1.adopt hL rl1 nf hn
    refine ⟨M' ++ [(D, D)], ⟨x'.keep, x'.slots, x'.alive, ?_, fun a q => ?_, x'.gens, x'.os⟩, R2, ?_, fun c hc hne n q => ?_⟩
    · obtain ⟨e, rfl⟩ := x'.pre; exact ⟨e ++ [(D, D)], by rw [List.append_assoc]⟩
    · rcases foot_append.mp q with q | ⟨p, hp, z⟩
      · exact x'.grow a q
      · cases List.mem_singleton.mp hp
        rcases z with rfl | rfl <;> exact .inr hD0
    · refine .ref (p := (D, D)) ?_
      show (M' ++ [(D, D)])[(freeH l H').length]? = _
      rw [← R1.len]; simp
    · rcases foot_append.mp q with q | ⟨p, hp, z⟩
      · exact n q
      · cases List.mem_singleton.mp hp
        exact z.elim hne hne
theorem comp_body {mt : Bool} {elt cond : DE} {elt' it' : Expr} {ifs : List Expr} {x : Str} {px pos : Pos} {sc : Scope} {ρ : RE} {s₁ : Shared} {M₁ : Mp} {H₁ H₂ H' : AH} {src : Src} {n tk : Nat} {l : Option Nat} {ys : List AV} {y : AV} {h2 h3 h4 : Heap} {I D c : Addr} {R : Result → Shared → Prop}
    (st1 : St C env ns ρ s₁ M₁ H₁) (Y : CompAt env x sc) (helt : ∀ pv (env' : Env), env'.scope.names = relN env.scope.names sc.names → Snd (C.withPv pv) env' (nsC ns sc.names x) elt elt') (hcond : ∀ pv (env' : Env), env'.scope.names = relN env.scope.names sc.names → TestsOK (C.withPv pv) env' (nsC ns sc.names x) cond ifs)
    (hh : C.A.handled = none) (hz : n ≤ 1000000) (hl : ∀ n, l = some n → ∃ es, H₁[n]? = some (.dict es)) (hk2 : ∀ b o, s₁.heap.get? b = some o → h2.get? b = some o) (st2 : St (C.held M₁ l) env ns ρ { s₁ with heap := h2 } M₁ (lockH l H₁)) (ha2 : Aside (C.held M₁ l) env h2 M₁ I) (it2 : Itr (C.held M₁ l) env h2 M₁ I src 0) (hI0 : s₁.heap.get? I = none)
    (hD0 : h2.get? D = none) (hk3 : ∀ b o, h2.get? b = some o → h3.get? b = some o) (hD3 : IsL h3 D #[] 0) (hc3 : h3.get? c = none) (hk4 : ∀ b o, h3.get? b = some o → h4.get? b = some o) (hn4 : h4.Ns c (fun _ => none))
    (hc : compL (fun v => cond (ρ ++ [some v])) (fun v => elt (ρ ++ [some v])) src n 0 [] (lockH l H₁) = .ok ys H₂) (hnew : newL mt ys (freeH l H₂) = .ok y H')
    (hR : ∀ s' M' m, Step C noW s₁ M₁ s' M' → Rep C.S C.pv s'.heap M' H' → VRel (C.wd s'.heap M') (.ref D) y → s₁.heap.get? c = none → s'.heap.Ns c m → ¬ foot M' c → R (.ok .next) s') :
    (∀ {P : Value → Shared → Prop} {E : Value → Shared → Prop}, P (.ref I) { s₁ with heap := h4, toks := tk } → wpAny C.S.M C.A (pyIter (.ref I)) P E { s₁ with heap := h4, toks := tk }) ∧ codeAny C.S.M C.A (.compLoop (.ListComp elt' [⟨.Name x px, it', ifs, 0⟩] sc pos) 0 (.ref I) (.ref D) (compEnvC sc (closOf env sc.names) c env)) R { s₁ with heap := h4, toks := tk } := by
  have hk24 : ∀ b o, h2.get? b = some o → h4.get? b = some o := fun b o e => hk4 b o (hk3 b o e)
  have oldD : s₁.heap.get? D = none := gone (fun b o e => ⟨o, hk2 b o e⟩) hD0
  have oldc2 : h2.get? c = none := gone (fun b o e => ⟨o, hk3 b o e⟩) hc3
  have oldc : s₁.heap.get? c = none := gone (fun b o e => ⟨o, hk2 b o e⟩) oldc2
  have hcD : c ≠ D := (ne_of hD3 hc3).symm
  refine x1_2 (it2.is.not) fun oI eI nI => ?_
  have hID : I ≠ D := ne_of eI hD0
  have hIc : I ≠ c := ne_of (hk3 _ _ eI) hc3
  have st4 : St (C.held M₁ l) env ns ρ { s₁ with heap := h4, toks := tk } M₁ (lockH l H₁) := st2.step (Step.ext (t := tk) hk24) (st2.rep.ext hk24)
  have kD : Kp ((C.held M₁ l).wd h4 M₁) (wdOf C.S (D :: C.pv.1, lockOf M₁ l ++ C.pv.2) h4 M₁) → True := fun _ => trivial
  have nfD : ¬ foot M₁ D := st1.rep.off oldD
  -- no value stands for D: it stood not in h2
  have kD2 : Kp ((C.held M₁ l).wd h2 M₁) (wdOf C.S (D :: C.pv.1, lockOf M₁ l ++ C.pv.2) h4 M₁) := ⟨fun b o e nf _ => ⟨hk24 b o e, fun q => nf (q.imp id fun q => (List.mem_cons.mp q).resolve_left (ne_of e hD0))⟩, ⟨[], by simp [wdOf]⟩, rfl⟩
  have R4 : Rep C.S (D :: C.pv.1, lockOf M₁ l ++ C.pv.2) h4 M₁ (lockH l H₁) := st2.rep.keep (l := D :: C.pv.1) kD2 fun a f => by
    obtain ⟨o, ho⟩ := st2.rep.there f
    exact (hk24 a o ho).trans ho.symm
  refine x2_1 (st2.env) fun m2 cm2 E2 => ?_
  have E4 : EnvAt (C.held M₁ l) env ns ρ h4 (wdOf C.S (D :: C.pv.1, lockOf M₁ l ++ C.pv.2) h4 M₁) m2 cm2 := E2.keep rfl (fun _ q => q) (fun o ho => ⟨o.slots, hk24 _ o ho⟩) (fun n c o e ho => hk24 c o ho) kD2 fun a o _ _ n => n
  have E4' : EnvAt (C.withPv (D :: C.pv.1, lockOf M₁ l ++ C.pv.2)) env ns ρ h4 ((C.withPv (D :: C.pv.1, lockOf M₁ l ++ C.pv.2)).wd h4 M₁) m2 cm2 := ⟨E4.fn, E4.glob, E4.bns, E4.loc, E4.off, E4.inj, E4.len, E4.has, E4.cell, E4.apart, E4.var⟩
  have hne : ∀ n a, env.cells.lookup n = some a → a ≠ c := fun n a ha => by
    obtain ⟨⟨o, ho, _⟩, _⟩ := E2.cell n a ha
    exact ne_of ho oldc2
  have En := E4'.inner (pv := (D :: C.pv.1, lockOf M₁ l ++ C.pv.2)) Y hn4 (st1.rep.off oldc) (st1.live.base0 oldc) hne (Kp.refl _)
  have stI : St (C.withPv (D :: C.pv.1, lockOf M₁ l ++ C.pv.2)) (compEnvC sc (closOf env sc.names) c env) (nsC ns sc.names x) (ρ ++ [none]) { s₁ with heap := h4, toks := tk } M₁ (lockH l H₁) := by
    have L := st4.live
    refine ⟨⟨L.frames, L.funs, L.stays, L.off, L.new, L.handled, L.dicts, L.depth, L.units, fun a q => ?_, fun a q => ?_⟩, R4, _, _, En⟩
    · rcases q with q | q
      · rcases List.mem_cons.mp q with rfl | q
        · exact ⟨_, hk4 _ _ hD3⟩
        · exact L.priv a (.inl q)
      · exact L.priv a (.inr q)
    · rcases List.mem_cons.mp q with rfl | q
      · exact nfD
      · exact L.poff a q
  have own : ∀ b o, h2.get? b = some o → ¬ OwnW env b → ¬ OwnW (compEnvC sc (closOf env sc.names) c env) b := fun b o e n q => by
    rcases q with q | ⟨y, q⟩
    · exact ne_of e oldc2 q
    · exact n (.inr ⟨y, clos_sub sc.names [] (fun _ _ q => nomatch q) y b q⟩)
  have it4 : Itr (C.withPv (D :: C.pv.1, lockOf M₁ l ++ C.pv.2)) (compEnvC sc (closOf env sc.names) c env) h4 M₁ I src 0 := it2.to (l1 := D :: C.pv.1) hk24 own (fun b o e n q => n ((List.mem_cons.mp q).resolve_left (ne_of e hD0))) kD2
  have aI : Aside (C.withPv (D :: C.pv.1, lockOf M₁ l ++ C.pv.2)) (compEnvC sc (closOf env sc.names) c env) h4 M₁ I := ⟨⟨oI, hk24 _ _ eI, .inr nI⟩, ha2.foot, ha2.fs, own I oI eI ha2.own, ha2.base⟩
  have aD : Aside (C.withPv (D :: C.pv.1, lockOf M₁ l ++ C.pv.2)) (compEnvC sc (closOf env sc.names) c env) h4 M₁ D := ⟨⟨_, hk4 _ _ hD3, .inl (.head _)⟩, nfD, st1.live.fs0 oldD, fun q => by
    rcases q with q | ⟨y, q⟩
    · exact hcD q.symm
    · exact st2.own0 (s := { s₁ with heap := h2 }) hD0 (.inr ⟨y, clos_sub sc.names [] (fun _ _ q => nomatch q) y D q⟩), st1.live.base0 oldD⟩
  have hIp : I ∉ D :: C.pv.1 ∧ I ∉ lockOf M₁ l ++ C.pv.2 := by
    have n1 : ∀ {a : Addr}, (∃ o, s₁.heap.get? a = some o) → I ≠ a := fun ⟨o, ho⟩ q => by rw [← q, hI0] at ho; cases ho
    refine ⟨fun q => ?_, fun q => ?_⟩
    · rcases List.mem_cons.mp q with q | q
      · exact hID q
      · exact n1 (st1.live.priv I (.inl q)) rfl
    · rcases List.mem_append.mp q with q | q
      · cases l with
        | none => cases q
        | some k =>
          simp only [lockOf] at q
          split at q
          · rename_i p hp
            have q := List.mem_singleton.mp q
            exact n1 (st1.rep.there (foot_at hp).1) q
          · cases q
      · exact n1 (st1.live.priv I (.inr q)) rfl
  refine ⟨fun h => itr_self (C := C.withPv (D :: C.pv.1, lockOf M₁ l ++ C.pv.2)) (s := { s₁ with heap := h4, toks := tk }) it4 h, ?_⟩
  have hnm : (compEnvC sc (closOf env sc.names) c env).scope.names = relN env.scope.names sc.names := relabel_names E2.fn
  refine comp_loop (C := C.withPv (D :: C.pv.1, lockOf M₁ l ++ C.pv.2)) hh (by rw [E2.len]; exact nsC_j) (lookup_relabel_local Y.loc) (helt _ _ hnm) (hcond _ _ hnm) (s₀ := s₁) (M₀ := M₁) hI0 oldc oldD (.head _) hIp hz (Step.ext fun b o e => hk24 b o (hk2 b o e)) stI aI aD hID it4 (hk4 _ _ hD3) hc fun s' M' vs j m x' R' L' hL rl nf hns nfc => ?_
  refine x1_4 (comp_end (C := C) (mt := mt) rfl st1.rep st1.live hl oldD x' R' hL rl nf hnew) fun M₂ z1 z2 z3 z4 => ?_
  exact hR s' M₂ m z1 z2 z3 oldc hns (z4 c oldc hcD nfc)
theorem comp_core {mt : Bool} {elt it cond : DE} {elt' it' : Expr} {ifs : List Expr} {x : Str} {px pos p0 : Pos} {sc : Scope} {use : Option (Value → Sem Unit)} {ρ : RE} {s : Shared} {M : Mp} {H : AH} {QQ : Value → Shared → Prop} {E : Value → Shared → Prop}
    (st : St C env ns ρ s M H) (hit : Snd C env ns it it') (hf : notSet it' = true) (Y : CompAt env x sc) (helt : ∀ pv (env' : Env), env'.scope.names = relN env.scope.names sc.names → Snd (C.withPv pv) env' (nsC ns sc.names x) elt elt') (hcond : ∀ pv (env' : Env), env'.scope.names = relN env.scope.names sc.names → TestsOK (C.withPv pv) env' (nsC ns sc.names x) cond ifs)
    (hb : compE C.hot mt elt it cond ρ H ≠ .bad) (hE : ∀ c H', compE C.hot mt elt it cond ρ H = .exc c H' → ∀ ev s', PostX C s M c H' ev s' → E ev s')
    (hQ : ∀ r y H' c s' M' m, compE C.hot mt elt it cond ρ H = .ok y H' → Step C noW s M s' M' → Rep C.S C.pv s'.heap M' H' → VRel (C.wd s'.heap M') r y → s.heap.get? c = none → s'.heap.Ns c m → ¬ foot M' c → compPost C.S.M C.A E use QQ r c (.ok .next) s') :
    wpAny C.S.M C.A (comprehension (.ListComp elt' [⟨.Name x px, it', ifs, 0⟩] sc pos) sc env p0 (newList []) false (eval it' env) use) QQ E s := by
  refine x2_1 (st.env) fun m cm En0 => ?_
  refine wpAny_comprehension_free (use := use) rfl (fold_no hf) (clos_eq fun y hy q => En0.has y.1 (Y.free y hy q)) Y.kind Y.locs ?_
  have A := hit st
  unfold compE at hb hE hQ
  generalize it ρ H = o at A hb hE hQ
  cases o with
  | bad => exact absurd rfl hb
  | exc c H' => exact wpAny_mono A (fun _ _ q => q.elim) fun _ _ q => hE c H' rfl _ _ q
  | ok a H₁ =>
  simp only [Out.bind] at hb hE hQ
  cases hs : srcOf H₁ a with
  | none => rw [hs] at hb; exact absurd rfl hb
  | some sr =>
  obtain ⟨src, n, l⟩ := sr
  rw [hs] at hb hE hQ
  simp only [orBad] at hb hE hQ
  by_cases hz : C.hot = false ∧ n ≤ 1000000
  case neg => rw [if_neg hz] at hb; exact absurd rfl hb
  rw [if_pos hz] at hb hE hQ
  cases hc : compL (fun v => cond (ρ ++ [some v])) (fun v => elt (ρ ++ [some v])) src n 0 [] (lockH l H₁) with
  | bad => rw [hc] at hb; exact absurd rfl hb
  | exc c H' => rw [hc] at hb; exact absurd rfl hb
  | ok ys H₂ =>
  rw [hc] at hb hE hQ
  have hh := st.live.handled hz.1
  have hnew : ∃ y H', newL mt ys (freeH l H₂) = .ok y H' := by cases mt <;> exact ⟨_, _, rfl⟩
  refine x2_1 (hnew) fun y H' hnew => ?_
  refine wpAny_mono A (fun v s₁ z_12 => x1_3 z_12 fun M₁ x1 rp1 ra => ?_) fun _ _ q => q.elim
  have st1 := st.step x1 rp1
  refine itr_start st1 hh hs ra fun h2 hk2 st2 ha2 it2 => ?_
  refine wpAny_newList (items := []) ?_ (Nat.zero_le _)
  refine wpAny_newFunctionEnv Y.nocell (by intro y hy; cases hy) (fun h4 hn4 hsb4 => ?_) Y.kind
  have hD0' : h2.get? h2.objs.size = none := size_none _
  have hk3 : ∀ b o, h2.get? b = some o → (h2.push { cls := .type "list", dict := none, data := .seq ([] : List Value).toArray }).get? b = some o := fun b o e => Heap.get?_push_of_some _ e
  have hD3 : IsL (h2.push { cls := .type "list", dict := none, data := .seq ([] : List Value).toArray }) h2.objs.size #[] 0 := Heap.get?_push_size _ rfl
  have hk4 : ∀ b o, (h2.push { cls := .type "list", dict := none, data := .seq ([] : List Value).toArray }).get? b = some o → h4.get? b = some o := fun b o e => (hsb4.2 b (Nat.ne_of_lt (Heap.lt_size e))).trans (Heap.get?_push_of_some _ e)
  have hc3 := size_none (h2.push { cls := .type "list", dict := none, data := .seq ([] : List Value).toArray })
  obtain ⟨self, key⟩ := comp_body (mt := mt) (tk := s₁.toks + ([] : List (Str × Value)).length) (elt' := elt') (it' := it') (px := px) (pos := pos) (R := compPost C.S.M C.A E use QQ (.ref h2.objs.size) _) st1 Y helt hcond hh hz.2 (src_lock hs) hk2 st2 ha2 it2 (size_none _) hD0' hk3 hD3 hc3 hk4 hn4 hc hnew fun s' M' m z1 z2 z3 z4 z5 z6 =>
    hQ (.ref _) y H' _ s' M' m hnew (x1.trans z1) z2 z3 (gone x1.alive z4) z5 z6
  exact codeAny_compStart_list key (self key)
theorem dictOff {h : Heap} {c : Addr} {m : Str → Option Value} (hn : h.Ns c m) : ∀ o, h.get? c = some o → ¬ Held o := by
  intro o e hh
  refine x3_3 (hn) fun o' es ep ho hd _ => ?_; try clear hn
  rw [e] at ho; cases ho
  exact hh.nd es ep hd
theorem Ns.there {h : Heap} {c : Addr} {m : Str → Option Value} (hn : h.Ns c m) : ∃ o, h.get? c = some o := let ⟨o, _, _, ho, _⟩ := hn; ⟨o, ho⟩
theorem snd_comp {mt : Bool} {elt it cond : DE} {elt' it' : Expr} {ifs : List Expr} {x : Str} {px pos : Pos} {sc : Scope} (hit : Snd C env ns it it') (hf : notSet it' = true) (Y : CompAt env x sc)
    (helt : ∀ pv (env' : Env), env'.scope.names = relN env.scope.names sc.names → Snd (C.withPv pv) env' (nsC ns sc.names x) elt elt') (hcond : ∀ pv (env' : Env), env'.scope.names = relN env.scope.names sc.names → TestsOK (C.withPv pv) env' (nsC ns sc.names x) cond ifs) :
    Snd C env ns (compE C.hot mt elt it cond) (.ListComp elt' [⟨.Name x px, it', ifs, 0⟩] sc pos) := fun {ρ s M H} st => by
  cases ho : compE C.hot mt elt it cond ρ H with
  | bad => trivial
  | exc c H' =>
    exact comp_core (mt := mt) (use := none) (p0 := it'.pos) (QQ := no1) (E := PostX C s M c H') st hit hf Y helt hcond (by rw [ho]; exact fun q => nomatch q) (fun c' H'' e ev s' p => by rw [ho] at e; cases e; exact p) fun r y H' c s' M' m e => by rw [ho] at e; cases e
  | ok y H' =>
    refine comp_core (mt := mt) (use := none) (p0 := it'.pos) (QQ := Post VRel C s M y H') (E := no1) st hit hf Y helt hcond (by rw [ho]; exact fun q => nomatch q) (fun c' H'' e => by rw [ho] at e; cases e) fun r y' H'' c s' M' m e x rp rv hc hn nf => ⟨m, hn, fun h' sb => ?_⟩
    rw [ho] at e
    cases e
    have k : ∀ b o, b ≠ c → s'.heap.get? b = some o → h'.get? b = some o := fun b o ne e => (sb.2 b ne).trans e
    have K : Kp (C.wd s'.heap M') (C.wd h' M') := ⟨fun b o e n hd => ⟨k b o (fun z => dictOff hn o (z ▸ e) hd) e, n⟩, ⟨[], by simp [wdOf]⟩, rfl⟩
    exact ⟨M', x.but (tk := s'.toks) hc k, rp.keep (l := C.pv.1) K fun a f => sb.2 a fun q => nf (q ▸ f), rv.keep K⟩
end
structure Stn (B : Heap) (fe : List Env) (h h' : Heap) : Prop where
  stays : B.StaysIn h'
  funs : h'.FunFrames B fe
  up : h.UpToSlots h'
  alive : ∀ b o, h.get? b = some o → ∃ o', h'.get? b = some o'
theorem dict_mapFields (f : Array Value → Array Value) (o : Obj) : (o.mapFields f).dict = o.dict := by
  obtain ⟨_, _, d, _⟩ := o
  cases d <;> rfl
section
variable {M : Model} {A : Around} {E : Value → Shared → Prop} {s : Shared} {B : Heap} {env : Env} {outer : List Env} {L e D : Addr} {Q : Unit → Shared → Prop}
theorem entry_ok {o : Obj} {vs : Array Value} {head : Value} {hadNext : Bool} (hfr : A.frames = some (env :: outer)) (hl : s.heap.FunFrames B (env :: outer)) (hf : env.frame = some L)
    (he : s.heap.get? e = some o) (hkb : B.StaysIn s.heap) (hen : B.get? e = none) (hd : o.data = .fields vs) (hsz : 2 < vs.size) (hcd : o.cls = .ref D ∧ o.dict = none)
    (h : ∀ h', Stn B (env :: outer) s.heap h' → Fly B h' e D (rawInt L) → Q () { s with heap := h' }) :
    wpAny M A (do let a ← frameOf env; let pl ← entryPlaceOf L hadNext; let b ← EntryCells.newEntry head a .none (rawInt L) .none pl; setField (.ref e) 1 b) Q E s := by
  have hene : e ∉ (env :: outer).filterMap (·.frame) := fun hm => by
    obtain ⟨_, o', ho, hnf⟩ := hl.mem hm
    rw [he] at ho; cases ho; exact hnf vs hd
  refine wpAny_bind (wpAny_frameOf_fun hfr hl hf fun h₁ hs₁ => ?_)
  refine wpAny_bind (wpAny_entryPlaceOf fun pl hpl => ?_)
  unfold EntryCells.newEntry newFields
  refine wpAny_bind (wpAny_newObj_type ?_ (hpl.sizeOk5 _ _ _ _ _))
  have he₁ : h₁.get? e = some o := (hs₁.2.1 e hene).trans he
  have kb₁ : B.StaysIn h₁ := fun b o' hbo => (hs₁.2.1 b fun hm => by rw [(hl.mem hm).1] at hbo; cases hbo).trans (hkb b o' hbo)
  have h3 : ([head, Value.ref L, .none, rawInt L, .none] ++ (if pl.isEmpty then List.replicate 6 Value.none else pl)).toArray[3]? = some (rawInt L) := by simp
  generalize ([head, Value.ref L, .none, rawInt L, .none] ++ (if pl.isEmpty then List.replicate 6 Value.none else pl)).toArray = ts at h3
  have he₂ := Heap.get?_push_of_some (h := h₁) { cls := .type "traceback", dict := none, data := .fields ts } he₁
  refine wpAny_setField he₂ hd (Nat.lt_of_succ_lt hsz) ?_
  have hTe : h₁.objs.size ≠ e := Nat.ne_of_gt (Heap.lt_size he₁)
  have hd₃ := Obj.data_mapFields hd (·.setIfInBounds 1 (Value.ref h₁.objs.size))
  have he₃ := Heap.get?_update_self (Obj.mapFields (·.setIfInBounds 1 (Value.ref h₁.objs.size))) he₂ (Obj.isFreed_of_fields hd₃)
  have hT₃ := (Heap.get?_update_other (h₁.push { cls := .type "traceback", dict := none, data := .fields ts }) (Obj.mapFields (·.setIfInBounds 1 (Value.ref h₁.objs.size))) (Ne.symm hTe)).trans (Heap.get?_push_size h₁ rfl)
  have keep : ∀ b o', b ≠ e → h₁.get? b = some o' → ((h₁.push { cls := .type "traceback", dict := none, data := .fields ts }).update e (Obj.mapFields (·.setIfInBounds 1 (Value.ref h₁.objs.size)))).get? b = some o' := fun b o' hbe hb => by
    rw [Heap.get?_update_other _ _ (Ne.symm hbe)]
    exact Heap.get?_push_of_some _ hb
  have noRecord : ∀ b o', s.heap.get? b = some o' → (∀ vs, o'.data ≠ .fields vs) → b ≠ e := fun b o' hb hnf q => by
    rw [q, he] at hb; cases hb; exact hnf vs hd
  refine h _ ⟨fun b o' hbo => keep b o' (ne_of hbo hen) (kb₁ b o' hbo), hl.of_keeps fun b o' hb hnf => ?_, fun b o' hb hnf => ?_, fun b o' hb => ?_⟩ ⟨_, _, h₁.objs.size, _, ts, he₃, ⟨(Obj.cls_mapFields _ _).trans hcd.1, (dict_mapFields _ _).trans hcd.2⟩, hd₃, by simpa using hsz, by simp [Nat.lt_of_succ_lt hsz], kb₁.fresh, hTe, hT₃, rfl, h3⟩
  · obtain ⟨sl, hs⟩ := hs₁.2.2 b o' hb
    exact ⟨_, keep b _ (noRecord b o' hb hnf) hs, rfl⟩
  · obtain ⟨sl, hs⟩ := hs₁.2.2 b o' hb
    exact ⟨sl, keep b _ (noRecord b o' hb hnf) hs⟩
  · by_cases q : b = e
    · rw [q]; exact ⟨_, he₃⟩
    · obtain ⟨sl, hs⟩ := hs₁.2.2 b o' hb
      exact ⟨_, keep b _ q hs⟩
theorem note_ok (hfr : A.frames = some (env :: outer)) (hl : s.heap.FunFrames B (env :: outer)) (hf : env.frame = some L) (hkb : B.StaysIn s.heap) (hen : B.get? e = none) (hx : Raw s.heap e D ∨ ∃ fl, Fly B s.heap e D fl ∧ (fl = .none ∨ fl = rawInt L))
    (h : ∀ h', Stn B (env :: outer) s.heap h' → Fly B h' e D (rawInt L) → Q () { s with heap := h' }) : wpAny M A (noteFrame (.ref e) env) Q E s := by
  rcases hx with ⟨o, vs, he, hcd, hd, hsz, h1⟩ | ⟨fl, ⟨o, vs, T, oT, ts, he, hcd, hd, hsz, h1, hnT, hTe, hT, hdT, h3⟩, rfl | rfl⟩
  · unfold noteFrame
    simp only [hf]
    refine wpAny_bind (wpAny_field he hd h1 ?_)
    rw [if_neg (show ¬ ((Value.none != Value.none) = true) by simp)]
    exact entry_ok hfr hl hf he hkb hen hd hsz hcd h
  · unfold noteFrame
    simp only [hf]
    refine wpAny_bind (wpAny_field he hd h1 ?_)
    rw [if_pos (show (Value.ref T != Value.none) = true from by simp)]
    refine wpAny_bind (wpAny_field hT hdT h3 ?_)
    rw [if_neg (show ¬ ((Value.none == rawInt L) = true) from by simp [rawInt])]
    refine wpAny_bind (wpAny_setField hT hdT (Array.getElem?_eq_some_iff.mp h3).1 ?_)
    have other : ∀ b, b ≠ T → (s.heap.update T (Obj.mapFields (·.setIfInBounds 3 Value.none))).get? b = s.heap.get? b := fun b hb => Heap.get?_update_other _ _ (Ne.symm hb)
    have noRecord : ∀ b o, s.heap.get? b = some o → (∀ vs, o.data ≠ .fields vs) → b ≠ T := fun b o hb hnf q => by
      rw [q, hT] at hb; cases hb; exact hnf ts hdT
    refine entry_ok hfr (hl.of_keeps fun b o hb hnf => ⟨o, (other b (noRecord b o hb hnf)).trans hb, rfl⟩) hf ((other e (Ne.symm hTe)).trans he) (fun b o hbo => (other b (ne_of hbo hnT)).trans (hkb b o hbo)) hen hd hsz hcd fun h' z f => h h' ⟨z.stays, z.funs, fun b o hb hnf => z.up b o ((other b (noRecord b o hb hnf)).trans hb) hnf, fun b o hb => ?_⟩ f
    by_cases q : b = T
    · rw [q]; exact z.alive T _ (Heap.get?_update_self _ hT (Obj.isFreed_of_fields (Obj.data_mapFields hdT _)))
    · exact z.alive b o ((other b q).trans hb)
  · unfold noteFrame
    simp only [hf]
    refine wpAny_bind (wpAny_field he hd h1 ?_)
    rw [if_pos (show (Value.ref T != Value.none) = true from by simp)]
    refine wpAny_bind (wpAny_field hT hdT h3 ?_)
    rw [if_pos (show (rawInt L == rawInt L) = true from by simp)]
    exact wpAny_pure (h s.heap ⟨hkb, hl, Heap.UpToSlots.refl _, fun b o hb => ⟨o, hb⟩⟩ ⟨o, vs, T, oT, ts, he, hcd, hd, hsz, h1, hnT, hTe, hT, hdT, h3⟩)
theorem flight_ok {fe : List Env} {fr : Option Addr} {fl : Value} (hl : s.heap.FunFrames B fe) (hkb : B.StaysIn s.heap) (hx : Fly B s.heap e D fl)
    (h : ∀ h', Stn B fe s.heap h' → Fly B h' e D (fr.elim .none fun f => rawInt f) → Q () { s with heap := h' }) : wpAny M A (setFlight (.ref e) fr) Q E s := by
  obtain ⟨o, vs, T, oT, ts, he, hc, hd, hsz, h1, hnT, hTe, hT, hdT, h3⟩ := hx
  have hsz3 : 3 < ts.size := (Array.getElem?_eq_some_iff.mp h3).1
  have other : ∀ b, b ≠ T → (s.heap.update T (Obj.mapFields (·.setIfInBounds 3 (fr.elim Value.none fun f => rawInt f)))).get? b = s.heap.get? b := fun b hb => Heap.get?_update_other _ _ (Ne.symm hb)
  have noRecord : ∀ b o, s.heap.get? b = some o → (∀ vs, o.data ≠ .fields vs) → b ≠ T := fun b o hb hnf q => by
    rw [q, hT] at hb; cases hb; exact hnf ts hdT
  unfold setFlight
  refine wpAny_bind (wpAny_field he hd h1 ?_)
  rw [if_pos (show (Value.ref T != Value.none) = true from by simp)]
  refine wpAny_setField hT hdT hsz3 (h _ ⟨fun b o hbo => (other b (ne_of hbo hnT)).trans (hkb b o hbo), hl.of_keeps fun b o hb hnf => ⟨o, (other b (noRecord b o hb hnf)).trans hb, rfl⟩, fun b o hb hnf => ⟨o.slots, (other b (noRecord b o hb hnf)).trans hb⟩, fun b o hb => ?_⟩ ?_)
  · by_cases q : b = T
    · rw [q]; exact ⟨_, Heap.get?_update_self _ hT (Obj.isFreed_of_fields (Obj.data_mapFields hdT _))⟩
    · exact ⟨o, (other b q).trans hb⟩
  exact ⟨o, vs, T, _, _, (other e (Ne.symm hTe)).trans he, hc, hd, hsz, h1, hnT, hTe, Heap.get?_update_self _ hT (Obj.isFreed_of_fields (Obj.data_mapFields hdT _)), Obj.data_mapFields hdT _, by simp [hsz3]⟩
theorem cameBack_ok {fe : List Env} {fl : Value} {P : Value → Shared → Prop} (hl : s.heap.FunFrames B fe) (hkb : B.StaysIn s.heap) (hf : env.frame = some L) (hx : Fly B s.heap e D fl)
    (h : ∀ h', Stn B fe s.heap h' → Fly B h' e D (rawInt L) → P (.ref e) { s with heap := h' }) : cameBackBy M A env P (.ref e) s := by
  refine x5_6 (id hx) fun o vs T oT ts he hc hd hsz h1 r => ?_
  unfold cameBackBy
  refine wpAny_bind (wpAny_field he hd h1 ?_)
  rw [if_neg (show ¬ ((Value.ref T == Value.none) = true) from Bool.false_ne_true)]
  refine flight_ok (fr := env.frame) hl hkb hx fun h' z f => ?_
  rw [hf] at f
  exact h h' z f
end
section
variable {C : Cx} {env : Env} {ns : List (Option Str)} {ρ : RE} {W : Addr → Prop} {s s' : Shared} {M M' : Mp} {H H' : AH} {e : Addr} {c : Nat} {B h' : Heap}
theorem Exn.kp (x : Exn C W s M e c s' M' H' B) (L : Live C s.heap M) (hw : VarsOnly s.heap W) : Kp (C.wd s.heap M) (C.wd B M') :=
  ⟨fun b o e n hh => ⟨x.keepB b o e (fun q => absurd (.inl q) n) (fun q => hw b o q e hh) (L.offFs e hh.nd), fun q => q.elim (x.step.not e fun q => n (.inl q)) fun q => n (.inr q)⟩, x.pre, rfl⟩
theorem St.exn (st : St C env ns ρ s M H) (x : Exn C noW s M e c s' M' H' B) : EnvB C env ns ρ s'.heap B M' := by
  refine x2_1 (st.env) fun m cm E => ?_
  refine x1_2 (id x.flt) fun D _ fl => ?_
  refine ⟨m, cm, E.keep rfl (fun _ q => q) (fun o ho => ?_) (fun n c o e ho => fl.stays _ _ (x.keepB _ _ ho (fun q => absurd q (E.off c (.inr ⟨n, e⟩)).1) (fun q => q) (E.offFs e))) (x.kp st.live noW_seq) fun a o _ ho n => x.step.not ho n⟩
  by_cases f : env.locals ∈ C.fs
  · exact x.slots _ o ho f (fun q => q)
  · exact ⟨o.slots, fl.stays _ _ (x.keepB _ _ ho (fun q => absurd q (E.off _ (.inl rfl)).1) (fun q => q) f)⟩
theorem Exn.stn {D : Addr} {fl : Value} (x : Exn C W s M e c s' M' H' B) (hX : C.S.X c = some D) (hn : B.get? e = none) (hs : s'.heap.FunFrames B C.fe) (z : Stn B C.fe s'.heap h') (f : Fly B h' e D fl) (hfl : fl = .none ∨ ∃ L, C.fe.head?.bind (·.frame) = some L ∧ fl = rawInt L) : Exn C W s M e c { s' with heap := h' } M' H' B :=
  { x with
    flt := ⟨D, hX, z.stays, hn, z.funs, .inr ⟨fl, f, hfl⟩⟩
    slots := fun b o e fb m => by
      obtain ⟨sl, h1⟩ := x.slots b o e fb m
      obtain ⟨_, o', ho', nf⟩ := hs.mem fb
      rw [h1] at ho'; cases ho'
      obtain ⟨sl', h2⟩ := z.up b _ h1 nf
      exact ⟨sl', h2⟩
    alive := fun b o e => by
      obtain ⟨o', e'⟩ := x.alive b o e
      exact z.alive b o' e' }
theorem EnvB.stn {fe : List Env} {h : Heap} (E : EnvB C env ns ρ h B M) (z : Stn B fe h h') : EnvB C env ns ρ h' B M := by
  refine x2_1 (E) fun m cm E => ?_
  refine ⟨m, cm, E.fn, E.glob, E.bns, ?_, E.off, E.inj, E.len, E.has, fun n c hc => ?_, E.apart, E.var⟩
  · refine x3_3 (E.loc) fun o es ep ho hd r => ?_
    obtain ⟨sl, h1⟩ := z.up _ o ho (fun vs q => by rw [hd] at q; cases q)
    exact ⟨_, es, ep, h1, hd, r⟩
  · obtain ⟨⟨o, ho, hd⟩, r⟩ := E.cell n c hc
    obtain ⟨sl, h1⟩ := z.up _ o ho (fun vs q => by rw [hd] at q; cases q)
    exact ⟨⟨_, h1, hd⟩, r⟩
noncomputable def PostN (C : Cx) (env : Env) (ns : List (Option Str)) (s : Shared) (M : Mp) (ρ' : RE) (H' : AH) (s' : Shared) : Prop := ∃ M', Step C (OwnW env) s M s' M' ∧ St C env ns ρ' s' M' H'
noncomputable def PostR (C : Cx) (env : Env) (ns : List (Option Str)) (s : Shared) (M : Mp) (a : AV) (H' : AH) (fl : Flow) (s' : Shared) : Prop := ∃ v ρ' M', fl = .ret v ∧ Step C (OwnW env) s M s' M' ∧ St C env ns ρ' s' M' H' ∧ VRel (C.wd s'.heap M') v a
noncomputable def PostSX (C : Cx) (env : Env) (ns : List (Option Str)) (s : Shared) (M : Mp) (c : Nat) (ρ' : RE) (H' : AH) (ev : Value) (s' : Shared) : Prop :=
  ∃ e M' B, ev = .ref e ∧ Exn C (OwnW env) s M e c s' M' H' B ∧ EnvB C env ns ρ' s'.heap B M'
noncomputable def EvS (C : Cx) (env : Env) (ns : List (Option Str)) (t : Sem Flow) (s : Shared) (M : Mp) : OutS → Prop
  | .next ρ' H' => wpAny C.S.M C.A t (fun fl s' => fl = .next ∧ PostN C env ns s M ρ' H' s') no1 s
  | .ret a H' => wpAny C.S.M C.A t (PostR C env ns s M a H') no1 s
  | .exc c ρ' H' => wpAny C.S.M C.A t no1 (PostSX C env ns s M c ρ' H') s
  | .bad => True
theorem PostN.back {s₁ : Shared} {M₁ : Mp} {ρ' : RE} (x : Step C (OwnW env) s M s₁ M₁) (p : PostN C env ns s₁ M₁ ρ' H' s') : PostN C env ns s M ρ' H' s' := let ⟨M', a, b⟩ := p; ⟨M', x.trans a, b⟩
theorem PostR.back {s₁ : Shared} {M₁ : Mp} {a : AV} {fl : Flow} (x : Step C (OwnW env) s M s₁ M₁) (p : PostR C env ns s₁ M₁ a H' fl s') : PostR C env ns s M a H' fl s' := x3_3 p fun v ρ' M' e a b => ⟨v, ρ', M', e, x.trans a, b⟩
theorem PostSX.back {s₁ : Shared} {M₁ : Mp} {ρ' : RE} {ev : Value} (x : Step C (OwnW env) s M s₁ M₁) (p : PostSX C env ns s₁ M₁ c ρ' H' ev s') : PostSX C env ns s M c ρ' H' ev s' := x3_3 p fun e M' B a b d => ⟨e, M', B, a, b.after x fun _ q => q, d⟩
theorem EvS.at {t t' : Sem Flow} {s₁ : Shared} {M₁ : Mp} {o : OutS} (h : EvS C env ns t s₁ M₁ o) (x : Step C (OwnW env) s M s₁ M₁) (e : ∀ {P : Flow → Shared → Prop} {E : Value → Shared → Prop}, wpAny C.S.M C.A t P E s₁ → wpAny C.S.M C.A t' P E s) : EvS C env ns t' s M o := by
  cases o with
  | bad => trivial
  | next ρ' H' => exact e (wpAny_mono h (fun _ _ p => ⟨p.1, p.2.back x⟩) fun _ _ p => p)
  | ret a H' => exact e (wpAny_mono h (fun _ _ p => p.back x) fun _ _ p => p)
  | exc c ρ' H' => exact e (wpAny_mono h (fun _ _ p => p) fun _ _ p => p.back x)
theorem PostX.toS (st : St C env ns ρ s M H) {ev : Value} (p : PostX C s M c H' ev s') : PostSX C env ns s M c ρ H' ev s' := by
  refine x3_2 (p) fun e M' B a x => ?_; try clear p
  exact ⟨e, M', B, a, x.wider (fun _ z => z.elim), st.exn x⟩
noncomputable def EvP (C : Cx) (env : Env) (ns : List (Option Str)) (s : Shared) (M : Mp) (K : (Flow → Shared → Prop) → (Value → Shared → Prop) → Prop) : OutS → Prop
  | .next ρ' H' => K (fun fl s' => fl = .next ∧ PostN C env ns s M ρ' H' s') no1
  | .ret a H' => K (PostR C env ns s M a H') no1
  | .exc c ρ' H' => K no1 (PostSX C env ns s M c ρ' H')
  | .bad => True
theorem EvS.of {t : Sem Flow} {o : OutS} {K : (Flow → Shared → Prop) → (Value → Shared → Prop) → Prop} (h : EvP C env ns s M K o) (e : ∀ {P : Flow → Shared → Prop} {E : Value → Shared → Prop}, K P E → wpAny C.S.M C.A t P E s) : EvS C env ns t s M o := by
  cases o with
  | bad => trivial
  | next ρ' H' => exact e h
  | ret a H' => exact e h
  | exc c ρ' H' => exact e h
theorem EvP.ofS {t : Sem Flow} {o : OutS} {K : (Flow → Shared → Prop) → (Value → Shared → Prop) → Prop} (h : EvS C env ns t s M o) (e : ∀ {P : Flow → Shared → Prop} {E : Value → Shared → Prop}, wpAny C.S.M C.A t P E s → K P E) : EvP C env ns s M K o := by
  cases o with
  | bad => trivial
  | next ρ' H' => exact e h
  | ret a H' => exact e h
  | exc c ρ' H' => exact e h
theorem EvP.expr {α β : Type} {R : RelT α β} {t : Sem α} {o : Out β} {f : β → AH → OutS} (st : St C env ns ρ s M H) (h : Ev R C t s M o) (K : α → Shared → (Flow → Shared → Prop) → (Value → Shared → Prop) → Prop)
    (hm : ∀ {x s₁} {P P' : Flow → Shared → Prop} {E E' : Value → Shared → Prop}, K x s₁ P E → (∀ f s, P f s → P' f s) → (∀ v s, E v s → E' v s) → K x s₁ P' E')
    (hk : ∀ y H₁ x s₁ M₁, o = .ok y H₁ → Step C noW s M s₁ M₁ → St C env ns ρ s₁ M₁ H₁ → R (C.wd s₁.heap M₁) x y → EvP C env ns s₁ M₁ (K x s₁) (f y H₁)) : EvP C env ns s M (fun P E => wpAny C.S.M C.A t (fun x s₁ => K x s₁ P E) E s) (o.inS ρ f) := by
  cases o with
  | bad => trivial
  | exc c H' => exact wpAny_mono h (fun _ _ q => q.elim) fun _ _ p => PostX.toS st p
  | ok y H₁ =>
    show EvP C env ns s M _ (f y H₁)
    have hk' := fun x s₁ M₁ a b c => hk y H₁ x s₁ M₁ rfl a b c
    generalize f y H₁ = o' at hk'
    cases o' with
    | bad => trivial
    | next ρ' H' => exact wpAny_mono h (fun x s₁ z_13 => x1_3 z_13 fun M₁ x1 rp r => hm (hk' x s₁ M₁ x1 (st.step x1 rp) r) (fun _ _ p => ⟨p.1, p.2.back x1.ofNo⟩) fun _ _ p => p.elim) fun _ _ q => q.elim
    | ret a H' => exact wpAny_mono h (fun x s₁ z_14 => x1_3 z_14 fun M₁ x1 rp r => hm (hk' x s₁ M₁ x1 (st.step x1 rp) r) (fun _ _ p => p.back x1.ofNo) fun _ _ p => p.elim) fun _ _ q => q.elim
    | exc c ρ' H' => exact wpAny_mono h (fun x s₁ z_15 => x1_3 z_15 fun M₁ x1 rp r => hm (hk' x s₁ M₁ x1 (st.step x1 rp) r) (fun _ _ p => p.elim) fun _ _ p => p.back x1.ofNo) fun _ _ q => q.elim
theorem EvS.bind {α β : Type} {R : RelT α β} {t : Sem α} {k : α → Sem Flow} {o : Out β} {f : β → AH → OutS} (st : St C env ns ρ s M H) (h : Ev R C t s M o)
    (hk : ∀ y H₁ x s₁ M₁, o = .ok y H₁ → Step C noW s M s₁ M₁ → St C env ns ρ s₁ M₁ H₁ → R (C.wd s₁.heap M₁) x y → EvS C env ns (k x) s₁ M₁ (f y H₁)) : EvS C env ns (t >>= k) s M (o.inS ρ f) :=
  EvS.of (EvP.expr st h (fun x s₁ P E => wpAny C.S.M C.A (k x) P E s₁) (fun z a b => wpAny_mono z a b) fun y H₁ x s₁ M₁ e a b c => (EvP.ofS (hk y H₁ x s₁ M₁ e a b c) fun z => z)) fun z => wpAny_bind z
theorem EvP.orBad {ε : Type} {K : (Flow → Shared → Prop) → (Value → Shared → Prop) → Prop} {x : Option ε} {f : ε → OutS} (h : ∀ y, x = some y → EvP C env ns s M K (f y)) : EvP C env ns s M K (orBadS x f) := by
  cases x with
  | none => trivial
  | some y => exact h y rfl
theorem EvS.map {t t' : Sem Flow} {o : OutS} (h : EvS C env ns t s M o) (e : ∀ {P : Flow → Shared → Prop} {E : Value → Shared → Prop}, wpAny C.S.M C.A t P E s → wpAny C.S.M C.A t' P E s) : EvS C env ns t' s M o := h.at (Step.refl ..) e
theorem EvS.stand {t : Sem Flow} {pos : Pos} {o : OutS} (h : EvS C env ns t s M o) : EvS C env ns (standAt pos >>= fun _ => t) s M o := h.map fun z => wpAny_bind (wpAny_standAt z)
theorem EvS.orBad {ε : Type} {t : Sem Flow} {x : Option ε} {f : ε → OutS} (h : ∀ y, x = some y → EvS C env ns t s M (f y)) : EvS C env ns t s M (orBadS x f) := by
  cases x with
  | none => trivial
  | some y => exact h y rfl
theorem EvS.nextHere (st : St C env ns ρ s M H) : EvS C env ns (pure .next) s M (.next ρ H) := wpAny_pure ⟨rfl, M, Step.refl .., st⟩
end
noncomputable def SndS (C : Cx) (env : Env) (ns : List (Option Str)) (f : DS) (t : Stmt) : Prop :=
  ∀ {ρ : RE} {s : Shared} {M : Mp} {H : AH}, St C env ns ρ s M H → EvS C env ns (exec t env) s M (f ρ H)
noncomputable def SndB (C : Cx) (env : Env) (ns : List (Option Str)) (f : DS) (ts : List Stmt) : Prop :=
  ∀ {ρ : RE} {s : Shared} {M : Mp} {H : AH}, St C env ns ρ s M H → EvS C env ns (execs ts env) s M (f ρ H)
noncomputable def TgOK (env : Env) (ns : List (Option Str)) (x : Str) (i : Nat) : Prop := ns[i]? = some (some x) ∧ (env.kindOf x = some .local ∨ env.kindOf x = some .cell)
inductive TgAt (env : Env) (ns : List (Option Str)) : Tg → Expr → Prop
  | one {x : Str} {i : Nat} {p : Pos} : TgOK env ns x i → TgAt env ns (.one i) (.Name x p)
  | many {xs : List (Str × Nat × Pos)} {k : Nat} {p : Pos} : (∀ y ∈ xs, TgOK env ns y.1 y.2.1) → TgAt env ns (.many (xs.map (·.2.1))) (.Tuple (xs.map fun y => .Name y.1 y.2.2) k p)
noncomputable def notComp : Expr → Bool
  | .ListComp .. => false
  | .SetComp .. => false
  | .DictComp .. => false
  | _ => true
theorem swaps_no {e : Expr} {t : Option Expr} {l : Nat} {env : Env} (h : notComp e = true) : swapsWith e t l env = pure false := by
  cases e <;> first | rfl | exact no_tf h
section
variable {C : Cx} {env : Env} {ns : List (Option Str)} {ρ : RE} {s s' : Shared} {M M' : Mp} {H H' : AH}
theorem assign_many {P : Unit → Shared → Prop} {E : Value → Shared → Prop} : ∀ (xs : List (Str × Nat × Pos)) (vs : List Value) (as : List AV) {ρ ρ' : RE} {s : Shared}, (∀ y ∈ xs, TgOK env ns y.1 y.2.1) → St C env ns ρ s M H → VRels (C.wd s.heap M) vs as → bindMany (xs.map (·.2.1)) as ρ = some ρ' →
    (∀ s', Step C (OwnW env) s M s' M → St C env ns ρ' s' M H → P () s') → wpAny C.S.M C.A (assignInOrder ((assignEach (xs.map fun y => .Name y.1 y.2.2) env).map (·.2)) vs) P E s
  | [], [], as, ρ, ρ', s, hx, st, r, hb, h => by
    have : as = [] := List.eq_nil_of_length_eq_zero r.1.symm
    subst this
    cases hb
    exact wpAny_pure (h s (Step.refl ..) st)
  | [], _ :: _, as, ρ, ρ', s, hx, st, r, hb, h => by
    cases as with
    | nil => cases r.1
    | cons _ _ => cases hb
  | _ :: _, [], as, ρ, ρ', s, hx, st, r, hb, h => by
    cases as with
    | nil => cases hb
    | cons _ _ => cases r.1
  | y :: xs, v :: vs, as, ρ, ρ', s, hx, st, r, hb, h => by
    cases as with
    | nil => cases r.1
    | cons a as =>
      obtain ⟨r1, r2⟩ := r.un
      show wpAny C.S.M C.A (holding vs (assign (.Name y.1 y.2.2) env v) >>= fun _ => assignInOrder ((assignEach (xs.map fun y => .Name y.1 y.2.2) env).map (·.2)) vs) P E s
      have t := hx y (.head _)
      refine wpAny_bind (wpAny_holding (wpAny_assign_Name (store_ok st t.1 t.2 r1 fun s₁ x1 st1 => ?_)))
      refine x2_1 (st.env) fun m cm En => ?_
      exact assign_many xs vs as (fun z hz => hx z (.tail _ hz)) st1 (r2.keep (x1.kp st.live En.vars)) hb fun s' x2 st' => h s' (x1.trans x2) st'
theorem assign_ok {t : Tg} {e : Expr} {v : Value} {a : AV} {ρ' : RE} {P : Unit → Shared → Prop} {E : Value → Shared → Prop} (T : TgAt env ns t e) (st : St C env ns ρ s M H) (r : VRel (C.wd s.heap M) v a) (hb : bindT C.hot t a ρ = some ρ') (h : ∀ s', Step C (OwnW env) s M s' M → St C env ns ρ' s' M H → P () s') : wpAny C.S.M C.A (assign e env v) P E s := by
  cases T with
  | one T => cases hb; exact wpAny_assign_Name (store_ok st T.1 T.2 r h)
  | many T =>
    rename_i xs k p
    replace hb : (if C.hot = true then none else match a with | .tup ys => bindMany (xs.map (·.2.1)) ys ρ | _ => none) = some ρ' := hb
    split at hb <;> first | exact no_some hb | skip
    rename_i hot
    cases a <;> first | exact no_some hb | skip
    rename_i as
    have hh := st.live.handled (by simpa using hot)
    refine x3_4 (r.inv) fun x vs n e3' ho nf rs => ?_; subst e3'
    have hlen : (assignEach (xs.map fun y => Expr.Name y.1 y.2.2) env).length = xs.length ∧ (assignEach (xs.map fun y => Expr.Name y.1 y.2.2) env).findIdx? (·.1) = none := by
      clear T hb
      induction xs with
      | nil => exact ⟨rfl, rfl⟩
      | cons y xs ih =>
        refine ⟨congrArg (· + 1) ih.1, ?_⟩
        show List.findIdx? _ ((false, assign (.Name y.1 y.2.2) env) :: assignEach (xs.map fun y => Expr.Name y.1 y.2.2) env) = none
        rw [List.findIdx?_cons, ih.2]; rfl
    have hl2 : ∀ (is : List Nat) (bs : List AV) (ρ ρ' : RE), bindMany is bs ρ = some ρ' → is.length = bs.length := by
      intro is
      induction is with
      | nil => intro bs ρ ρ' e; cases bs with
        | nil => rfl
        | cons _ _ => cases e
      | cons i is ih => intro bs ρ ρ' e; cases bs with
        | nil => cases e
        | cons b bs => exact congrArg (· + 1) (ih bs _ _ e)
    have hsz : vs.size = xs.length := by rw [rs.size, ← hl2 _ _ _ _ hb, List.length_map]
    refine wpAny_assign_Tuple hh ⟨_, ho, rfl, _, rfl⟩ (by rw [hlen.1, hsz]) hlen.2 fun h' hx => ?_
    have h0 := size_none s.heap
    have kx : ∀ b o, s.heap.get? b = some o → h'.get? b = some o := fun b o e => hx b o (ne_of e h0) e
    have st1 : St C env ns ρ { s with heap := h' } M H := st.step (Step.ext (t := s.toks) kx) (st.rep.ext kx)
    exact assign_many xs vs.toList as T st1 (rs.keep (kp_ext kx)) hb fun s' x st' => h s' ((Step.ext (t := s.toks) kx).ofNo.trans x) st'
theorem evp_store {t : Tg} {e : Expr} {v : Value} {a : AV} (T : TgAt env ns t e) (st : St C env ns ρ s M H) (r : VRel (C.wd s.heap M) v a) : EvP C env ns s M (fun P E => wpAny C.S.M C.A (assign e env v) (fun _ s₂ => P .next s₂) E s) (orBadS (bindT C.hot t a ρ) fun ρ₁ => .next ρ₁ H) := by
  cases q : bindT C.hot t a ρ with
  | none => trivial
  | some ρ' => exact assign_ok T st r q fun s' x st' => ⟨rfl, M, x, st'⟩
theorem sndS_assign {t : Tg} {e : DE} {e' te : Expr} {p : Pos} (h : Snd C env ns e e') (T : TgAt env ns t te) (hs : swapsWith e' (some te) p.line env = pure false) (hw : swappedStores [te] e' env = pure none) : SndS C env ns (assignS C.hot t e) (.Assign [te] e' p) := fun {ρ s M H} st => by
  cases T with
  | one T =>
    rename_i x i px
    exact EvS.of (EvP.expr st (h st) (fun v s₁ P E => wpAny C.S.M C.A (storeName env x v) (fun _ s₂ => P .next s₂) E s₁) (fun z a b => wpAny_mono z (fun _ _ => a _ _) b) fun y H₁ v s₁ M₁ e x1 st1 r => store_ok st1 T.1 T.2 r fun s' x2 st' => ⟨rfl, M₁, x2, st'⟩) fun z => wpAny_Assign_Name z hs
  | many T => exact EvS.of (EvP.expr st (h st) (fun v s₁ P E => wpAny C.S.M C.A (assign _ env v) (fun _ s₂ => P .next s₂) E s₁) (fun z a b => wpAny_mono z (fun _ _ => a _ _) b) fun y H₁ v s₁ M₁ e x1 st1 r => evp_store (.many T) st1 r) fun z => Assign_Tuple z hs hw
theorem sndS_ret {e : DE} {e' : Expr} {p : Pos} (h : Snd C env ns e e') : SndS C env ns (retS e) (.Return (some e') p) := fun {ρ s M H} st => by
  show EvS C env ns (standAt p >>= fun _ => eval e' env >>= fun x => pure (.ret x)) s M _
  exact EvS.stand (EvS.bind st (h st) fun a H₁ v s₁ M₁ e x1 st1 ra => wpAny_pure ⟨v, ρ, M₁, rfl, Step.refl .., st1, ra⟩)
theorem sndS_ret0 {p : Pos} : SndS C env ns (retS (cstE .none)) (.Return none p) := fun {ρ s M H} st => by
  show EvS C env ns (standAt p >>= fun _ => pure (.ret .none)) s M (.ret .none H)
  exact EvS.stand (wpAny_pure ⟨.none, ρ, M, rfl, Step.refl .., st, .none⟩)
theorem sndS_pass {p : Pos} : SndS C env ns passS (.Pass p) := fun {ρ s M H} st => by
  show EvS C env ns (standAt p >>= fun _ => pure .next) s M (.next ρ H)
  exact EvS.stand (EvS.nextHere st)
theorem tst_inS {α : Type} (f : DE) (ρ : RE) (H : AH) (g : Bool → AH → OutS) : ((f ρ H).inS ρ fun a H₁ => match a with | .bool c => g c H₁ | _ => .bad) = (tst f ρ H).inS ρ g := by
  unfold tst
  cases f ρ H with
  | bad => rfl
  | exc c H' => rfl
  | ok a H₁ => cases a <;> rfl
theorem sndS_if {t : DE} {t' : Expr} {b o : DS} {b' o' : List Stmt} {p : Pos} (h : SndT C env ns t t') (hb : SndB C env ns b b') (ho : SndB C env ns o o') : SndS C env ns (ifS t b o) (.If t' b' o' p) := fun {ρ s M H} st => by
  show EvS C env ns (standAt p >>= fun _ => isTrue t' env (eval t' env) >>= fun c => if c = true then execs b' env else execs o' env) s M ((t ρ H).inS ρ fun a H₁ => match a with | .bool c => if c then b ρ H₁ else o ρ H₁ | _ => .bad)
  rw [tst_inS (α := Unit) t ρ H fun c H₁ => if c then b ρ H₁ else o ρ H₁]
  refine EvS.stand (EvS.bind st (h st) fun c H₁ v s₁ M₁ e x1 st1 rc => ?_)
  cases rc
  cases c
  · exact ho st1
  · exact hb st1
theorem sndS_expr {e : DE} {e' : Expr} {p : Pos} (h : Snd C env ns e e') (hc : notComp e' = true) : SndS C env ns (exprS e) (.Expr e' p) := fun {ρ s M H} st => by
  refine x2_1 (st.env) fun m cm En => ?_
  have hi : interactive env = false := by unfold interactive; rw [En.fn]; rfl
  exact EvS.of (EvP.expr st (h st) (fun _ s₁ P E => P .next s₁) (fun z a b => a _ _ z) fun y H₁ v s₁ M₁ e x1 st1 r => ⟨rfl, M₁, Step.refl .., st1⟩) fun z => wpAny_Expr_any z hi (swaps_no hc)
theorem sndB_nil : SndB C env ns (seqS []) [] := fun st => EvS.nextHere st
theorem EvS.seq {t : Sem Flow} {k : Flow → Sem Flow} {o : OutS} {f : DS} (h : EvS C env ns t s M o) (hk : ∀ ρ₁ H₁ s₁ M₁, o = .next ρ₁ H₁ → St C env ns ρ₁ s₁ M₁ H₁ → EvS C env ns (k .next) s₁ M₁ (f ρ₁ H₁)) (hr : ∀ v, k (.ret v) = pure (.ret v)) : EvS C env ns (t >>= k) s M (o.then f) := by
  cases o with
  | bad => trivial
  | ret a H' => exact wpAny_bind (wpAny_mono h (fun fl s₁ z_1 => x3_2 z_1 fun v ρ' M' e z => by subst e; rw [hr]; exact wpAny_pure ⟨v, ρ', M', rfl, z⟩) fun _ _ p => p)
  | exc c ρ' H' => exact wpAny_bind (wpAny_mono h (fun _ _ p => p.elim) fun _ _ p => p)
  | next ρ₁ H₁ =>
    show EvS C env ns (t >>= k) s M (f ρ₁ H₁)
    have hk' := fun s₁ M₁ st => hk ρ₁ H₁ s₁ M₁ rfl st
    generalize f ρ₁ H₁ = o' at hk'
    cases o' with
    | bad => trivial
    | next ρ' H' => exact wpAny_bind (wpAny_mono h (fun fl s₁ y_1 => y1_2 y_1 fun e M₁ x1 st1 => by subst e; exact wpAny_mono (hk' s₁ M₁ st1) (fun _ _ p => ⟨p.1, p.2.back x1⟩) fun _ _ p => p) fun _ _ p => p.elim)
    | ret a H' => exact wpAny_bind (wpAny_mono h (fun fl s₁ y_2 => y1_2 y_2 fun e M₁ x1 st1 => by subst e; exact wpAny_mono (hk' s₁ M₁ st1) (fun _ _ p => p.back x1) fun _ _ p => p) fun _ _ p => p.elim)
    | exc c ρ' H' => exact wpAny_bind (wpAny_mono h (fun fl s₁ y_3 => y1_2 y_3 fun e M₁ x1 st1 => by subst e; exact wpAny_mono (hk' s₁ M₁ st1) (fun _ _ p => p) fun _ _ p => p.back x1) fun _ _ p => p.elim)
set_option backward.match.sparseCases true in
theorem sndB_of {f : Stmt → DS} (h : ∀ t, SndS C env ns (f t) t) : ∀ ts : List Stmt, SndB C env ns (seqS (ts.map f)) ts
  | [] => sndB_nil
  | t :: ts => by
    intro st
    rename_i ρ s M H
    show EvS C env ns (exec t env >>= fun f => match f with | .next => execs ts env | f => pure f) s M ((f t ρ H).then (seqS (ts.map f)))
    exact EvS.seq (h t st) (fun ρ₁ H₁ s₁ M₁ _ st1 => sndB_of h ts st1) fun v => rfl
theorem sndS_setitem {o i e : DE} {o' i' e' : Expr} {p p' : Pos} (ho : Snd C env ns o o') (hi : Snd C env ns i i') (he : Snd C env ns e e') : SndS C env ns (setItemS o i e) (.Assign [.Subscript o' i' p'] e' p) := fun {ρ s M H} st => by
  refine EvS.of (EvP.expr st (he st) (fun v s₁ P E => wpAny C.S.M C.A (eval o' env) (fun ov s₂ => wpAny C.S.M C.A (eval i' env) (fun iv s₃ => wpAny C.S.M C.A (setItem ov iv v) (fun _ => P .next) E s₃) E s₂) E s₁) (fun z a b => wpAny_mono z (fun _ _ z => wpAny_mono z (fun _ _ z => wpAny_mono z (fun _ => a _) b) b) b) fun y H₁ v s₁ M₁ e1 x1 st1 rv => ?_) fun z => wpAny_Assign_Subscript z (by cases e' <;> rfl)
  refine EvP.expr st1 (ho st1) (fun ov s₂ P E => wpAny C.S.M C.A (eval i' env) (fun iv s₃ => wpAny C.S.M C.A (setItem ov iv v) (fun _ => P .next) E s₃) E s₂) (fun z a b => wpAny_mono z (fun _ _ z => wpAny_mono z (fun _ => a _) b) b) fun a H₂ ov s₂ M₂ e2 x2 st2 ra => ?_
  refine EvP.expr st2 (hi st2) (fun iv s₃ P E => wpAny C.S.M C.A (setItem ov iv v) (fun _ => P .next) E s₃) (fun z a b => wpAny_mono z (fun _ => a _) b) fun k H₃ iv s₃ M₃ e3 x3 st3 rk => EvP.orBad fun H₄ e4 => ?_
  exact wpAny_mono (prim_setItem st3.live st3.rep (ra.keep (x3.kp st2.live noW_seq)) rk ((rv.keep (x2.kp st1.live noW_seq)).keep (x3.kp st2.live noW_seq)) e4) (fun _ s₄ z_16 => x1_3 z_16 fun M₄ x4 rp4 _ => ⟨rfl, M₄, x4.ofNo, st3.step x4 rp4⟩) fun _ _ q => q.elim
theorem sndS_setattr {G : Gm} (Y : Fit C.S G) {k : Nat} {o e : DE} {o' e' : Expr} {x : Str} {p p' : Pos} (hx : C.S.an[k]? = some x) (ho : Snd C env ns o o') (he : Snd C env ns e e') : SndS C env ns (setAttrS k o e) (.Assign [.Attribute o' x p'] e' p) := fun {ρ s M H} st => by
  refine EvS.of (EvP.expr st (he st) (fun v s₁ P E => wpAny C.S.M C.A (eval o' env) (fun ov s₂ => wpAny C.S.M C.A (setAttr ov x v) (fun _ => P .next) E s₂) E s₁) (fun z a b => wpAny_mono z (fun _ _ z => wpAny_mono z (fun _ => a _) b) b) fun y H₁ v s₁ M₁ e1 x1 st1 rv => ?_) fun z => plainObj_wpAny_Assign_Attribute z (by cases e' <;> rfl)
  refine EvP.expr st1 (ho st1) (fun ov s₂ P E => wpAny C.S.M C.A (setAttr ov x v) (fun _ => P .next) E s₂) (fun z a b => wpAny_mono z (fun _ => a _) b) fun a H₂ ov s₂ M₂ e2 x2 st2 ra => EvP.orBad fun i e3 => ?_
  obtain ⟨n, c, fs⟩ := i
  show EvP C env ns s₂ M₂ _ (if k < fs.length then .next ρ (H₂.set n (.inst c (fs.set k (some y)))) else .bad)
  split
  · rename_i hk
    exact wpAny_mono (prim_setAttr Y st2.live st2.rep ra (rv.keep (x2.kp st1.live noW_seq)) e3 hx hk) (fun _ s₄ z_17 => x1_3 z_17 fun M₄ x4 rp4 _ => ⟨rfl, M₄, x4.ofNo, st2.step x4 rp4⟩) fun _ _ q => q.elim
  · trivial
end
section
variable {C : Cx} {env : Env} {ns : List (Option Str)} {ρ : RE} {s s' : Shared} {M M' : Mp} {H H' : AH}
noncomputable def okP (C : Cx) (env : Env) (ns : List (Option Str)) (s : Shared) (M : Mp) : OutS → Flow → Shared → Prop
  | .next ρ' H' => fun fl s' => fl = .next ∧ PostN C env ns s M ρ' H' s'
  | .ret a H' => PostR C env ns s M a H'
  | _ => no1
noncomputable def erP (C : Cx) (env : Env) (ns : List (Option Str)) (s : Shared) (M : Mp) : OutS → Value → Shared → Prop
  | .exc c ρ' H' => PostSX C env ns s M c ρ' H'
  | _ => no1
theorem evp_iff {K : (Flow → Shared → Prop) → (Value → Shared → Prop) → Prop} {o : OutS} : (o ≠ .bad → K (okP C env ns s M o) (erP C env ns s M o)) → EvP C env ns s M K o := fun h => by
  cases o with
  | bad => trivial
  | _ => exact h (fun q => nomatch q)
noncomputable def HeadAt (C : Cx) (env : Env) : Prop := (∃ outer, C.fe = env :: outer) ∧ ∃ L, env.frame = some L
theorem Exn.noted {W : Addr → Prop} {A : Around} {e : Addr} {c : Nat} {B : Heap} {P : Unit → Shared → Prop} {E : Value → Shared → Prop} (hd : HeadAt C env) (hA : A.frames = some C.fe) (x : Exn C W s M e c s' M' H' B)
    (h : ∀ h' D L, C.S.X c = some D → B.get? e = none → h'.FunFrames B C.fe → B.StaysIn h' → C.fe.head?.bind (·.frame) = some L → env.frame = some L → Stn B C.fe s'.heap h' → Fly B h' e D (rawInt L) → Exn C W s M e c { s' with heap := h' } M' H' B → P () { s' with heap := h' }) : wpAny C.S.M A (noteFrame (.ref e) env) P E s' := by
  obtain ⟨⟨outer, ho⟩, L, hL⟩ := hd
  refine x1_2 (id x.flt) fun D hX hf => ?_
  have hh : C.fe.head?.bind (·.frame) = some L := by rw [ho]; exact hL
  have st : Raw s'.heap e D ∨ ∃ fl, Fly B s'.heap e D fl ∧ (fl = .none ∨ fl = rawInt L) := hf.st.imp id fun z_18 => x1_2 z_18 fun fl f q => ⟨fl, f, q.imp id fun z_19 => x1_2 z_19 fun L' h1 h2 => by rw [hh] at h1; cases h1; exact h2⟩
  refine note_ok (outer := outer) (hA.trans (by rw [ho])) (ho ▸ hf.funs) hL hf.stays hf.new st fun h' z f => ?_
  rw [← ho] at z
  exact h h' D L hX hf.new z.funs z.stays hh hL z f (x.stn hX hf.new hf.funs z f (.inr ⟨L, hh, rfl⟩))
theorem PostSX.noted {c : Nat} {ρ' : RE} (hd : HeadAt C env) (hA : C.A.frames = some C.fe) {ev : Value} (p : PostSX C env ns s M c ρ' H' ev s') : notedBy C.S.M C.A env (cameBackBy C.S.M C.A env (PostSX C env ns s M c ρ' H')) ev s' := by
  refine x3_3 (p) fun e M' B e3' x b => ?_; try clear p; subst e3'
  refine x.noted hd hA fun h' D L hX hn hf hs hh hL z f x' => ?_
  refine cameBack_ok hf hs hL f fun h'' z' f' => ?_
  exact ⟨e, M', B, rfl, x'.stn hX hn hf z' f' (.inr ⟨L, hh, rfl⟩), (b.stn z).stn z'⟩
theorem Exn.letGo {W : Addr → Prop} {e : Addr} {c : Nat} {B : Heap} {l : Option Nat} {M₀ : Mp} {h₀ : Heap} {H₀ : AH} (x : Exn (C.held M₀ l) W s M e c s' M' H' B) (pre : ∃ e, M' = M₀ ++ e) (R₀ : Rep C.S C.pv h₀ M₀ H₀) (hl : ∀ n, l = some n → ∃ es, H₀[n]? = some (.dict es)) : Exn C W s M e c s' M' (freeH l H') B :=
  ⟨fun b o e n => x.keepB b o e fun q => List.mem_append.mpr (.inr (n q)), x.base, x.rep.letGo pre R₀ hl, x.flt, x.slots, x.alive, x.pre, x.grow, x.gens, x.os, x.fresh⟩
theorem EnvB.held {l : Option Nat} {M₀ : Mp} {h B : Heap} (E : EnvB (C.held M₀ l) env ns ρ h B M) : EnvB C env ns ρ h B M := by
  refine x2_1 (E) fun m cm E => ?_
  exact ⟨m, cm, E.fn, E.glob, E.bns, E.loc, E.off, E.inj, E.len, E.has, E.cell, E.apart, E.var⟩
theorem St.letGo {l : Option Nat} {M₀ : Mp} {h₀ : Heap} {H₀ : AH} (st : St (C.held M₀ l) env ns ρ s M H) (pre : ∃ e, M = M₀ ++ e) (R₀ : Rep C.S C.pv h₀ M₀ H₀) (hl : ∀ n, l = some n → ∃ es, H₀[n]? = some (.dict es)) : St C env ns ρ s M (freeH l H) := by
  obtain ⟨L, R, E⟩ := st
  exact ⟨⟨L.frames, L.funs, L.stays, L.off, L.new, L.handled, L.dicts, L.depth, L.units, fun a q => L.priv a (q.imp id fun q => List.mem_append.mpr (.inr q)), L.poff⟩, R.letGo pre R₀ hl, E.held⟩
theorem Step.held {W : Addr → Prop} {l : Option Nat} {M₀ : Mp} (x : Step (C.held M₀ l) W s M s' M') : Step C W s M s' M' := x.pv fun a q => List.mem_append.mpr (.inr q)
set_option smartUnfolding false in
theorem loopS_inv {P : Prop} {B : AV → DS} {src : Src} {n k : Nat} {o : OutS} (h : loopS B src n k ρ H = o) (ho : o ≠ .bad) (g0 : itemAt H src k = some none → o = .next ρ H → P) (g1 : ∀ v m, itemAt H src k = some (some v) → n = m + 1 → (B v ρ H).then (loopS B src m (k + 1)) = o → P) : P := by
  cases n with
  | zero =>
    have h : (match itemAt H src k with | none => OutS.bad | some none => .next ρ H | some (some v) => .bad) = o := h
    cases q : itemAt H src k with
    | none => rw [q] at h; exact absurd h.symm ho
    | some x =>
      rw [q] at h
      cases x with
      | none => exact g0 q h.symm
      | some v => exact absurd h.symm ho
  | succ m =>
    have h : (match itemAt H src k with | none => OutS.bad | some none => .next ρ H | some (some v) => (B v ρ H).then (loopS B src m (k + 1))) = o := h
    cases q : itemAt H src k with
    | none => rw [q] at h; exact absurd h.symm ho
    | some x =>
      rw [q] at h
      cases x with
      | none => exact g0 q h.symm
      | some v => exact g1 v m q rfl h
inductive ForInv (C : Cx) (env : Env) (ns : List (Option Str)) (l : Option Nat) (s₁ : Shared) (M₁ : Mp) (I : Addr) (src : Src) (t : Tg) (b : DS) (o : OutS) (m : Nat) (s' : Shared) : Prop
  | mk (ρ' : RE) (M' : Mp) (H' : AH) (k : Nat) (h1 : Step (C.held M₁ l) (OwnW env) s₁ M₁ s' M') (h2 : St (C.held M₁ l) env ns ρ' s' M' H') (h3 : Aside (C.held M₁ l) env s'.heap M' I) (h4 : Itr (C.held M₁ l) env s'.heap M' I src k) (h5 : loopS (fun v ρ H => orBadS (bindT C.hot t v ρ) fun ρ₁ => b ρ₁ H) src m k ρ' H' = o) : ForInv C env ns l s₁ M₁ I src t b o m s'
theorem sndS_for (hd : HeadAt C env) {t : Tg} {te : Expr} {it : DE} {it' : Expr} {b : DS} {b' : List Stmt} {p : Pos} (h : Snd C env ns it it') (T : TgAt env ns t te) (hb : ∀ pv, SndB (C.withPv pv) env ns b b') (hf : notSet it' = true) : SndS C env ns (forS C.hot t it b) (.For te it' b' [] p) := fun {ρ s M H} st => by
  refine EvS.of (EvP.expr st (h st) (fun v s₁ P E => wpAny C.S.M C.A (pyIter v) (fun it s₂ => codeAny C.S.M C.A (.forLoop te it b' [] env) (fun r s' => match r with | .ok f => P f s' | .error e => cameBackBy C.S.M C.A env E e s') s₂) E s₁) (fun z a b => wpAny_mono z (fun _ _ z => codeAny_mono z fun r s' q => by
    cases r with
    | ok f => exact a _ _ q
    | error e => exact wpAny_mono q (fun _ _ q => b _ _ q) b) b) fun a H₁ v s₁ M₁ _ x1 st1 ra => EvP.orBad fun sr hs => ?_) fun z => wpAny_For z (fold_no hf)
  obtain ⟨src, n, l⟩ := sr
  show EvP C env ns s₁ M₁ _ (if C.hot = true then .bad else (loopS (fun v ρ H => orBadS (bindT C.hot t v ρ) fun ρ₁ => b ρ₁ H) src n 0 ρ (lockH l H₁)).free l)
  split
  · trivial
  rename_i hot
  have hh := st1.live.handled (by simpa using hot)
  refine evp_iff fun hne => ?_
  generalize ho : loopS (fun v ρ H => orBadS (bindT C.hot t v ρ) fun ρ₁ => b ρ₁ H) src n 0 ρ (lockH l H₁) = o at hne
  have hne' : o ≠ .bad := fun q => hne (by rw [q]; rfl)
  have hl := src_lock hs
  refine itr_start st1 hh hs ra fun h0 hk0 stL ha hit => ?_
  have hI := size_none s₁.heap
  generalize s₁.heap.objs.size = I at ha hit hI
  have hIp : ¬ (I ∈ (C.held M₁ l).pv.1 ∨ I ∈ (C.held M₁ l).pv.2) := fun q => by
    rcases q with q | q
    · obtain ⟨o, ho⟩ := st1.live.priv I (.inl q); rw [hI] at ho; cases ho
    · rcases List.mem_append.mp q with q | q
      · cases l with
        | none => cases q
        | some k =>
          simp only [lockOf] at q
          split at q
          · rename_i p hp
            have q := List.mem_singleton.mp q
            obtain ⟨o, ho⟩ := st1.rep.there (foot_at hp).1
            rw [← q, hI] at ho; cases ho
          · cases q
      · obtain ⟨o, ho⟩ := st1.live.priv I (.inr q); rw [hI] at ho; cases ho
  refine codeAny_forLoop_any (ForInv C env ns l s₁ M₁ I src t b o) (fun m s' I' => ?_) n
    ⟨ρ, M₁, lockH l H₁, 0, Step.ext (t := s₁.toks) hk0, stL, ha, hit, ho⟩
  obtain ⟨ρ', M', H', k, y, st', ha', hi', w'⟩ := I'
  refine loopS_inv w' hne' (fun hr ez => ?_) fun bv m hr ez w1 => ?_
  · subst ez
    refine itr_next (C := C.held M₁ l) st' hh ha' hi' hr (fun u a h' tk e => nomatch e) fun h' tk _ kp => ?_
    have st2 := st'.but (tk := tk) ha' kp fun q => absurd q hIp
    exact wpAny_pure ⟨rfl, M', (y.but (tk := tk) hI kp).held, st2.letGo y.pre st1.rep hl⟩
  subst ez
  refine itr_next (C := C.held M₁ l) st' hh ha' hi' hr (fun u a h' tk e kp rv i2 => ?_) fun h' tk e => nomatch e
  cases e
  have st2 := st'.but (tk := tk) ha' kp fun q => absurd q hIp
  have y2 := y.but (tk := tk) hI kp
  refine x1_2 (i2.is.not) fun oI eI nI => ?_
  have a2 : Aside (C.held M₁ l) env h' M' I := ⟨⟨oI, eI, .inr nI⟩, ha'.foot, ha'.fs, ha'.own, ha'.base⟩
  have iI := i2.is
  generalize hs2 : ({ s' with heap := h', toks := tk } : Shared) = t2 at st2 y2
  have e2 : t2.heap = h' := by rw [← hs2]
  rw [← e2] at a2 i2 rv iI
  refine letGo_ok iI ?_
  cases hbt : bindT C.hot t bv ρ' with
  | none => simp only [hbt, orBadS, OutS.then] at w1; exact absurd w1.symm hne'
  | some ρ₁ =>
  simp only [hbt, orBadS] at w1
  refine assign_ok (C := C.held M₁ l) T st2 rv hbt fun s3 y3 st3 => ?_
  have hw2 : VarsOnly t2.heap (OwnW env) := by obtain ⟨_, _, E⟩ := st2.env; exact E.vars
  have i3 := i2.after y3 a2 st2.live hw2
  have a3 := a2.step y3
  have B := hb (C.held M₁ l).pv st3
  have bne : b ρ₁ H' ≠ .bad := fun q => by rw [q] at w1; exact hne' w1.symm
  have hw3 : VarsOnly s3.heap (OwnW env) := by obtain ⟨_, _, E⟩ := st3.env; exact E.vars
  generalize b ρ₁ H' = ob at B w1 bne
  cases ob with
  | bad => exact absurd rfl bne
  | next ρ₂ H₂ =>
    refine wpAny_mono B (fun fl s4 y_4 => y1_2 y_4 fun e M₄ y4 st4 => ?_) fun _ _ q => q.elim
    subst e
    exact ⟨m, Nat.lt_succ_self m, ρ₂, M₄, H₂, k + 1, (y2.trans y3).trans y4, st4, a3.step y4, i3.after y4 a3 st3.live hw3, w1⟩
  | ret a H₂ =>
    have w1 : OutS.ret a H₂ = o := w1
    subst w1
    refine wpAny_mono B (fun fl s4 z_20 => x3_4 z_20 fun v ρ₂ M₄ e y4 st4 rv4 => ?_) fun _ _ q => q.elim
    subst e
    have yy := (y2.trans y3).trans y4
    exact ⟨v, ρ₂, M₄, rfl, yy.held, st4.letGo yy.pre st1.rep hl, rv4⟩
  | exc c ρ₂ H₂ =>
    have w1 : OutS.exc c ρ₂ H₂ = o := w1
    subst w1
    refine wpAny_mono B (fun _ _ q => q.elim) fun ev s4 z_21 => x3_3 z_21 fun e M₄ B' ee x4 E4 => ?_
    have yy := y2.trans y3
    have pre : ∃ e, M₄ = M₁ ++ e := by
      obtain ⟨l1, e1⟩ := yy.pre
      obtain ⟨l2, e2⟩ := x4.pre
      exact ⟨l1 ++ l2, by rw [e2, e1, List.append_assoc]⟩
    have p : PostSX C env ns s₁ M₁ c ρ₂ (freeH l H₂) ev s4 := ⟨e, M₄, B', ee, (x4.letGo pre st1.rep hl).after yy.held fun _ q => q, E4.held⟩
    exact p.noted hd st1.live.frames
theorem whileS_inv {P : Prop} {t : DE} {b : DS} {n : Nat} {o : OutS} (h : whileS t b n ρ H = o) (ho : o ≠ .bad) (g : ∀ m c H₁, n = m + 1 → t ρ H = .ok (.bool c) H₁ → ((c = false ∧ o = .next ρ H₁) ∨ (c = true ∧ ((b ρ H₁).then (whileS t b m)).calm = o)) → P) : P := by
  cases n with
  | zero => exact absurd h.symm ho
  | succ m =>
    have h : ((t ρ H).inS ρ fun a H₁ => match a with | .bool c => if c then (b ρ H₁).then (whileS t b m) else .next ρ H₁ | _ => .bad).calm = o := h
    cases ht : t ρ H with
    | bad => rw [ht] at h; exact absurd h.symm ho
    | exc c H' => rw [ht] at h; exact absurd h.symm ho
    | ok a H₁ =>
      rw [ht] at h
      cases a <;> first | exact absurd h.symm ho | skip
      rename_i c
      refine g m c H₁ rfl ht ?_
      cases c with
      | false => exact .inl ⟨rfl, h.symm⟩
      | true => exact .inr ⟨rfl, h⟩
theorem calm_inv {o o' : OutS} (h : o.calm = o') (ho : o' ≠ .bad) : o = o' := by
  cases o with
  | exc c ρ H => exact absurd h.symm ho
  | _ => exact h
inductive WhileInv (C : Cx) (env : Env) (ns : List (Option Str)) (s : Shared) (M : Mp) (t : DE) (b : DS) (o : OutS) (m : Nat) (s' : Shared) : Prop
  | mk (ρ' : RE) (M' : Mp) (H' : AH) (h1 : Step C (OwnW env) s M s' M') (h2 : St C env ns ρ' s' M' H') (h3 : whileS t b m ρ' H' = o) : WhileInv C env ns s M t b o m s'
theorem sndS_while {n : Nat} {t : DE} {t' : Expr} {b : DS} {b' : List Stmt} {p : Pos} (h : SndT C env ns t t') (hb : SndB C env ns b b') : SndS C env ns (whileS t b n) (.While t' b' [] p) := fun {ρ s M H} st => by
  refine EvS.of (K := fun P E => codeAny C.S.M C.A (.whileLoop t' b' [] env) (fun r s' => match r with | .ok f => P f s' | .error e => cameBackBy C.S.M C.A env E e s') s) (evp_iff fun hne => ?_) fun z => wpAny_While z
  generalize ho : whileS t b n ρ H = o at hne
  refine codeAny_whileLoop (WhileInv C env ns s M t b o) (fun m s' I' => ?_) n ⟨ρ, M, H, Step.refl .., st, ho⟩
  obtain ⟨ρ', M', H', y, st', w⟩ := I'
  refine whileS_inv w hne fun m c H₁ e3' ht w1 => ?_; subst e3'
  have A := h st'
  rw [show tst t ρ' H' = .ok c H₁ by unfold tst; rw [ht]; rfl] at A
  refine wpAny_mono A (fun x s₁ z_22 => x1_3 z_22 fun M₁ x1 rp1 e => ?_) fun _ _ q => q.elim
  obtain rfl : x = c := e
  have st1 := st'.step x1 rp1
  rcases w1 with ⟨rfl, rfl⟩ | ⟨rfl, w1⟩
  · exact wpAny_pure ⟨rfl, M₁, y.trans x1.ofNo, st1⟩
  · have B := hb st1
    show wpAny C.S.M C.A (execs b' env) _ _ s₁
    generalize b ρ' H₁ = ob at B w1
    cases ob with
    | bad => exact absurd w1.symm hne
    | next ρ₂ H₂ =>
      have w1 := calm_inv w1 hne
      refine wpAny_mono B (fun fl s4 y_5 => y1_2 y_5 fun e M₄ y4 st4 => ?_) fun _ _ q => q.elim
      subst e
      exact ⟨m, Nat.lt_succ_self m, ρ₂, M₄, H₂, (y.trans x1.ofNo).trans y4, st4, w1⟩
    | ret a H₂ =>
      have w1 : OutS.ret a H₂ = o := w1
      subst w1
      refine wpAny_mono B (fun fl s4 z_23 => x3_4 z_23 fun v ρ₂ M₄ e y4 st4 rv4 => ?_) fun _ _ q => q.elim
      subst e
      exact ⟨v, ρ₂, M₄, rfl, (y.trans x1.ofNo).trans y4, st4, rv4⟩
    | exc c ρ₂ H₂ => exact absurd w1.symm hne
theorem sndS_aug {o i e : DE} {o' i' e' : Expr} {p p' : Pos} (ho : Snd C env ns o o') (hi : Snd C env ns i i') (he : Snd C env ns e e') (hn : notSlice i' = true) : SndS C env ns (augS o i e) (.AugAssign (.Subscript o' i' p') .Add e' p) := fun {ρ s M H} st => by
  refine EvS.of (EvP.expr st (ho st) (fun ov s₁ P E => wpAny C.S.M C.A (eval i' env) (fun iv s₂ => wpAny C.S.M C.A (getItem ov iv) (fun old s₃ => wpAny C.S.M C.A (eval e' env) (fun v s₄ => wpAny C.S.M C.A (inplaceOp .Add old v) (fun new s₅ => wpAny C.S.M C.A (setItem ov iv new) (fun _ => P .next) E s₅) E s₄) E s₃) E s₂) E s₁)
    (fun z a b => wpAny_mono z (fun _ _ z => wpAny_mono z (fun _ _ z => wpAny_mono z (fun _ _ z => wpAny_mono z (fun _ _ z => wpAny_mono z (fun _ => a _) b) b) b) b) b) fun a H₁ ov s₁ M₁ _ x1 st1 ra => ?_) fun z => wpAny_AugAssign_SubscriptAny z (by cases i' <;> first | (intros; rfl) | cases hn)
  refine EvP.expr st1 (hi st1) (fun iv s₂ P E => wpAny C.S.M C.A (getItem ov iv) (fun old s₃ => wpAny C.S.M C.A (eval e' env) (fun v s₄ => wpAny C.S.M C.A (inplaceOp .Add old v) (fun new s₅ => wpAny C.S.M C.A (setItem ov iv new) (fun _ => P .next) E s₅) E s₄) E s₃) E s₂)
    (fun z a b => wpAny_mono z (fun _ _ z => wpAny_mono z (fun _ _ z => wpAny_mono z (fun _ _ z => wpAny_mono z (fun _ => a _) b) b) b) b) fun k H₂ iv s₂ M₂ _ x2 st2 rk => ?_
  have ra2 := ra.keep (x2.kp st1.live noW_seq)
  refine EvP.expr st2 (prim_sub st2.live st2.rep ra2 rk) (fun old s₃ P E => wpAny C.S.M C.A (eval e' env) (fun v s₄ => wpAny C.S.M C.A (inplaceOp .Add old v) (fun new s₅ => wpAny C.S.M C.A (setItem ov iv new) (fun _ => P .next) E s₅) E s₄) E s₃)
    (fun z a b => wpAny_mono z (fun _ _ z => wpAny_mono z (fun _ _ z => wpAny_mono z (fun _ => a _) b) b) b) fun u H₃ old s₃ M₃ _ x3 st3 ru => ?_
  refine EvP.expr st3 (he st3) (fun v s₄ P E => wpAny C.S.M C.A (inplaceOp .Add old v) (fun new s₅ => wpAny C.S.M C.A (setItem ov iv new) (fun _ => P .next) E s₅) E s₄) (fun z a b => wpAny_mono z (fun _ _ z => wpAny_mono z (fun _ => a _) b) b) fun v H₄ vv s₄ M₄ _ x4 st4 rv => ?_
  have k23 := x3.kp st2.live noW_seq
  have k34 := x4.kp st3.live noW_seq
  refine EvP.expr st4 (R := VRel) (t := inplaceOp .Add old vv) (Ev.asInt fun x e1 => Ev.asInt fun y e2 => ?_) (fun new s₅ P E => wpAny C.S.M C.A (setItem ov iv new) (fun _ => P .next) E s₅) (fun z a b => wpAny_mono z (fun _ => a _) b) fun w H₅ new s₅ M₅ _ x5 st5 rw' => EvP.orBad fun H₆ e6 => ?_
  · subst e1 e2
    obtain ⟨t1, rfl⟩ := (ru.keep k34).inv
    obtain ⟨t2, rfl⟩ := rv.inv
    exact iadd_int (post_tok st4.rep (.int _ _) _)
  · have k45 := x5.kp st4.live noW_seq
    exact wpAny_mono (prim_setItem st5.live st5.rep (((ra2.keep k23).keep k34).keep k45) (((rk.keep k23).keep k34).keep k45) rw' e6) (fun _ s₆ z_24 => x1_3 z_24 fun M₆ x6 rp6 _ => ⟨rfl, M₆, x6.ofNo, st5.step x6 rp6⟩) fun _ _ q => q.elim
end
open PySem PySem.W PyProof.Rows PySem.Spec
section
variable {C : Cx} {env : Env} {ns : List (Option Str)} {ρ : RE} {s s' : Shared} {M M' : Mp} {H H' : AH}
theorem sndS_assignC {mt : Bool} {elt it cond : DE} {elt' it' : Expr} {ifs : List Expr} {x y : Str} {i : Nat} {px py pos spos : Pos} {sc : Scope} (hit : Snd C env ns it it') (hf : notSet it' = true) (Y : CompAt env x sc)
    (helt : ∀ pv (env' : Env), env'.scope.names = relN env.scope.names sc.names → Snd (C.withPv pv) env' (nsC ns sc.names x) elt elt') (hcond : ∀ pv (env' : Env), env'.scope.names = relN env.scope.names sc.names → TestsOK (C.withPv pv) env' (nsC ns sc.names x) cond ifs)
    (T : TgOK env ns y i) (hsw : swapsWith (.ListComp elt' [⟨.Name x px, it', ifs, 0⟩] sc pos) (some (.Name y py)) spos.line env = pure true) :
    SndS C env ns (assignS C.hot (.one i) (compE C.hot mt elt it cond)) (.Assign [.Name y py] (.ListComp elt' [⟨.Name x px, it', ifs, 0⟩] sc pos) spos) := fun {ρ s M H} st => by
  refine EvS.of (K := fun P E => wpAny C.S.M C.A (comprehension (.ListComp elt' [⟨.Name x px, it', ifs, 0⟩] sc pos) sc env it'.pos (newList []) false (eval it' env) (some (assign (.Name y py) env))) (fun _ s' => P .next s') E s) ?_ fun {P E} z => by
    show wpAny C.S.M C.A (exec (.Assign [.Name y py] (.ListComp elt' [⟨.Name x px, it', ifs, 0⟩] sc pos) spos) env) _ _ s
    rw [exec_Assign_Name_used _ _ _ _ hsw]
    refine wpAny_bind (wpAny_standAt (wpAny_bind ?_))
    exact wpAny_bind (wpAny_mono z (fun _ _ q => wpAny_pure (wpAny_pure q)) fun _ _ q => q)
  show EvP C env ns s M _ ((compE C.hot mt elt it cond ρ H).inS ρ fun a H₁ => .next (ρ.set i (some a)) H₁)
  cases ho : compE C.hot mt elt it cond ρ H with
  | bad => trivial
  | exc c H' =>
    exact comp_core (mt := mt) (use := some (assign (.Name y py) env)) (p0 := it'.pos) (QQ := no1) (E := PostSX C env ns s M c ρ H') st hit hf Y helt hcond (by rw [ho]; exact fun q => nomatch q) (fun c' H'' e ev s' p => by rw [ho] at e; cases e; exact PostX.toS st p) fun r y H' c s' M' m e => by rw [ho] at e; cases e
  | ok yv H' =>
    refine comp_core (mt := mt) (use := some (assign (.Name y py) env)) (p0 := it'.pos) (QQ := fun _ s' => Flow.next = .next ∧ PostN C env ns s M (ρ.set i (some yv)) H' s') (E := no1) st hit hf Y helt hcond (by rw [ho]; exact fun q => nomatch q) (fun c' H'' e => by rw [ho] at e; cases e) fun r y' H'' c s' M' m e x1 rp rv hc hn nf => ?_
    rw [ho] at e
    cases e
    show wpAny _ _ (assign (.Name y py) env r) _ _ s'
    have st' := st.step x1 rp
    refine wpAny_assign_Name (store_ok st' T.1 T.2 rv fun s2 x2 st2 => ?_)
    have hcW : ¬ OwnW env c := by
      refine x2_1 (st.env) fun m0 cm0 E0 => ?_
      rintro (q | ⟨n, q⟩)
      · obtain ⟨o, _, _, ho, _⟩ := E0.loc; rw [← q, hc] at ho; cases ho
      · obtain ⟨⟨o, ho, _⟩, _⟩ := E0.cell n c q; rw [hc] at ho; cases ho
    have hcf : c ∉ C.fs := st.live.fs0 hc
    have hcb : C.S.base.get? c = none := st.live.base0 hc
    have hn2 : s2.heap.Ns c m := by obtain ⟨o, es, ep, ho, hd, r⟩ := hn; exact ⟨o, es, ep, x2.keep c o ho (fun q => absurd q nf) hcW hcf, hd, r⟩
    refine ⟨m, hn2, fun h' sb => ?_⟩
    have k : ∀ b o, b ≠ c → s2.heap.get? b = some o → h'.get? b = some o := fun b o ne e => (sb.2 b ne).trans e
    have a2 : Aside C env s2.heap M' c := ⟨by obtain ⟨o, es, ep, ho, hd, _⟩ := id hn2; exact ⟨o, ho, .inr (dictOff hn2 o ho)⟩, nf, hcf, hcW, hcb⟩
    have hpv : c ∈ C.pv.1 ∨ c ∈ C.pv.2 → ∃ o, h'.get? c = some o := fun q => by obtain ⟨o, ho⟩ := st.live.priv c q; rw [hc] at ho; cases ho
    exact ⟨rfl, M', ((Step.ofNo x1).trans x2).but (tk := s2.toks) hc k, st2.but (tk := s2.toks) a2 k hpv⟩
theorem swaps_comp {e : Expr} {g : List Comprehension} {sc : Scope} {pos p : Pos} {t : Str} {l : Nat} {env : Env} : swapsWith (.ListComp e g sc pos) (some (.Name t p)) l env = pure (env.blockKind == .function && env.kindOf t == some .local && p.line == pos.line
      && !(sc.names.any fun (n, k) => n == t && (k == .local || k == .cell))) := rfl
end
section
variable {M : Model} {A : Around} {E : Value → Shared → Prop} {env : Env}
variable {nm q : Str} {C N : Addr} {bs bm : List Value} {hdct : Bool} {sn : List Str} {sub : List Value} {ab : Bool} {col : Option Bool} {dd : Option Addr} {k0 k1 k2 k3 k5 : Option Value} {newId : String}
theorem raise_stmt {s : Shared} {x : Sem Value} {Q : Flow → Shared → Prop} (hbase : bm.contains (.type "BaseException") = true)
    (h : wpAny M A x (fun v s₁ => ∃ e t, v = .ref e ∧ s₁.heap.get? C = some (excClassObj nm q C N bs bm hdct sn sub ab col dd k0 k1 k2 k3 k5 newId) ∧
      s₁.heap.get? e = some { cls := .ref C, data := .fields #[.ref t, .none, .none, .none, .bool false, .none] } ∧ wpAny M A (raiseNew (.ref e) : Sem Flow) Q E s₁) E s) :
    wpAny M A (raiseStmt env (some x) none) Q E s := by
  have hcB : (Value.ref C :: bm).contains (.type "BaseException") = true := by rw [List.contains_cons, hbase, Bool.or_true]
  unfold raiseStmt
  refine wpAny_bind (wpAny_mono h (fun v s₁ h₁ => ?_) fun _ _ x => x)
  refine x2_4 (h₁) fun e t e2' hC he hE => ?_; try clear h₁; subst e2'
  obtain ⟨hp, g, d, tk, os⟩ := s₁
  repeat (first | with_reducible exact hE | with_reducible refine wpAny_loadPart_at he ?_ | with_reducible refine wpAny_loadPart_at hC ?_ | (with_reducible refine wpAny_isSubtype_exc hC ?_; rw [hcB]) | wp_step)
end
section
variable {prog : Program} {w : World} {A : Around} {E : Value → Shared → Prop} {s : Shared} {env : Env}
variable {nm q : Str} {C N : Addr} {bs bm bmB : List Value} {hdct : Bool} {sn : List Str} {sub : List Value} {ab : Bool} {col : Option Bool} {dd : Option Addr} {k0 k1 k2 k3 k5 : Option Value} {B Bn newId nid initId inN : String} {bmN : List Value}
theorem raise_call (Fn : ExcBaseFacts Bn newId inN bmN) (hBn : bmB.contains (.type Bn) = true) (F : ExcBaseFacts B nid initId bmB) {mN : Str → Option Value} {x : Str} {np cpos pos : Pos} {args : List Expr} {Q : Flow → Shared → Prop}
    (hbase : bm.contains (.type "BaseException") = true) (hplain : (backTo cpos (starEach args env)).any (·.1) = false) (hni : mN "__init__" = none)
    (h : wpAny (model prog w) A (eval (.Name x np) env) (fun f s₁ => f = .ref C ∧ wpAny (model prog w) A (evalArgs (.ref C) true (backTo cpos (starEach args env)) [])
      (fun a s₂ => a.kw = [] ∧ a.pos.length ≤ sizeLine ∧ s₂.heap.get? C = some (excClassObj nm q C N bs bm hdct sn sub ab col dd k0 k1 k2 k3 k5 newId) ∧ s₂.heap.Ns N mN ∧ OwnTail s₂.heap bmB bm ∧
        ∀ h' e, Heap.MadeExcOf s₂.heap h' e (.ref C) a.pos → wpAny (model prog w) A (raiseNew (.ref e) : Sem Flow) Q E { s₂ with heap := h' }) E s₁) E s) :
    wpAny (model prog w) A (exec (.Raise (some (.Call (.Name x np) args [] cpos)) none pos) env) Q E s := by
  rw [arm_exec_Raise]
  refine wpAny_bind (wpAny_standAt (raise_stmt (C := C) (nm := nm) (q := q) (N := N) (bs := bs) (bm := bm) (hdct := hdct) (sn := sn) (sub := sub) (ab := ab) (col := col) (dd := dd) (k0 := k0) (k1 := k1) (k2 := k2) (k3 := k3) (k5 := k5) (newId := newId) hbase ?_))
  refine wpAny_bind (wpAny_mono (wpAny_Call_ofName (wpAny_mono h (fun f s₁ h₁ => ?_) fun _ _ x => x)) (fun v s₃ h₃ => wpAny_bind (wpAny_standAt (wpAny_pure h₃))) fun _ _ x => x)
  obtain ⟨rfl, h₁⟩ := h₁
  unfold callWith
  refine wpAny_bind (wpAny_holding (wpAny_mono h₁ (fun a s₂ h₂ => wpAny_bind (wpAny_standAt ?_)) fun _ _ x => x))
  obtain ⟨apos, akw⟩ := a
  refine x0_6 (h₂) fun hkw hlen hC hn T h₂ => ?_
  obtain rfl : akw = [] := hkw
  obtain ⟨hp, g, d, tk, os⟩ := s₂
  refine wpAny_bind (wpAny_keeperOf_exc hC ?_)
  dsimp only
  rw [hplain]
  refine wpAny_bind (wpAny_call_exc_subU (hrest := hlen) Fn hBn F T hC hn hni fun h' e hm => wpAny_bind (wpAny_holding (wpAny_point (wpAny_pure ?_))))
  refine x1_3 (hm.there) fun t ht _ _ => ?_
  exact ⟨e, t, rfl, hm.keeps _ _ hC, ht, h₂ h' e hm⟩
end
section
variable {C : Cx} {G : Gm} {env : Env} {ns : List (Option Str)} {ρ : RE} {s s' : Shared} {M M' : Mp} {H H' : AH}
theorem kp_hide (L : Live C s.heap M) : Kp (C.wd s.heap M) (C.wd (hideAll s.heap C.fs) M) := ⟨fun b o e n hh => ⟨hideAll_get _ e (L.offFs e hh.nd), n⟩, ⟨[], by simp [wdOf]⟩, rfl⟩
theorem Exn.born {W : Addr → Prop} {e D : Addr} {c : Nat} {h' : Heap} (L : Live C s.heap M) (R : Rep C.S C.pv s.heap M H) (hX : C.S.X c = some D) (k : ∀ b o, s.heap.get? b = some o → h'.get? b = some o) (he : s.heap.get? e = none) (hr : Raw h' e D) : Exn C W s M e c { s with heap := h' } M H (hideAll s.heap C.fs) where
  keepB := fun b o e _ _ f => hideAll_get _ e f
  base := fun b o e => hideAll_get _ (L.stays b o e) (L.baseOff e).2
  rep := R.keep (l := C.pv.1) (kp_hide L) fun a f => by obtain ⟨o, ho⟩ := R.there f; rw [ho]; exact hideAll_get _ ho fun q => L.off a q f
  flt := by
    refine ⟨D, hX, fun b o e => k b o (of_hideAll _ e), ?_, ?_, .inl hr⟩
    · cases q : (hideAll s.heap C.fs).get? e with
      | none => rfl
      | some o => have := of_hideAll _ q; rw [he] at this; cases this
    · refine (funFrames_hide L.funs fun env he a hf => ?_).of_keeps fun b o e _ => ⟨o, k b o e, rfl⟩
      exact List.mem_filterMap.mpr ⟨env, he, hf⟩
  slots := fun b o e _ _ => ⟨o.slots, k b o e⟩
  alive := fun b o e => ⟨o, k b o e⟩
  pre := ⟨[], by simp⟩
  grow := fun _ q => .inl q
  gens := rfl
  os := rfl
  fresh := he
theorem EnvB.born {h' : Heap} (E : EnvB C env ns ρ s.heap s.heap M) (L : Live C s.heap M) (k : ∀ b o, s.heap.get? b = some o → h'.get? b = some o) : EnvB C env ns ρ h' (hideAll s.heap C.fs) M := by
  refine x2_1 (E) fun m cm E => ?_
  exact ⟨m, cm, E.keep rfl (fun _ q => q) (fun o ho => ⟨o.slots, k _ _ ho⟩) (fun n c o _ ho => k _ _ ho) (kp_hide L) fun _ _ _ _ n => n⟩
theorem own_elim {x : Str} {C : Addr} {bmB : List Value} {newId : String} {mg : Str → Option Value} {h : Heap} {P : Prop} (O : OwnCls x C bmB newId mg h) (k : ∀ tl N nm q bs hdct sn sub ab col dd k0 k1 k2 k3 k5 mN, h.get? C = some (excClassObj nm q C N bs tl hdct sn sub ab col dd k0 k1 k2 k3 k5 newId) → h.Ns N mN → mN "__init__" = none → OwnTail h bmB tl → P) : P := by
  obtain ⟨tl, N, nm, q, bs, hdct, sn, sub, ab, col, dd, k0, k1, k2, k3, k5, mN, hC, hN, hni, T⟩ := O.obj
  exact k tl N nm q bs hdct sn sub ab col dd k0 k1 k2 k3 k5 mN hC hN hni T
theorem sndS_raise (Y : Fit C.S G) {c : Nat} {cn : Str} {np cpos pos : Pos} {a : Expr} {v : AV} (hc : C.S.T.exs[c]? = some cn) (ha : Snd C env ns (cstE v) a) (hs : notStar a = true) (hk : env.kindOf cn = some .globalImplicit) (hdb : (cn == ("__debug__" : Str)) = false) :
    SndS C env ns (raiseS C.hot c) (.Raise (some (.Call (.Name cn np) [a] [] cpos)) none pos) := fun {ρ s M H} st => by
  show EvS C env ns _ s M (if C.hot = true then .bad else .exc c ρ H)
  split
  · trivial
  rename_i hot
  have hh := st.live.handled (by simpa using hot)
  refine x1_2 (Y.xn c cn hc) fun D hX e1 => ?_
  obtain ⟨e2, _⟩ := Y.exc c D hX
  have O := own_of_in C.S.hK C.S.hT e1 e2
  refine own_elim O fun tl N nm q bs hdct sn sub ab col dd k0 k1 k2 k3 k5 mN hC hN hni T => ?_
  have FB := PySem.F.excBase_ValueError
  refine raise_call (C := D) (nm := nm) (q := q) (N := N) (bs := bs) (bm := tl) (hdct := hdct) (sn := sn) (sub := sub) (ab := ab) (col := col) (dd := dd) (k0 := k0) (k1 := k1) (k2 := k2) (k3 := k3) (k5 := k5) FB FB.hasB FB (mN := mN) (T.hasType FB.hasBase) (back_plain [a] (by simp [hs])) hni ?_
  refine name_glob st hk hdb e1 ⟨rfl, ?_⟩
  rw [back_cons hs]
  refine Calls.evalArgs_plain (Calls.spliced_cons (wpAny_mono (show wpAny _ _ _ (Post VRel C s M v H) no1 s from ha st) (fun u s₁ po => ?_) fun _ _ q => q.elim))
  refine x1_3 (po) fun M₁ x1 rp1 _ => ?_; try clear po
  have st1 := st.step x1 rp1
  refine Calls.spliced_nil ⟨rfl, by show 1 ≤ sizeLine; decide +kernel, st1.live.stays _ _ hC, hN.keeps st1.live.stays, T.keeps st1.live.stays, fun h' e hm => ?_⟩
  refine x1_3 (hm.there) fun t ht _ _ => ?_
  refine wpAny_raiseNew_none hh ?_
  have hraw : Raw h' e D := ⟨_, _, ht, ⟨rfl, rfl⟩, rfl, by simp, by simp⟩
  have E1 : Exn C (OwnW env) s₁ M₁ e c { s₁ with heap := h' } M₁ H _ := Exn.born st1.live rp1 hX hm.keeps hm.new hraw
  exact PostSX.back x1.ofNo ⟨e, M₁, _, rfl, E1, st1.env.born st1.live hm.keeps⟩
end
theorem funFrames_base {h B base : Heap} (k : base.StaysIn B) : ∀ {l : List Env}, h.FunFrames B l → h.FunFrames base l
  | [], _ => trivial
  | env :: _, h => by
    obtain ⟨hk, ⟨L, o, hf, hn, ho, hd⟩, hr⟩ := h
    exact ⟨hk, ⟨L, o, hf, gone (fun b o e => ⟨o, k b o e⟩) hn, ho, hd⟩, funFrames_base k hr⟩
section
variable {C : Cx} {G : Gm} {env : Env} {ns : List (Option Str)} {W : Addr → Prop} {s s' : Shared} {M M' : Mp} {H H' : AH} {e : Addr} {c : Nat} {B : Heap} {ρ : RE}
theorem Exn.live (x : Exn C (OwnW env) s M e c s' M' H' B) (L : Live C s.heap M) (E : EnvB C env ns ρ s'.heap B M') : Live C s'.heap M' := by
  refine x1_2 (id x.flt) fun D hX fl => ?_
  exact
  { frames := L.frames
    funs := funFrames_base x.base fl.funs
    stays := fun b o e => fl.stays _ _ (x.base b o e)
    off := fun a ha => by
      obtain ⟨_, o, ho, _⟩ := L.funs.mem ha
      exact x.step.not ho (L.off a ha)
    new := fun a f => (x.grow a f).elim (L.new a) L.base0
    handled := L.handled
    dicts := fun b hb => by
      refine x2_1 (E) fun m cm E => ?_
      by_cases q : b = env.locals
      · refine x3_3 (E.loc) fun o es ep h1 h2 _ => ?_
        exact ⟨o, es, ep, q ▸ h1, h2⟩
      · refine x3_2 (L.dicts b hb) fun o es ep ho hd => ?_
        obtain ⟨sl, h1⟩ := x.slots b o ho hb fun z => z.elim q fun ⟨n, hc⟩ => (E.cell n b hc).2.1 hb
        exact ⟨_, es, ep, h1, hd⟩
    depth := L.depth
    units := L.units
    priv := fun a ha => by obtain ⟨o, ho⟩ := L.priv a ha; exact x.alive a o ho
    poff := fun a ha => by obtain ⟨o, ho⟩ := L.priv a (.inl ha); exact x.step.not ho (L.poff a ha) }
theorem Exn.off (x : Exn C W s M e c s' M' H' B) : ¬ foot M' e := fun f => by
  obtain ⟨o, ho⟩ := x.rep.there f
  refine x1_2 (id x.flt) fun D _ fl => ?_
  rw [fl.new] at ho; cases ho
theorem Flt.record {fe : List Env} {D : Addr} {h : Heap} (x : Flt B fe e D h) : ∃ o vs, h.get? e = some o ∧ (o.cls = .ref D ∧ o.dict = none) ∧ o.data = .fields vs := by
  rcases x.st with ⟨o, vs, a, b, c, _⟩ | ⟨fl, ⟨o, vs, T, oT, ts, a, b, c, _⟩, _⟩
  · exact ⟨o, vs, a, b, c⟩
  · exact ⟨o, vs, a, b, c⟩
noncomputable abbrev Cx.warm (C : Cx) (A : Around) : Cx := { C with A := A, hot := true }
theorem Exn.land (x : Exn C (OwnW env) s M e c s' M' H' B) (L : Live C s.heap M) (E : EnvB C env ns ρ s'.heap B M') : St (C.warm (C.A.mark (some (.ref e)))) env ns ρ s' M' H' := by
  have L' := x.live L E
  refine x1_2 (id x.flt) fun D _ fl => ?_
  refine ⟨⟨L'.frames, L'.funs, L'.stays, L'.off, L'.new, (fun q => nomatch q), L'.dicts, L'.depth, L'.units, L'.priv, L'.poff⟩, x.rep.ext fl.stays, ?_⟩
  refine x2_1 (E) fun m cm E => ?_
  exact ⟨m, cm, E.keep rfl (fun _ q => q) (fun o ho => ⟨o.slots, ho⟩) (fun n c o _ ho => ho) (kp_ext fl.stays) fun _ _ _ _ n => n⟩
theorem Step.warm {A : Around} (x : Step (C.warm A) W s M s' M') : Step C W s M s' M' := ⟨x.keep, x.slots, x.alive, x.pre, x.grow, x.gens, x.os⟩
theorem St.cool {A : Around} {h₀ : Heap} {M₀ : Mp} (L : Live C h₀ M₀) (st : St (C.warm A) env ns ρ s M H) : St C env ns ρ s M H := by
  obtain ⟨⟨_, a2, a3, a4, a5, _, a7, _, _, a10, a11⟩, b, m, cm, E⟩ := st
  exact ⟨⟨L.frames, a2, a3, a4, a5, L.handled, a7, L.depth, L.units, a10, a11⟩, b, m, cm, E.fn, E.glob, E.bns, E.loc, E.off, E.inj, E.len, E.has, E.cell, E.apart, E.var⟩
theorem gone_ok {i : Nat} {n : Str} {pos : Pos} {P : Unit → Shared → Prop} {E : Value → Shared → Prop} (st : St C env ns ρ s M H) (hx : ns[i]? = some (some n)) (hk : env.kindOf n = some .local)
    (h : ∀ s', Step C (OwnW env) s M s' M → St C env ns (ρ.set i none) s' M H → P () s') : wpAny C.S.M C.A (do bindName env n .none; unbindBehindTheSuite env n pos) P E s := by
  refine x2_1 (st.env) fun m cm En => ?_
  refine wpAny_nameGoes_keeps hk En.loc (by rw [En.fn]; rfl) (fun h' v hn' hs' => ?_)
  obtain ⟨x1, st1⟩ := local_turned (o := none) (tk := s.toks + 1) st En hx hk hn' hs' (fun b e => nomatch e) fun y hy => by simp [hy]
  exact h _ (x1.wider fun _ q => .inl q) st1
end
section
variable {M : Model} {A : Around} {E : Value → Shared → Prop} {s : Shared}
variable {nm q : Str} {D N : Addr} {bs bm : List Value} {hdct : Bool} {sn : List Str} {sub : List Value} {ab : Bool} {col : Option Bool} {dd : Option Addr} {k0 k1 k2 k3 k5 : Option Value} {newId : String}
theorem matches_in {K : Frag} {e : Addr} {oe : Obj} {t : Bool} {Q : Bool → Shared → Prop} (X : K.In s.heap) (hD : s.heap.get? D = some (excClassObj nm q D N bs bm hdct sn sub ab col dd k0 k1 k2 k3 k5 newId)) (hbase : bm.contains (.type "BaseException") = true)
    (he : s.heap.get? e = some oe) (hs : subIn K oe.cls (.ref D) = some t) (h : Q t s) : wpAny M A (excMatches (.ref e) (.ref D)) Q E s := by
  have hcB : (Value.ref D :: bm).contains (.type "BaseException") = true := by rw [List.contains_cons, hbase, Bool.or_true]
  obtain ⟨hp, g, dr, tk, os⟩ := s
  have f := tc_notTuple
  have L := looks_subIn (M := M) X hs
  unfold excMatches
  repeat (first | (with_reducible refine wpAny_loadPart_at he ?_) | with_reducible refine wpAny_loadPart_at hD ?_ | with_reducible refine Looks.at L ?_ | (with_reducible refine wpAny_isSubtype_exc hD ?_; rw [hcB]) | wp_step)
  cases t <;> (repeat (first | exact h | wp_step))
end
noncomputable def NameJ (env : Env) (ns : List (Option Str)) : Option Nat → Option Str → Prop
  | none, none => True
  | some i, some x => ns[i]? = some (some x) ∧ env.kindOf x = some .local
  | _, _ => False
inductive SndH (C : Cx) (env : Env) (ns : List (Option Str)) : List DH → List ExceptHandler → Prop
  | nil : SndH C env ns [] []
  | cons {d : Nat} {cn : Str} {np pos : Pos} {j : Option Nat} {nm : Option Str} {b : DS} {b₀ : Stmt} {suite : List Stmt} {r : List DH} {rest : List ExceptHandler} : C.S.T.exs[d]? = some cn → env.kindOf cn = some .globalImplicit → (cn == ("__debug__" : Str)) = false → NameJ env ns j nm →
      (∀ A, SndB (C.warm A) env ns b (b₀ :: suite)) → SndH C env ns r rest → SndH C env ns ((d, j, b) :: r) (.ExceptHandler (some (.Name cn np)) nm (b₀ :: suite) pos :: rest)
section
variable {C : Cx} {G : Gm} {env : Env} {ns : List (Option Str)} {s : Shared} {M : Mp} {H : AH}
theorem EvP.map {K K' : (Flow → Shared → Prop) → (Value → Shared → Prop) → Prop} {o : OutS} (h : EvP C env ns s M K o) (e : ∀ {P : Flow → Shared → Prop} {E : Value → Shared → Prop}, K P E → K' P E) : EvP C env ns s M K' o := by
  cases o with
  | bad => trivial
  | next ρ' H' => exact e h
  | ret a H' => exact e h
  | exc c ρ' H' => exact e h
noncomputable def suiteP (C : Cx) (env : Env) (e : Addr) (nm : Option Str) (b₀ : Stmt) (suite : List Stmt) (pos : Pos) (s' : Shared) (P : Flow → Shared → Prop) (E' : Value → Shared → Prop) : Prop :=
  codeAny C.S.M (C.A.mark (some (.ref e))) (.handlers (.ref e) [.ExceptHandler none nm (b₀ :: suite) pos] env) (fun r s₂ => match r with
          | .ok f => (match nm with
            | none => P f s₂
            | some n => wpAny C.S.M C.A (do bindName env n .none; unbindBehindTheSuite env n pos) (fun _ s₃ => P f s₃) E' s₂)
          | .error x => cameBackBy C.S.M C.A env E' x s₂) s'
theorem handlers_ok (Y : Fit C.S G) {hs : List DH} {l : List ExceptHandler} (T : SndH C env ns hs l) : ∀ {e D : Addr} {c : Nat} {ρ : RE} {s' : Shared} {M' : Mp} {H' : AH} {B : Heap}, Live C s.heap M → Exn C (OwnW env) s M e c s' M' H' B → C.S.X c = some D → Fly B s'.heap e D .none →
    EnvB C env ns ρ s'.heap B M' → EvP C env ns s M (fun P E => wpAny C.S.M C.A (handleBy (.ref e) env l) P E s') (handS G hs c ρ H') := by
  induction T with
  | nil => intro _ _ _ _ _ _ _ _ _ _ _ _ _; trivial
  | @cons d cn np pos j nm b b₀ suite r rest hd hk hdb hj hb T ih =>
    intro e D c ρ s' M' H' B L x hX f E
    refine EvP.orBad fun up hup => ?_
    have st := x.land L E
    refine x1_2 (Y.xn d cn hd) fun D2 hX2 e1 => ?_
    obtain ⟨e2, _⟩ := Y.exc d D2 hX2
    have hsub := Y.up c d D D2 up hX hX2 hup
    have O := own_of_in C.S.hK C.S.hT e1 e2
    refine own_elim O fun tl N nm' q bs hdct sn sub ab col dd k0 k1 k2 k3 k5 mN hC hN hni T' => ?_
    refine x1_2 (id x.flt) fun D' hX' fl => ?_
    rw [hX] at hX'; cases hX'
    obtain ⟨oe, vs, r1, ⟨r2, r2'⟩, r3⟩ := fl.record
    have front : ∀ {P : Flow → Shared → Prop} {E' : Value → Shared → Prop}, (if (up.any fun x => decide (x = d)) = true then suiteP C env e nm b₀ suite pos s' P E' else wpAny C.S.M C.A (handleBy (.ref e) env rest) P E' s') → wpAny C.S.M C.A (handleBy (.ref e) env (.ExceptHandler (some (.Name cn np)) nm (b₀ :: suite) pos :: rest)) P E' s' := fun {P E'} h => by
      refine wpAny_handleBy_cons (codeAny_handlers_test (name_glob (C := C.warm (C.A.mark (some (.ref e)))) st hk hdb e1 ?_)) (by intro q; cases q)
      refine matches_in (C.S.hK.keeps st.live.stays) (st.live.stays _ _ hC) (T'.hasType PySem.F.excBase_ValueError.hasBase) r1 (by rw [r2]; exact hsub) ?_
      generalize (up.any fun x => decide (x = d)) = t at h
      cases t with
      | false => exact h
      | true => exact h
    refine EvP.map (K := fun P E' => if (up.any fun x => decide (x = d)) = true then suiteP C env e nm b₀ suite pos s' P E' else wpAny C.S.M C.A (handleBy (.ref e) env rest) P E' s') ?_ front
    cases ht : (up.any fun x => decide (x = d)) with
    | false => exact ih L x hX f E
    | true =>
      show EvP C env ns s M (fun P E' => suiteP C env e nm b₀ suite pos s' P E') (dropJ j (b (giveJ ρ c j) H'))
      -- the trace is let go once more
      have suite_ok : ∀ {P : Unit → Shared → Prop} {E' : Value → Shared → Prop}, (∀ h', Exn C (OwnW env) s M e c { s' with heap := h' } M' H' B → EnvB C env ns ρ h' B M' → P () { s' with heap := h' }) → wpAny C.S.M (C.A.mark (some (.ref e))) (setFlight (.ref e) none) P E' s' := fun {P E'} h =>
        flight_ok (fr := none) fl.funs fl.stays f fun h' z f' => h h' (x.stn hX fl.new fl.funs z f' (.inl rfl)) (E.stn z)
      have hB : ∀ {s₁ : Shared} {M₁ : Mp}, St (C.warm (C.A.mark (some (.ref e)))) env ns (giveJ ρ c j) s₁ M₁ H' → EvS (C.warm (C.A.mark (some (.ref e)))) env ns (execs (b₀ :: suite) env) s₁ M₁ (b (giveJ ρ c j) H') := fun st => hb _ st
      generalize b (giveJ ρ c j) H' = ob at hB
      cases j with
      | some i =>
        cases nm with
        | none => exact hj.elim
        | some n =>
            obtain ⟨hi, hl⟩ : ns[i]? = some (some n) ∧ env.kindOf n = some .local := hj
            have bound : ∀ {h' : Heap} {P : Unit → Shared → Prop} {E₂ : Value → Shared → Prop}, Exn C (OwnW env) s M e c { s' with heap := h' } M' H' B → EnvB C env ns ρ h' B M' → (∀ s₁, Step C (OwnW env) s M s₁ M' → St (C.warm (C.A.mark (some (.ref e)))) env ns (ρ.set i (some (.exc c))) s₁ M' H' → P () s₁) → wpAny C.S.M (C.A.mark (some (.ref e))) (storeName env n (.ref e)) P E₂ { s' with heap := h' } := fun {h' P E₂} x' E' h => by
              have st' := x'.land L E'
              obtain ⟨D', hX', fl'⟩ := id x'.flt
              obtain ⟨oe', vs', p1, ⟨p2, p2'⟩, p3⟩ := fl'.record
              refine store_ok st' hi (.inl hl) (a := .exc c) (.exc (D := D') ⟨oe', vs', p1, p2, p2', p3⟩ hX' fun q => q.elim x'.off fun q => ?_) fun s₁ y1 st1 => h s₁ (x'.step.trans y1.warm) st1
              obtain ⟨o, ho⟩ := L.priv e (.inl q)
              rw [x'.fresh] at ho; cases ho
            cases ob with
            | bad => trivial
            | exc _ _ _ => trivial
            | next ρ₂ H₂ =>
              refine codeAny_handlers_suite_as (suite_ok fun h' x' E' => bound x' E' fun s₁ y1 st1 => ?_)
              refine wpAny_mono (hB st1) (fun fl s₂ y_1 => y1_2 y_1 fun q M₂ y st2 => gone_ok (st2.cool L) hi hl fun s₃ y3 st3 => ?_) fun _ _ q => q.elim
              exact ⟨q, M₂, (y1.trans y.warm).trans y3, st3⟩
            | ret a H₂ =>
              refine codeAny_handlers_suite_as (suite_ok fun h' x' E' => bound x' E' fun s₁ y1 st1 => ?_)
              refine wpAny_mono (hB st1) (fun fl s₂ z_1 => x3_4 z_1 fun v ρ₂ M₂ q y st2 rv => gone_ok (st2.cool L) hi hl fun s₃ y3 st3 => ?_) fun _ _ q => q.elim
              have sc := st2.cool L
              obtain ⟨m2, cm2, En2⟩ := sc.env
              exact ⟨v, _, M₂, q, (y1.trans y.warm).trans y3, st3, rv.keep (y3.kp sc.live En2.vars)⟩
      | none =>
        cases nm with
        | some n => exact hj.elim
        | none =>
          cases ob with
          | bad => trivial
          | exc _ _ _ => trivial
          | next ρ₂ H₂ =>
            refine codeAny_handlers_suite (suite_ok fun h' x' E' => ?_)
            have st' := x'.land L E'
            exact wpAny_mono (hB st') (fun fl s₂ y_6 => y1_2 y_6 fun q M₂ y st2 => ⟨q, M₂, x'.step.trans y.warm, st2.cool L⟩) fun _ _ q => q.elim
          | ret a H₂ =>
            refine codeAny_handlers_suite (suite_ok fun h' x' E' => ?_)
            have st' := x'.land L E'
            exact wpAny_mono (hB st') (fun fl s₂ z_25 => x3_4 z_25 fun v ρ₂ M₂ q y st2 rv => ⟨v, ρ₂, M₂, q, x'.step.trans y.warm, st2.cool L, rv⟩) fun _ _ q => q.elim
theorem sndS_try (Y : Fit C.S G) (hd : HeadAt C env) {b : DS} {hs : List DH} {b' : List Stmt} {h₀ : ExceptHandler} {l : List ExceptHandler} {pos : Pos} (hb : SndB C env ns b b') (T : SndH C env ns hs (h₀ :: l)) : SndS C env ns (tryS C.hot G b hs) (.Try b' (h₀ :: l) [] [] pos) := fun {ρ s M H} st => by
  have A := hb st
  show EvS C env ns _ s M (if C.hot = true then .bad else match b ρ H with | .exc c ρ₁ H₁ => handS G hs c ρ₁ H₁ | o => o)
  split
  · trivial
  generalize b ρ H = ob at A
  cases ob with
  | bad => trivial
  | next ρ₂ H₂ => exact wpAny_Try_except (wpAny_mono A (fun fl s₁ ⟨q, z⟩ => by subst q; exact wpAny_pure ⟨rfl, z⟩) fun _ _ q => q.elim)
  | ret a H₂ => exact wpAny_Try_except (wpAny_mono A (fun fl s₁ z_1 => x3_2 z_1 fun v ρ₂ M₂ q z => by subst q; exact ⟨v, ρ₂, M₂, rfl, z⟩) fun _ _ q => q.elim)
  | exc c ρ₂ H₂ =>
    show EvS C env ns _ s M (handS G hs c ρ₂ H₂)
    refine EvS.of (evp_iff fun hne => ?_) fun z => wpAny_Try_except z
    refine wpAny_mono A (fun _ _ q => q.elim) fun ev s₁ z_26 => x3_3 z_26 fun e M' B q x E => ?_
    subst q
    refine x.noted hd st.live.frames fun h' D L hX hn hf hst hh hL z f x' => ?_
    refine flight_ok (fr := none) hf hst f fun h'' z' f' => ?_
    have := handlers_ok Y T st.live (x'.stn hX hn hf z' f' (.inl rfl)) hX f' ((E.stn z).stn z')
    generalize handS G hs c ρ₂ H₂ = o at this hne
    cases o with
    | bad => exact absurd rfl hne
    | _ => exact this
end
structure Dl where
  sc : List (Str × NameKind)
  ns : List (Option Str)
  mts : List (Nat × Nat × Nat)
noncomputable def mtAt (D : Dl) (p : Pos) : Bool := D.mts.any fun q => q.1 == p.line && q.2.1 == p.col && q.2.2 == p.endCol
noncomputable def glob (D : Dl) (x : Str) : Bool := D.sc.lookup x == some .globalImplicit && !(x == ("__debug__" : Str)) && !(x == ("__name__" : Str))
noncomputable def compOK (D : Dl) (x : Str) (sc : Scope) : Bool :=
  sc.kind == .function && sc.names.lookup x == some .local && (sc.names.all fun y => y.2 != .cell) && (sc.names.all fun y => y.2 != .local || sc.names.lookup y.1 == some .local) &&
  (sc.names.all fun y => y.2 != .free || D.sc.lookup y.1 == some .cell || D.sc.lookup y.1 == some .free)
noncomputable def ixOf {α : Type} [BEq α] (x : α) : List α → Nat → Option Nat
  | [], _ => none
  | o :: r, i => if o == x then some i else ixOf x r (i + 1)
noncomputable def orE {β : Type} (o : Option β) (f : β → DE) : DE := match o with
  | some b => f b
  | none => badE
noncomputable def nameE (T : Tb) (D : Dl) (x : Str) : DE := if x == ("__debug__" : Str) || x == ("__classdict__" : Str) then badE else match ixOf (some x) D.ns 0 with
  | some i => varE i
  | none => if glob D x then orE (T.gi.lookup x) fun i => cstE (.int i) else badE
noncomputable def biTab (mt : Bool) : List (Str × Bi) := [("len", .len), ("range", .range), ("list", .list mt), ("min", .min), ("max", .max), ("sum", .sum), ("int", .int), ("sorted", .sorted)]
noncomputable def bmTab : List (Str × Bm) := [("append", .append), ("extend", .extend), ("clear", .clear), ("get", .get), ("pop", .pop), ("join", .join)]
noncomputable def tyTab : List (Str × Ty) := [("int", .int), ("bool", .bool), ("str", .str), ("tuple", .tup), ("list", .lst), ("ValueError", .val)]
noncomputable def nameOf : Expr → Option (Str × Pos)
  | .Name x p => some (x, p)
  | _ => none
noncomputable def tyE (T : Tb) (D : Dl) (e : Expr) : Option Ty := (nameOf e).bind fun x => if glob D x.1 then (match tyTab.lookup x.1 with | some t => some t | none => (ixOf x.1 T.exs 0).map .exc) else none
noncomputable def nameCall (T : Tb) (G : Gm) (Φ : FT) (hot : Bool) (D : Dl) (x : Str) (p : Pos) (args : List Expr) (as : List DE) : DE :=
  if args.all notStar && glob D x then
    (if x == ("isinstance" : Str) then (match args, as with
      | [_, t], [a, _] => orE (tyE T D t) fun t => isiE G a [t]
      | _, _ => badE)
    else match (biTab (mtAt D p)).lookup x with
      | some b => biE hot b as
      | none => match ixOf (some x) T.fns 0 with
        | some i => callE Φ i as
        | none => orE (ixOf x T.cls 0) fun c => newE G Φ c as) else badE
noncomputable def attrCall (T : Tb) (G : Gm) (Φ : FT) (o' : Expr) (o : DE) (m : Str) (line : Bool) (args : List Expr) (as : List DE) : DE :=
  if plainBase o' && args.all notStar && line && decide (args.length < 20) then (match ixOf m T.mn 0 with
    | some k => moE G Φ k o as
    | none => orE (bmTab.lookup m) fun b => mbE b o as) else badE
noncomputable def altE {β : Type} (o : Option β) (f : β → DE) (g : DE) : DE := match o with
  | some b => f b
  | none => g
noncomputable def attOf : Expr → Option (Expr × Str × Pos)
  | .Attribute o m p => some (o, m, p)
  | _ => none
noncomputable def slOf : Expr → Option (Option Expr × Option Expr × Option Expr × Pos)
  | .Slice a b c p => some (a, b, c, p)
  | _ => none
noncomputable def genOf : List Comprehension → Option ((Str × Pos) × Comprehension)
  | [g] => (nameOf g.target).map (·, g)
  | _ => none
noncomputable def plainT : Expr → Bool
  | .UnaryOp op _ _ => op != .Not
  | .BoolOp .. => false
  | .IfExp .. => false
  | .Compare .. => false
  | _ => true
noncomputable abbrev Dl.inner (D : Dl) (x : Str) (sc : Scope) : Dl := ⟨relN D.sc sc.names, nsC D.ns sc.names x, D.mts⟩
noncomputable def toE (T : Tb) (G : Gm) (Φ : FT) (hot : Bool) : Nat → Dl → Expr → DE
  | 0, _, _ => badE
  | n + 1, D, e => match e with
    | .Constant k _ _ => orE (constA k) cstE
    | .Name x _ => nameE T D x
    | .BinOp l op r p => binE (mtAt D p) op (toE T G Φ hot n D l) (toE T G Φ hot n D r)
    | .UnaryOp op x _ => (match op with
      | .USub => negE (toE T G Φ hot n D x)
      | .Not => ntE (toE T G Φ hot n D x)
      | _ => badE)
    | .IfExp t a b _ => ifeE (toE T G Φ hot n D t) (toE T G Φ hot n D a) (toE T G Φ hot n D b)
    | .BoolOp op es _ => bopE (op == .And) (es.map (toE T G Φ hot n D))
    | .Compare l ops rs _ => if rs.all notSet && decide (ops.length = rs.length) then cmpE (toE T G Φ hot n D l) ops (rs.map (toE T G Φ hot n D)) else badE
    | .Call f args ks p => if ks.isEmpty then altE (nameOf f) (fun x => nameCall T G Φ hot D x.1 p args (args.map (toE T G Φ hot n D)))
        (orE (attOf f) fun y => attrCall T G Φ y.1 (toE T G Φ hot n D y.1) y.2.1 (y.2.2.endLine == p.line) args (args.map (toE T G Φ hot n D))) else badE
    | .Attribute o x _ => if plainBase o then orE (ixOf x T.an 0) fun k => attrE k (toE T G Φ hot n D o) else badE
    | .Subscript o i p => altE (slOf i) (fun y => slcE (mtAt D p) (toE T G Φ hot n D o) ((y.1.map (toE T G Φ hot n D)).getD (cstE .none)) ((y.2.1.map (toE T G Φ hot n D)).getD (cstE .none)) ((y.2.2.1.map (toE T G Φ hot n D)).getD (cstE .none)))
      (subE (toE T G Φ hot n D o) (toE T G Φ hot n D i))
    | .List es p => if es.all notStar then lstE (mtAt D p) (es.map (toE T G Φ hot n D)) else badE
    | .Tuple es _ _ => if es.all notStar then tupE (es.map (toE T G Φ hot n D)) else badE
    | .Dict ks vs _ => (match ks, vs with
      | [], [] => dct0E
      | [some k, some k'], [v, v'] => dct2E (toE T G Φ hot n D k) (toE T G Φ hot n D v) (toE T G Φ hot n D k') (toE T G Φ hot n D v')
      | _, _ => badE)
    | .ListComp elt gens sc p => orE (genOf gens) fun g => if decide (g.2.is_async = 0) && (notSet g.2.iter && compOK D g.1.1 sc && decide (g.2.ifs.length ≤ 1)) then
          compE hot (mtAt D p) (toE T G Φ hot n (D.inner g.1.1 sc) elt) (toE T G Φ hot n D g.2.iter) ((g.2.ifs.head?.map (toE T G Φ hot n (D.inner g.1.1 sc))).getD (cstE (.bool true))) else badE
    | _ => badE
theorem nameOf_eq {e : Expr} {x : Str × Pos} (h : nameOf e = some x) : e = .Name x.1 x.2 := by
  cases e with
  | Name x p => cases h; rfl
  | _ => exact no_some h
theorem attOf_eq {e : Expr} {x : Expr × Str × Pos} (h : attOf e = some x) : e = .Attribute x.1 x.2.1 x.2.2 := by
  cases e with
  | Attribute o m p => cases h; rfl
  | _ => exact no_some h
theorem slOf_eq {e : Expr} {x : Option Expr × Option Expr × Option Expr × Pos} (h : slOf e = some x) : e = .Slice x.1 x.2.1 x.2.2.1 x.2.2.2 := by
  cases e with
  | Slice a b c p => cases h; rfl
  | _ => exact no_some h
theorem slOf_no {e : Expr} (h : slOf e = none) : notSlice e = true := by
  cases e with
  | Slice a b c p => cases h
  | _ => rfl
theorem genOf_eq {l : List Comprehension} {g : (Str × Pos) × Comprehension} (h : genOf l = some g) : l = [⟨.Name g.1.1 g.1.2, g.2.iter, g.2.ifs, g.2.is_async⟩] := by
  match l, h with
  | [⟨t, it, ifs, a⟩], h =>
    refine x1_2 (Option.map_eq_some_iff.mp h) fun x h1 h => ?_
    cases h
    obtain rfl : t = _ := nameOf_eq h1
    rfl
theorem ixOf_at {α : Type} [BEq α] [LawfulBEq α] {x : α} : ∀ (l : List α) (i j : Nat), ixOf x l i = some j → ∃ k, j = i + k ∧ l[k]? = some x
  | [], _, _, h => nomatch h
  | o :: r, i, j, h => by
    have h : (if (o == x) = true then some i else ixOf x r (i + 1)) = some j := h
    split at h
    · rename_i q; cases h; exact ⟨0, rfl, by simpa using q⟩
    · refine x1_2 (ixOf_at r (i + 1) j h) fun k e h => ?_
      exact ⟨k + 1, by lia, h⟩
theorem ixOf_ok {α : Type} [BEq α] [LawfulBEq α] {x : α} {l : List α} {j : Nat} (h : ixOf x l 0 = some j) : l[j]? = some x := by
  refine x1_2 (ixOf_at l 0 j h) fun k e h => ?_
  rw [e, Nat.zero_add]; exact h
theorem lookup_mem {β : Type} {x : Str} {b : β} : ∀ {l : List (Str × β)}, l.lookup x = some b → (x, b) ∈ l
  | [], h => nomatch h
  | y :: r, h => by
    rw [List.lookup_cons] at h
    split at h
    · rename_i q; rw [beq_iff_eq] at q; cases h; rw [q]; exact .head _
    · exact .tail _ (lookup_mem h)
section
variable {C : Cx} {G : Gm} {Φ : FT} {env : Env} {D : Dl}
theorem if_snd {ns : List (Option Str)} {b : Bool} {x : DE} {e : Expr} (h : b = true → Snd C env ns x e) : Snd C env ns (if b = true then x else badE) e := by
  split
  · exact h ‹_›
  · exact snd_bad
theorem alt_snd {β : Type} {ns : List (Option Str)} {o : Option β} {f : β → DE} {g : DE} {e : Expr} (h : ∀ b, o = some b → Snd C env ns (f b) e) (h' : o = none → Snd C env ns g e) : Snd C env ns (altE o f g) e := by
  cases o with
  | none => exact h' rfl
  | some b => exact h b rfl
theorem opt_snd {β : Type} {ns : List (Option Str)} {o : Option β} {f : β → DE} {e : Expr} (h : ∀ b, o = some b → Snd C env ns (f b) e) : Snd C env ns (orE o f) e := by
  cases o with
  | none => exact snd_bad
  | some b => exact h b rfl
theorem glob_env {x : Str} (he : env.scope.names = D.sc) (h : glob D x = true) : env.kindOf x = some .globalImplicit ∧ (x == ("__debug__" : Str)) = false ∧ x ≠ "__name__" := by
  unfold glob at h
  simp only [Bool.and_eq_true, Bool.not_eq_true', beq_iff_eq] at h
  obtain ⟨⟨a, b⟩, c⟩ := h
  exact ⟨by unfold Env.kindOf; rw [he]; exact a, b, by simpa using c⟩
theorem compAt_of {x : Str} {sc : Scope} (he : env.scope.names = D.sc) (h : compOK D x sc = true) : CompAt env x sc := by
  unfold compOK at h
  simp only [Bool.and_eq_true, beq_iff_eq, List.all_eq_true, bne_iff_ne, Bool.or_eq_true] at h
  refine w5 h fun h1 h3 h4 h5 h6 => ?_
  refine ⟨h1, h3, h4, fun y hy q => (h5 y hy).resolve_left fun z => z q, fun y hy q => ?_⟩
  unfold Env.kindOf
  rw [he]
  rcases h6 y hy with (z | z) | z
  · exact absurd q z
  · exact .inl z
  · exact .inr z
theorem name_snd (Y : Fit C.S G) {x : Str} {p : Pos} (he : env.scope.names = D.sc) : Snd C env D.ns (nameE C.S.T D x) (.Name x p) := by
  unfold nameE
  split
  · exact snd_bad
  · rename_i q
    simp only [Bool.or_eq_true, not_or, Bool.not_eq_true] at q
    split
    · rename_i i e; exact snd_var (ixOf_ok e) q.1 q.2
    · refine if_snd fun h => opt_snd fun i hi => ?_
      obtain ⟨g1, g2, g3⟩ := glob_env he h
      obtain ⟨t, e⟩ := Y.gi x i (lookup_mem hi)
      exact snd_gv g1 g2 e
theorem all_cons {α : Type} {p : α → Prop} {a : α} {l : List α} (h : p a) (t : ∀ x ∈ l, p x) : ∀ x ∈ a :: l, p x := fun x hx => by
  cases hx with
  | head => exact h
  | tail _ hx => exact t x hx
theorem all_nil {α : Type} {p : α → Prop} : ∀ x ∈ ([] : List α), p x := fun _ h => nomatch h
theorem bi_tab {mt : Bool} : ∀ y ∈ biTab mt, bootBuiltins y.1 = some (biV y.2) ∧ y.1 ∈ biNames :=
  all_cons ⟨by kernel_rfl, show ("len" : Str) ∈ biNames by decide⟩ (all_cons ⟨by kernel_rfl, show ("range" : Str) ∈ biNames by decide⟩ (all_cons ⟨by kernel_rfl, show ("list" : Str) ∈ biNames by decide⟩ (all_cons ⟨by kernel_rfl, show ("min" : Str) ∈ biNames by decide⟩ (all_cons ⟨by kernel_rfl, show ("max" : Str) ∈ biNames by decide⟩ (all_cons ⟨by kernel_rfl, show ("sum" : Str) ∈ biNames by decide⟩ (all_cons ⟨by kernel_rfl, show ("int" : Str) ∈ biNames by decide⟩ (all_cons ⟨by kernel_rfl, show ("sorted" : Str) ∈ biNames by decide⟩ all_nil)))))))
theorem bm_tab : ∀ y ∈ bmTab, y.2.name = y.1 := all_cons rfl (all_cons rfl (all_cons rfl (all_cons rfl (all_cons rfl (all_cons rfl all_nil)))))
theorem ty_tab {T : Tb} : ∀ y ∈ tyTab, tyN T y.2 = some y.1 := all_cons rfl (all_cons rfl (all_cons rfl (all_cons rfl (all_cons rfl (all_cons rfl all_nil)))))
theorem ty_ok {T : Tb} (he : env.scope.names = D.sc) {e : Expr} {ty : Ty} (h : tyE T D e = some ty) : ∃ x p, e = .Name x p ∧ env.kindOf x = some .globalImplicit ∧ (x == ("__debug__" : Str)) = false ∧ x ≠ "__name__" ∧ tyN T ty = some x := by
  obtain ⟨y, h1, h⟩ := Option.bind_eq_some_iff.mp h
  split at h
  · rename_i q
    refine x0_3 (glob_env he q) fun g1 g2 g3 => ?_
    cases q' : tyTab.lookup y.1 with
    | some t => rw [q'] at h; cases h; exact ⟨y.1, y.2, nameOf_eq h1, g1, g2, g3, ty_tab _ (lookup_mem q')⟩
    | none =>
      rw [q'] at h
      refine x1_2 (Option.map_eq_some_iff.mp h) fun c hc e => ?_
      rw [← e]
      exact ⟨y.1, y.2, nameOf_eq h1, g1, g2, g3, ixOf_ok hc⟩
  · cases h
variable {d : Nat}
theorem nameCall_snd (Y : Fit C.S G) (F : FOK C.S C.hot d Φ) (hd : d + 1 ≤ C.d) {f : Expr → DE} (h : ∀ e, Snd2 C env D.ns (f e) e) (he : env.scope.names = D.sc) {x : Str} {args : List Expr} {p p' : Pos} :
    Snd C env D.ns (nameCall C.S.T G Φ C.hot D x p args (args.map f)) (.Call (.Name x p') args [] p) := by
  unfold nameCall
  apply if_snd
  intro q
  rw [Bool.and_eq_true] at q
  obtain ⟨g1, g2, g3⟩ := glob_env he q.2
  split
  · rename_i q1
    rw [beq_iff_eq] at q1
    subst q1
    rcases args with _ | ⟨a, _ | ⟨t, _ | ⟨_, _⟩⟩⟩ <;> first | exact snd_bad | skip
    refine opt_snd fun ty hty => ?_
    refine x2_5 (ty_ok (T := C.S.T) he hty) fun y py e1 k1 k2 k3 k4 => ?_
    subst e1
    exact snd_isi Y g1 (h a).1 (by have := q.1; rw [List.all_cons, Bool.and_eq_true] at this; exact this.1) k1 k2 k3 k4
  · split
    · rename_i b hb
      obtain ⟨h1, h2⟩ : bootBuiltins x = some (biV b) ∧ x ∈ biNames := bi_tab _ (lookup_mem hb)
      exact snd_bi Y h g1 g2 g3 h2 h1 q.1
    · split
      · rename_i i hi; exact snd_call Y F (Nat.le_of_succ_le hd) h g1 g2 (ixOf_ok hi) q.1
      · exact opt_snd fun c hc => snd_new Y F hd h g1 g2 (ixOf_ok hc) q.1
theorem attrCall_snd (Y : Fit C.S G) (F : FOK C.S C.hot d Φ) (hd : d + 1 ≤ C.d) {f : Expr → DE} (h : ∀ e, Snd2 C env D.ns (f e) e) {o : Expr} {m : Str} {ap : Pos} {args : List Expr} {p : Pos} :
    Snd C env D.ns (attrCall C.S.T G Φ o (f o) m (ap.endLine == p.line) args (args.map f)) (.Call (.Attribute o m ap) args [] p) := by
  unfold attrCall
  refine if_snd fun q => ?_
  simp only [Bool.and_eq_true, decide_eq_true_eq] at q
  obtain ⟨⟨⟨q1, q2⟩, q3⟩, q4⟩ := q
  split
  · rename_i k hk; exact snd_mo Y F (Nat.le_of_succ_le hd) h (ixOf_ok hk) q1 q2 q4 q3
  · refine opt_snd fun b hb => ?_
    obtain rfl : b.name = m := bm_tab _ (lookup_mem hb)
    exact snd_mb h q1 q2 q4 q3
theorem val2 {ns : List (Option Str)} {f : DE} {e : Expr} (h : Snd C env ns f e) (hp : plainT e = true) : Snd2 C env ns f e :=
  ⟨h, sndT_value h (isTrue_value (fun _ _ q => by rw [q] at hp; cases hp) (fun _ _ _ q => by rw [q] at hp; cases hp) (fun _ _ _ _ q => by rw [q] at hp; cases hp) (fun _ _ _ _ q => by rw [q] at hp; cases hp))⟩
theorem sndT_ife {ns : List (Option Str)} {t a b : DE} {t' a' b' : Expr} {p : Pos} (ht : SndT C env ns t t') (ha : SndT C env ns a a') (hb : SndT C env ns b b') : SndT C env ns (ifeE t a b) (.IfExp t' a' b' p) := fun {ρ s M H} st => by
  show Ev EqR C (isTrue t' env (eval t' env) >>= fun c => if c = true then isTrue a' env (eval a' env) else isTrue b' env (eval b' env)) s M _
  have : tst (ifeE t a b) ρ H = (tst t ρ H).bind fun c H₁ => if c then tst a ρ H₁ else tst b ρ H₁ := by
    simp only [tst, ifeE, bind_bind, asBool_bind]
    congr 1; funext x H₁; congr 1; funext c; cases c <;> rfl
  rw [this]
  refine (ht st).then fun c H₁ v s₁ M₁ x1 rp1 rc => ?_
  cases rc
  cases c
  · exact hb (st.step x1 rp1)
  · exact ha (st.step x1 rp1)
theorem toE_comp {T : Tb} {hot : Bool} {n : Nat} {elt : Expr} {gens : List Comprehension} {sc : Scope} {p : Pos} : toE T G Φ hot (n + 1) D (.ListComp elt gens sc p) = orE (genOf gens) fun g => if (decide (g.2.is_async = 0) && (notSet g.2.iter && compOK D g.1.1 sc && decide (g.2.ifs.length ≤ 1))) = true then
    compE hot (mtAt D p) (toE T G Φ hot n (D.inner g.1.1 sc) elt) (toE T G Φ hot n D g.2.iter) ((g.2.ifs.head?.map (toE T G Φ hot n (D.inner g.1.1 sc))).getD (cstE (.bool true))) else badE := rfl
structure CompSnd (C : Cx) (env : Env) (ns : List (Option Str)) (elt it cond : DE) (elt' it' : Expr) (ifs : List Expr) (x : Str) (sc : Scope) : Prop where
  itr : Snd C env ns it it'
  nset : notSet it' = true
  names : CompAt env x sc
  item : ∀ pv (env' : Env), env'.scope.names = relN env.scope.names sc.names → Snd (C.withPv pv) env' (nsC ns sc.names x) elt elt'
  tests : ∀ pv (env' : Env), env'.scope.names = relN env.scope.names sc.names → TestsOK (C.withPv pv) env' (nsC ns sc.names x) cond ifs
theorem comp_of {n : Nat} {x : Str} {sc : Scope} {it elt : Expr} {ifs : List Expr} (he : env.scope.names = D.sc) (ih : ∀ pv (D : Dl) (env : Env) (e : Expr), env.scope.names = D.sc → Snd2 (C.withPv pv) env D.ns (toE C.S.T G Φ C.hot n D e) e)
    (h : (notSet it && compOK D x sc && decide (ifs.length ≤ 1)) = true) : CompSnd C env D.ns (toE C.S.T G Φ C.hot n (D.inner x sc) elt) (toE C.S.T G Φ C.hot n D it) ((ifs.head?.map (toE C.S.T G Φ C.hot n (D.inner x sc))).getD (cstE (.bool true))) elt it ifs x sc := by
  rw [Bool.and_eq_true, Bool.and_eq_true, decide_eq_true_eq] at h
  refine ⟨(ih C.pv D env it he).1, h.1.1, compAt_of he h.1.2, fun pv env' he' => (ih pv (D.inner x sc) env' elt (by rw [he', he])).1, fun pv env' he' => ?_⟩
  rcases ifs with _ | ⟨c, _ | ⟨_, _⟩⟩
  · exact tests_nil
  · exact tests_one (ih pv (D.inner x sc) env' c (by rw [he', he])).2
  · have := h.2; simp at this
theorem toE_ok : ∀ (n : Nat) {C : Cx} (Y : Fit C.S G) (F : FOK C.S C.hot d Φ) (hd : d + 1 ≤ C.d) (D : Dl) (env : Env) (e : Expr), env.scope.names = D.sc → Snd2 C env D.ns (toE C.S.T G Φ C.hot n D e) e
  | 0, _, _, _, _, _, _, _, _ => bad_ok
  | n + 1, C, Y, F, hd, D, env, e, he => by
    have ih : ∀ e, Snd2 C env D.ns (toE C.S.T G Φ C.hot n D e) e := fun e => toE_ok n Y F hd D env e he
    have v : ∀ {y : DE} {e : Expr}, Snd C env D.ns y e → plainT e = true → Snd2 C env D.ns y e := val2
    cases e with
    | UnaryOp op x p =>
      cases op with
      | USub => exact v (snd_neg (ih x).1) rfl
      | Not => exact ⟨snd_nt (ih x).1, sndT_nt (ih x).2⟩
      | _ => exact bad_ok
    | IfExp t a b p => exact ⟨snd_ife (ih t).2 (ih a).1 (ih b).1, sndT_ife (ih t).2 (ih a).2 (ih b).2⟩
    | BoolOp op es p =>
      have e : op = opOf (op == .And) := by cases op <;> rfl
      show Snd2 C env D.ns (bopE (op == .And) _) _
      rw [congrArg (fun o => Expr.BoolOp o es p) e]
      exact snd_bop ih
    | Compare l ops rs p =>
      show Snd2 C env D.ns (if (rs.all notSet && decide (ops.length = rs.length)) = true then cmpE (toE C.S.T G Φ C.hot n D l) ops (rs.map (toE C.S.T G Φ C.hot n D)) else badE) _
      split
      · rename_i q
        rw [Bool.and_eq_true, decide_eq_true_eq] at q
        exact snd_cmp ih q.1 q.2
      · exact bad_ok
    | Constant k kd p => exact v (opt_snd fun a ha => snd_cst ha) rfl
    | Name x p => exact v (name_snd Y he) rfl
    | BinOp l op r p => exact v (snd_bin (ih l).1 (ih r).1) rfl
    | Call f args ks p =>
      refine v ?_ rfl
      refine if_snd fun q => ?_
      rw [List.isEmpty_iff] at q
      subst q
      refine alt_snd (fun x hx => ?_) fun _ => opt_snd fun y hy => ?_
      · rw [nameOf_eq hx]; exact nameCall_snd Y F hd ih he
      · rw [attOf_eq hy]; exact attrCall_snd Y F hd ih
    | Attribute o x p =>
      refine v ?_ rfl
      exact if_snd fun q => opt_snd fun k hk => snd_attr Y (ih o).1 (ixOf_ok hk) q
    | Subscript o i p =>
      refine v ?_ rfl
      refine alt_snd (fun x hx => ?_) fun hn => snd_sub (ih o).1 (ih i).1 (slOf_no hn)
      rw [slOf_eq hx]; exact snd_slc (ih o).1 (snd_opt ih _) (snd_opt ih _) (snd_opt ih _)
    | List es p =>
      refine v ?_ rfl
      exact if_snd fun q => snd_lst ih q
    | Tuple es k p =>
      refine v ?_ rfl
      exact if_snd fun q => snd_tup ih q
    | Dict ks vs p =>
      refine v ?_ rfl
      rcases ks with _ | ⟨_ | k, _ | ⟨_ | k', _ | ⟨_, _⟩⟩⟩ <;> rcases vs with _ | ⟨w, _ | ⟨w', _ | ⟨_, _⟩⟩⟩ <;> first | exact snd_bad | exact snd_dct0 | exact snd_dct2 (ih k).1 (ih w).1 (ih k').1 (ih w').1
    | ListComp elt gens sc p =>
      refine v ?_ rfl
      refine opt_snd fun g hg => if_snd fun q => ?_
      rw [Bool.and_eq_true, decide_eq_true_eq] at q
      rw [genOf_eq hg, q.1]
      have Z := comp_of (C := C) (G := G) (Φ := Φ) (elt := elt) he (fun pv D env e he => toE_ok n (C := C.withPv pv) Y F hd D env e he) q.2
      exact fun {ρ s M H} st => snd_comp Z.itr Z.nset Z.names Z.item Z.tests st
    | _ => exact bad_ok
end
noncomputable def notTup : Expr → Bool
  | .Tuple .. => false
  | _ => true
noncomputable def isLC : Expr → Bool
  | .ListComp .. => true
  | _ => false
noncomputable def asgE (t e : Expr) : Bool := notComp e && notTup e || (nameOf t).isSome && (notComp e || isLC e)
noncomputable def subOf : Expr → Option (Expr × Expr × Pos)
  | .Subscript o i p => some (o, i, p)
  | _ => none
noncomputable def callOf : Expr → Option (Expr × List Expr × List Keyword × Pos)
  | .Call f a k p => some (f, a, k, p)
  | _ => none
noncomputable def constOf : Expr → Option (Const × Nat × Pos)
  | .Constant k n p => some (k, n, p)
  | _ => none
noncomputable def isAdd : Operator → Bool
  | .Add => true
  | _ => false
noncomputable def stIx (D : Dl) (x : Str) : Option Nat := if D.sc.lookup x == some .local || D.sc.lookup x == some .cell then ixOf (some x) D.ns 0 else none
noncomputable def stIxs (D : Dl) : List Expr → Option (List (Str × Nat × Pos))
  | [] => some []
  | .Name x p :: r => (stIx D x).bind fun i => (stIxs D r).map ((x, i, p) :: ·)
  | _ => none
noncomputable def tgE (D : Dl) : Expr → Option Tg
  | .Name x _ => (stIx D x).map .one
  | .Tuple es _ _ => (stIxs D es).map fun xs => .many (xs.map (·.2.1))
  | _ => none
noncomputable def orS {β : Type} (o : Option β) (f : β → DS) : DS := match o with
  | some b => f b
  | none => badS
noncomputable def altS {β : Type} (o : Option β) (f : β → DS) (g : DS) : DS := match o with
  | some b => f b
  | none => g
noncomputable def raiseOf (e : Expr) : Option (Str × Const) := (callOf e).bind fun c => if c.2.2.1.isEmpty then (match c.2.1 with
  | [a] => (nameOf c.1).bind fun x => (constOf a).map fun k => (x.1, k.1)
  | _ => none) else none
noncomputable def raiseT (T : Tb) (hot : Bool) (D : Dl) (e c : Option Expr) : DS := match c with
  | some _ => badS
  | none => orS (e.bind raiseOf) fun y => if glob D y.1 && (constA y.2).isSome then orS (ixOf y.1 T.exs 0) fun i => raiseS hot i else badS
noncomputable def nameJ (D : Dl) : Option Str → Option (Option Nat)
  | none => some none
  | some x => if D.sc.lookup x == some .local then (ixOf (some x) D.ns 0).map some else none
noncomputable def toHs (T : Tb) (f : Stmt → DS) (D : Dl) : List ExceptHandler → Option (List DH)
  | [] => some []
  | .ExceptHandler ty nm b _ :: rest => (ty.bind nameOf).bind fun x => if glob D x.1 && !b.isEmpty then (ixOf x.1 T.exs 0).bind fun c => (nameJ D nm).bind fun j => (toHs T f D rest).map fun r => (c, j, seqS (b.map f)) :: r else none
noncomputable def tryT (hot : Bool) (G : Gm) (b : DS) (hs : Option (List DH)) (l : List ExceptHandler) (els fin : List Stmt) : DS := if !l.isEmpty && els.isEmpty && fin.isEmpty then orS hs fun hs => tryS hot G b hs else badS
noncomputable def whileFuel : Nat := Classical.choose (⟨1000000, Nat.le_refl _⟩ : ∃ n : Nat, 1000000 ≤ n)
noncomputable def toS (T : Tb) (G : Gm) (Φ : Bool → FT) : Nat → Bool → Dl → Stmt → DS
  | 0, _, _, _ => badS
  | n + 1, hot, D, t => match t with
    | .Expr e _ => if notComp e then exprS (toE T G (Φ hot) hot 60 D e) else badS
    | .Assign ts e _ => (match ts with
      | [t] => altS (subOf t) (fun y => setItemS (toE T G (Φ hot) hot 60 D y.1) (toE T G (Φ hot) hot 60 D y.2.1) (toE T G (Φ hot) hot 60 D e))
        (altS (attOf t) (fun y => orS (ixOf y.2.1 T.an 0) fun k => setAttrS k (toE T G (Φ hot) hot 60 D y.1) (toE T G (Φ hot) hot 60 D e))
        (if asgE t e then orS (tgE D t) fun g => assignS hot g (toE T G (Φ hot) hot 60 D e) else badS))
      | _ => badS)
    | .AugAssign t op e _ => orS (subOf t) fun y => if isAdd op && notSlice y.2.1 then augS (toE T G (Φ hot) hot 60 D y.1) (toE T G (Φ hot) hot 60 D y.2.1) (toE T G (Φ hot) hot 60 D e) else badS
    | .Return v _ => retS ((v.map (toE T G (Φ hot) hot 60 D)).getD (cstE .none))
    | .Pass _ => passS
    | .If t b o _ => ifS (toE T G (Φ hot) hot 60 D t) (seqS (b.map (toS T G Φ n hot D))) (seqS (o.map (toS T G Φ n hot D)))
    | .For t it b els _ => if notSet it && els.isEmpty then orS (tgE D t) fun g => forS hot g (toE T G (Φ hot) hot 60 D it) (seqS (b.map (toS T G Φ n hot D))) else badS
    | .Raise e c _ => raiseT T hot D e c
    | .While t b els _ => if els.isEmpty then whileS (toE T G (Φ hot) hot 60 D t) (seqS (b.map (toS T G Φ n hot D))) whileFuel else badS
    | .Try b hs els fin _ => tryT hot G (seqS (b.map (toS T G Φ n hot D))) (toHs T (toS T G Φ n true D) D hs) hs els fin
    | _ => badS
section
variable {C : Cx} {G : Gm} {env : Env} {D : Dl}
theorem sndS_bad {ns : List (Option Str)} {t : Stmt} : SndS C env ns badS t := fun _ => trivial
theorem if_sndS {ns : List (Option Str)} {b : Bool} {x : DS} {t : Stmt} (h : b = true → SndS C env ns x t) : SndS C env ns (if b = true then x else badS) t := by
  split
  · exact h ‹_›
  · exact sndS_bad
theorem alt_sndS {β : Type} {ns : List (Option Str)} {o : Option β} {f : β → DS} {g : DS} {t : Stmt} (h : ∀ b, o = some b → SndS C env ns (f b) t) (h' : SndS C env ns g t) : SndS C env ns (altS o f g) t := by
  cases o with
  | none => exact h'
  | some b => exact h b rfl
theorem subOf_eq {e : Expr} {x : Expr × Expr × Pos} (h : subOf e = some x) : e = .Subscript x.1 x.2.1 x.2.2 := by
  cases e with
  | Subscript o m p => cases h; rfl
  | _ => exact no_some h
theorem callOf_eq {e : Expr} {x : Expr × List Expr × List Keyword × Pos} (h : callOf e = some x) : e = .Call x.1 x.2.1 x.2.2.1 x.2.2.2 := by
  cases e with
  | Call o m k p => cases h; rfl
  | _ => exact no_some h
theorem constOf_eq {e : Expr} {x : Const × Nat × Pos} (h : constOf e = some x) : e = .Constant x.1 x.2.1 x.2.2 := by
  cases e with
  | Constant o m p => cases h; rfl
  | _ => exact no_some h
theorem isLC_eq {e : Expr} (h : isLC e = true) : ∃ a b c d, e = .ListComp a b c d := by
  cases e with
  | ListComp a b c d => exact ⟨a, b, c, d, rfl⟩
  | _ => exact no_tf h
theorem isAdd_eq {e : Operator} (h : isAdd e = true) : e = .Add := by
  cases e with
  | Add => rfl
  | _ => exact no_tf h
theorem raiseOf_eq {e : Expr} {y : Str × Const} (h : raiseOf e = some y) : ∃ np kd kp cp, e = .Call (.Name y.1 np) [.Constant y.2 kd kp] [] cp := by
  obtain ⟨⟨f, as, ks, cp⟩, h1, h⟩ := Option.bind_eq_some_iff.mp h
  rw [callOf_eq h1]
  have h : (if ks.isEmpty = true then (match as with | [a] => (nameOf f).bind fun x => (constOf a).map fun k => (x.1, k.1) | _ => none) else none) = some y := h
  split at h
  · rename_i q
    rw [List.isEmpty_iff] at q
    subst q
    rcases as with _ | ⟨a, _ | ⟨_, _⟩⟩ <;> first | exact no_some h | skip
    refine x1_2 (Option.bind_eq_some_iff.mp h) fun x h2 h => ?_
    refine x1_2 (Option.map_eq_some_iff.mp h) fun k h3 h => ?_
    cases h
    rw [nameOf_eq h2, constOf_eq h3]
    exact ⟨_, _, _, _, rfl⟩
  · cases h
theorem opt_sndS {β : Type} {ns : List (Option Str)} {o : Option β} {f : β → DS} {t : Stmt} (h : ∀ b, o = some b → SndS C env ns (f b) t) : SndS C env ns (orS o f) t := by
  cases o with
  | none => exact sndS_bad
  | some b => exact h b rfl
theorem stIx_env {i : Nat} {x : Str} (he : env.scope.names = D.sc) (h : stIx D x = some i) : TgOK env D.ns x i := by
  unfold stIx at h
  split at h
  · rename_i q
    rw [Bool.or_eq_true, beq_iff_eq, beq_iff_eq] at q
    refine ⟨ixOf_ok h, ?_⟩
    unfold Env.kindOf
    rw [he]; exact q
  · cases h
theorem stIxs_env (he : env.scope.names = D.sc) : ∀ {es : List Expr} {xs : List (Str × Nat × Pos)}, stIxs D es = some xs → es = xs.map (fun y => .Name y.1 y.2.2) ∧ ∀ y ∈ xs, TgOK env D.ns y.1 y.2.1
  | [], xs, h => by cases h; exact ⟨rfl, fun _ q => nomatch q⟩
  | e :: r, xs, h => by
    cases e with
    | Name x p =>
      refine x1_2 (Option.bind_eq_some_iff.mp h) fun i h1 h => ?_
      refine x1_2 (Option.map_eq_some_iff.mp h) fun l h2 h => ?_
      cases h
      obtain ⟨e1, e2⟩ := stIxs_env he h2
      refine ⟨by rw [e1]; rfl, fun y hy => ?_⟩
      cases hy with
      | head => exact stIx_env he h1
      | tail _ hy => exact e2 y hy
    | _ => exact no_some h
theorem tgE_env (he : env.scope.names = D.sc) {t : Expr} {g : Tg} (h : tgE D t = some g) : TgAt env D.ns g t := by
  cases t with
  | Name x p =>
    refine x1_2 (Option.map_eq_some_iff.mp h) fun i h1 h => ?_
    cases h
    exact .one (stIx_env he h1)
  | Tuple es k p =>
    refine x1_2 (Option.map_eq_some_iff.mp h) fun xs h1 h => ?_
    cases h
    obtain ⟨rfl, e2⟩ := stIxs_env he h1
    exact .many e2
  | _ => exact no_some h
theorem stores_no {es : List Expr} {k : Nat} {q : Pos} {e : Expr} {env : Env} (h : notTup e = true) : swappedStores [.Tuple es k q] e env = pure none := by
  cases e <;> first | rfl | exact no_tf h
theorem tg_shape {t : Expr} {g : Tg} (h : tgE D t = some g) : (∃ x p, t = .Name x p) ∨ ∃ es k p, t = .Tuple es k p := by
  cases t with
  | Name x p => exact .inl ⟨x, p, rfl⟩
  | Tuple es k p => exact .inr ⟨es, k, p, rfl⟩
  | _ => exact no_some h
theorem stores_name {x : Str} {p : Pos} {e : Expr} {env : Env} : swappedStores [.Name x p] e env = pure none := by
  cases e <;> rfl
variable {Φ : FT} {d : Nat}
theorem asg_comp (Y : Fit C.S G) (F : FOK C.S C.hot d Φ) (hd : d + 1 ≤ C.d) (he : env.scope.names = D.sc) {i : Nat} {x : Str} {px : Pos} {elt' : Expr} {gens : List Comprehension} {sc : Scope} {pos p : Pos} (T : TgOK env D.ns x i) (h2 : Snd2 C env D.ns (toE C.S.T G Φ C.hot 60 D (.ListComp elt' gens sc pos)) (.ListComp elt' gens sc pos)) : SndS C env D.ns (assignS C.hot (.one i) (toE C.S.T G Φ C.hot 60 D (.ListComp elt' gens sc pos))) (.Assign [.Name x px] (.ListComp elt' gens sc pos) p) := fun {ρ s M H} st => by
  cases hb : (env.blockKind == .function && env.kindOf x == some .local && px.line == pos.line && !(sc.names.any fun (n, k) => n == x && (k == .local || k == .cell))) with
  | false => exact sndS_assign h2.1 (.one T) (swaps_comp.trans (congrArg pure hb)) stores_name st
  | true =>
    cases hg : genOf gens with
    | none =>
      have e : toE C.S.T G Φ C.hot 60 D (.ListComp elt' gens sc pos) = badE := by rw [toE_comp, hg]; rfl
      rw [e]; trivial
    | some g =>
      have e : toE C.S.T G Φ C.hot 60 D (.ListComp elt' gens sc pos) = if (decide (g.2.is_async = 0) && (notSet g.2.iter && compOK D g.1.1 sc && decide (g.2.ifs.length ≤ 1))) = true then
          compE C.hot (mtAt D pos) (toE C.S.T G Φ C.hot 59 (D.inner g.1.1 sc) elt') (toE C.S.T G Φ C.hot 59 D g.2.iter) ((g.2.ifs.head?.map (toE C.S.T G Φ C.hot 59 (D.inner g.1.1 sc))).getD (cstE (.bool true))) else badE := by rw [toE_comp, hg]; rfl
      rw [e]
      split
      · rename_i q
        rw [Bool.and_eq_true, decide_eq_true_eq] at q
        have Z := comp_of (C := C) (G := G) (Φ := Φ) (elt := elt') he (fun pv D env e he => toE_ok 59 (C := C.withPv pv) Y F hd D env e he) q.2
        rw [genOf_eq hg, q.1]
        exact sndS_assignC Z.itr Z.nset Z.names Z.item Z.tests T (swaps_comp.trans (congrArg pure hb)) st
      · trivial
theorem asg_ok (Y : Fit C.S G) (F : FOK C.S C.hot d Φ) (hd : d + 1 ≤ C.d) (he : env.scope.names = D.sc) {g : Tg} {t e : Expr} {p : Pos} (ht : tgE D t = some g) (ha : asgE t e = true) : SndS C env D.ns (assignS C.hot g (toE C.S.T G Φ C.hot 60 D e)) (.Assign [t] e p) := fun {ρ s M H} st => by
  have T := tgE_env he ht
  have h2 := toE_ok 60 Y F hd D env e he
  unfold asgE at ha
  rcases tg_shape ht with ⟨x, px, rfl⟩ | ⟨es, k, q, rfl⟩
  · rcases Bool.eq_false_or_eq_true (notComp e) with hn | hn
    · exact sndS_assign h2.1 T (swaps_no hn) stores_name st
    · rw [hn, Bool.false_and, Bool.false_or, Bool.false_or, Bool.and_eq_true] at ha
      refine x4_1 (isLC_eq ha.2) fun elt' gens sc pos e4' => ?_; subst e4'
      cases T with
      | one T => exact asg_comp Y F hd he T h2 st
  · rw [show (nameOf (.Tuple es k q)).isSome = false from rfl, Bool.false_and, Bool.or_false, Bool.and_eq_true] at ha
    exact sndS_assign h2.1 T (swaps_no ha.1) (stores_no ha.2) st
theorem raise_S (Y : Fit C.S G) (he : env.scope.names = D.sc) {e c : Option Expr} {p : Pos} : SndS C env D.ns (raiseT C.S.T C.hot D e c) (.Raise e c p) := by
  cases c with
  | some c => exact sndS_bad
  | none =>
    refine opt_sndS fun y hy => if_sndS fun q => opt_sndS fun i hi => ?_
    refine x1_2 (Option.bind_eq_some_iff.mp hy) fun e e1' hy => ?_; subst e1'
    refine x4_1 (raiseOf_eq hy) fun np kd kp cp e4' => ?_; subst e4'
    rw [Bool.and_eq_true] at q
    refine x0_3 (glob_env he q.1) fun g1 g2 _ => ?_
    obtain ⟨a, ha⟩ := Option.isSome_iff_exists.mp q.2
    exact sndS_raise Y (ixOf_ok hi) (snd_cst ha) rfl g1 g2
theorem toHs_ok (he : env.scope.names = D.sc) {f : Stmt → DS} (hf : ∀ A t, SndS (C.warm A) env D.ns (f t) t) : ∀ {l : List ExceptHandler} {hs : List DH}, toHs C.S.T f D l = some hs → SndH C env D.ns hs l
  | [], hs, h => by cases h; exact .nil
  | .ExceptHandler ty nm b pos :: rest, hs, h => by
    refine x1_2 (Option.bind_eq_some_iff.mp (show (ty.bind nameOf).bind _ = some hs from h)) fun x hx h1 => ?_
    refine x1_2 (Option.bind_eq_some_iff.mp hx) fun e he' hx' => ?_
    rw [he', nameOf_eq hx']
    clear h hx
    split at h1 <;> first | exact no_some h1 | skip
    rename_i q
    rw [Bool.and_eq_true] at q
    refine x0_3 (glob_env he q.1) fun g1 g2 _ => ?_
    refine x1_2 (Option.bind_eq_some_iff.mp h1) fun c hc h2 => ?_
    refine x1_2 (Option.bind_eq_some_iff.mp h2) fun j hj h3 => ?_
    refine x1_2 (Option.map_eq_some_iff.mp h3) fun r hr h4 => ?_
    cases h4
    clear h1 h2 h3
    cases b with
    | nil => exact no_tf q.2
    | cons b₀ suite => ?_
    refine .cons (ixOf_ok hc) g1 g2 ?_ (fun A => sndB_of (hf A) (b₀ :: suite)) (toHs_ok he hf hr)
    cases nm with
    | none => cases hj; trivial
    | some x =>
      replace hj : (if D.sc.lookup x == some .local then (ixOf (some x) D.ns 0).map some else none) = some j := hj
      split at hj
      · rename_i q
        rw [beq_iff_eq] at q
        obtain ⟨i, hi, hj⟩ := Option.map_eq_some_iff.mp hj
        cases hj
        exact ⟨ixOf_ok hi, by unfold Env.kindOf; rw [he]; exact q⟩
      · cases hj
theorem try_S (Y : Fit C.S G) (hh : HeadAt C env) {ns : List (Option Str)} {b : DS} {b' : List Stmt} {o : Option (List DH)} {hs : List ExceptHandler} {els fin : List Stmt} {p : Pos} (hb : SndB C env ns b b') (h : ∀ {l}, o = some l → SndH C env ns l hs) : SndS C env ns (tryT C.hot G b o hs els fin) (.Try b' hs els fin p) := by
  refine if_sndS fun q => opt_sndS fun l hl => ?_
  rw [Bool.and_eq_true, Bool.and_eq_true, List.isEmpty_iff, List.isEmpty_iff] at q
  obtain ⟨⟨q1, rfl⟩, rfl⟩ := q
  cases hs with
  | nil => exact no_tf q1
  | cons _ _ => exact sndS_try Y hh hb (h hl)
theorem toS_ok {Φ : Bool → FT} (he : env.scope.names = D.sc) : ∀ (n : Nat) {C : Cx} (Y : Fit C.S G) (F : ∀ hot, FOK C.S hot d (Φ hot)) (hd : d + 1 ≤ C.d) (hh : HeadAt C env) (t : Stmt), SndS C env D.ns (toS C.S.T G Φ n C.hot D t) t
  | 0, _, _, _, _, _, _ => sndS_bad
  | n + 1, C, Y, F, hd, hh, t => by
    have ih : ∀ t, SndS C env D.ns (toS C.S.T G Φ n C.hot D t) t := fun t => toS_ok he n Y F hd hh t
    have eE : ∀ e, Snd2 C env D.ns (toE C.S.T G (Φ C.hot) C.hot 60 D e) e := fun e => toE_ok 60 Y (F C.hot) hd D env e he
    cases t with
    | Expr e p => exact if_sndS fun q => sndS_expr (eE e).1 q
    | Assign ts e p =>
      rcases ts with _ | ⟨t, _ | ⟨_, _⟩⟩
      · exact sndS_bad
      · refine alt_sndS (fun y hy => ?_) (alt_sndS (fun y hy => ?_) (if_sndS fun q => opt_sndS fun g hg => asg_ok Y (F C.hot) hd he hg q))
        · rw [subOf_eq hy]; exact sndS_setitem (eE _).1 (eE _).1 (eE e).1
        · rw [attOf_eq hy]; exact opt_sndS fun k hk => sndS_setattr Y (ixOf_ok hk) (eE _).1 (eE e).1
      · exact sndS_bad
    | AugAssign t op e p =>
      refine opt_sndS fun y hy => if_sndS fun q => ?_
      rw [Bool.and_eq_true] at q
      rw [subOf_eq hy, isAdd_eq q.1]
      exact sndS_aug (eE _).1 (eE _).1 (eE e).1 q.2
    | Return v p =>
      cases v with
      | none => exact sndS_ret0
      | some e => exact sndS_ret (eE e).1
    | Pass p => exact sndS_pass
    | If t b o p => exact sndS_if (eE t).2 (sndB_of ih b) (sndB_of ih o)
    | For t it b els p =>
      refine if_sndS fun q => opt_sndS fun g hg => ?_
      rw [Bool.and_eq_true, List.isEmpty_iff] at q
      obtain ⟨q1, rfl⟩ := q
      exact sndS_for hh (eE it).1 (tgE_env he hg) (fun pv => sndB_of (fun t => toS_ok he n (C := C.withPv pv) Y F hd hh t) b) q1
    | Raise e c p => exact raise_S Y he
    | While t b els p =>
      refine if_sndS fun q => ?_
      rw [List.isEmpty_iff] at q
      subst q
      exact sndS_while (eE t).2 (sndB_of ih b)
    | Try b hs els fin p =>
      exact try_S Y hh (sndB_of ih b) fun q => toHs_ok he (fun A t => toS_ok he n (C := C.warm A) Y F hd hh t) q
    | _ => exact sndS_bad
end
theorem lookup_zip : ∀ (ns : List Str) (vs : List Value), vs.length = ns.length → ∀ n ∈ ns, ((ns.zip vs).lookup n).isSome = true
  | [], _, _, n, h => nomatch h
  | a :: r, [], h, _, _ => by simp at h
  | a :: r, v :: vs, h, n, hn => by
    simp only [List.zip_cons_cons, List.lookup_cons]
    cases q : n == a with
    | true => rfl
    | false =>
      cases hn with
      | head => simp at q
      | tail _ hn => exact lookup_zip r vs (by simpa using h) n hn
theorem fm_congr {α β : Type} {f g : α → Option β} : ∀ (l : List α), (∀ x ∈ l, f x = g x) → l.filterMap f = l.filterMap g
  | [], _ => rfl
  | a :: r, h => by
    simp only [List.filterMap_cons]
    rw [h a (.head _), fm_congr r fun x hx => h x (.tail _ hx)]
theorem filterMap_zip : ∀ (ns : List Str) (vs : List Value), ns.Nodup → vs.length = ns.length → ns.filterMap (fun n => ((ns.zip vs).lookup n).map (n, ·)) = ns.zip vs
  | [], vs, _, h => by simp
  | a :: r, [], _, h => by simp at h
  | a :: r, v :: vs, hn, h => by
    obtain ⟨h1, h2⟩ := List.nodup_cons.mp hn
    simp only [List.zip_cons_cons, List.filterMap_cons, List.lookup_cons, beq_self_eq_true, Option.map_some]
    congr 1
    refine (fm_congr r fun n hn' => ?_).trans (filterMap_zip r vs h2 (by simpa using h))
    have : (n == a) = false := by
      cases q : n == a with
      | false => rfl
      | true => rw [beq_iff_eq] at q; subst q; exact absurd hn' h1
    rw [this]
theorem no_missing {names : List Str} {vals : List Value} {n : Nat} (hl : vals.length = names.length) : ((names.take n).filter fun x => ((names.zip vals).lookup x).isNone).isEmpty = true := by
  rw [List.isEmpty_iff, List.filter_eq_nil_iff]
  intro x hx
  have := lookup_zip names vals hl x (List.mem_of_mem_take hx)
  rw [Option.isNone_iff_eq_none]
  intro e
  rw [e] at this
  cases this
theorem bind_plain {fd : FuncData} {names : List Str} {vals : List Value} (h : plainPrm fd.params names = true) (hd : fd.defaults = .none) (hl : vals.length = names.length) : bindArgs fd ⟨vals, []⟩ = pure (names.zip vals) := by
  obtain ⟨nm, qn, ⟨po, ar, va, ko, kd, kw, df⟩, bo, sc, gl, cl, dfl, kwd⟩ := fd
  unfold plainPrm at h
  simp only [Bool.and_eq_true, decide_eq_true_eq, List.isEmpty_iff, Option.isNone_iff_eq_none] at h
  obtain ⟨⟨⟨⟨⟨rfl, rfl⟩, rfl⟩, rfl⟩, rfl⟩, h6⟩ := h
  obtain rfl : dfl = .none := hd
  have c1 : ¬ (decide (vals.length > (ar.map (·.arg)).length) && true) = true := by rw [hl]; simp
  refine (if_neg c1).trans ?_
  refine (if_neg (fun q => ?_)).trans ?_
  · rw [Bool.not_eq_true'] at q
    exact nomatch (no_missing hl).symm.trans q
  · have := filterMap_zip _ vals h6 hl
    simp only [List.drop_nil, List.map_nil, List.nil_append, List.append_nil]
    simp [-List.filterMap_map, this]
theorem funOf_eq {d : Data} {fd : FuncData} (h : funOf d = some fd) : d = .func fd := by
  cases d with
  | func fd => cases h; rfl
  | _ => exact no_some h
theorem stmsOf_eq {d : FuncBody} {b : List Stmt} (h : stmsOf d = some b) : d = .stmts b := by
  cases d with
  | stmts b => cases h; rfl
  | _ => exact no_some h
structure FdOK (K : Frag) (prm : List Str) (ns : List (Option Str)) (fd : FuncData) (body : List Stmt) : Prop where
  glob : fd.globals = mainGlobals
  bns : fd.builtins = builtinsNs
  clo : fd.closure = []
  code : codeIn K fd.code fd.qualname = true
  ppar : plainPrm fd.params prm = true
  dflt : fd.defaults = .none
  kind : fd.scope.kind = .function
  co : fd.scope.isCoroutine = false
  gen : fd.scope.isGenerator = false
  par : ∀ x ∈ prm, fd.scope.names.lookup x = some .local ∨ fd.scope.names.lookup x = some .cell
  free : ∀ y ∈ fd.scope.names, y.2 ≠ .free
  ns1 : ns.take prm.length = prm.map some
  ns2 : (ns.filterMap id).Nodup
  ns3 : prm.length ≤ ns.length
  bod : fd.body = .stmts body
theorem fdOK_of {K : Frag} {f : Addr} {prm : List Str} {ns : List (Option Str)} {r : List (Str × NameKind) × List Stmt} (h : fnAt K f prm ns = some r) : ∃ o fd, K.lookup f = some o ∧ o.data = .func fd ∧ fd.scope.names = r.1 ∧ FdOK K prm ns fd r.2 := by
  refine x1_2 (Option.bind_eq_some_iff.mp h) fun o e h => ?_
  refine x1_2 (Option.bind_eq_some_iff.mp h) fun fd e1 h => ?_
  split at h
  · rename_i q
    refine x1_2 (Option.map_eq_some_iff.mp h) fun body eb h => ?_
    cases h
    unfold fdOK scopeOK nsOK at q
    simp only [Bool.and_eq_true, decide_eq_true_eq, List.isEmpty_iff, beq_iff_eq, Bool.not_eq_true', List.all_eq_true, Bool.or_eq_true, bne_iff_ne] at q
    obtain ⟨⟨⟨⟨⟨⟨⟨a1, a2⟩, a3⟩, a4⟩, a5⟩, a6⟩, ⟨⟨⟨⟨b1, b2⟩, b3⟩, b4⟩, b5⟩⟩, ⟨⟨c1, c2⟩, c3⟩⟩ := q
    refine ⟨o, fd, e, funOf_eq e1, rfl, a1, a2, a3, a4, a5, ?_, b1, b2, b3, b4, b5, c1, c2, c3, stmsOf_eq eb⟩
    cases q : fd.defaults <;> rw [q] at a6 <;> first | rfl | cases a6
  · cases h
theorem bindL_out {kindOf : Str → Option NameKind} {x : Str} : ∀ (ns : List Str) (vs : List Value) (m : Str → Option Value), x ∉ ns → bindL kindOf (ns.zip vs) m x = m x
  | [], _, _, _ => rfl
  | _ :: _, [], _, _ => rfl
  | n :: r, v :: vs, m, h => by
    simp only [List.zip_cons_cons, bindL]
    rw [bindL_out r vs _ fun q => h (.tail _ q)]
    split
    · have : x ≠ n := fun q => h (q ▸ .head _)
      simp [this]
    · rfl
theorem bindC_out {kindOf : Str → Option NameKind} {x : Str} : ∀ (ns : List Str) (vs : List Value) (m : Str → Option Value), x ∉ ns → bindC kindOf (ns.zip vs) m x = m x
  | [], _, _, _ => rfl
  | _ :: _, [], _, _ => rfl
  | n :: r, v :: vs, m, h => by
    simp only [List.zip_cons_cons, bindC]
    rw [bindC_out r vs _ fun q => h (.tail _ q)]
    split
    · rfl
    · have : x ≠ n := fun q => h (q ▸ .head _)
      simp [this]
theorem bindL_in {kindOf : Str → Option NameKind} {x : Str} {v : Value} (hk : kindOf x = some .local) : ∀ (ns : List Str) (vs : List Value) (m : Str → Option Value) (i : Nat), ns.Nodup → ns[i]? = some x → vs[i]? = some v → bindL kindOf (ns.zip vs) m x = some v
  | [], _, _, _, _, h, _ => by simp at h
  | _ :: _, [], _, _, _, _, h => by simp at h
  | n :: r, u :: vs, m, 0, hn, h1, h2 => by
    simp at h1 h2
    subst h1; subst h2
    simp only [List.zip_cons_cons, bindL]
    rw [bindL_out r vs _ (List.nodup_cons.mp hn).1, if_pos hk]
    simp
  | n :: r, u :: vs, m, i + 1, hn, h1, h2 => by
    simp at h1 h2
    simp only [List.zip_cons_cons, bindL]
    exact bindL_in hk r vs _ i (List.nodup_cons.mp hn).2 h1 h2
theorem bindC_in {kindOf : Str → Option NameKind} {x : Str} {v : Value} (hk : ¬ kindOf x = some .local) : ∀ (ns : List Str) (vs : List Value) (m : Str → Option Value) (i : Nat), ns.Nodup → ns[i]? = some x → vs[i]? = some v → bindC kindOf (ns.zip vs) m x = some v
  | [], _, _, _, _, h, _ => by simp at h
  | _ :: _, [], _, _, _, _, h => by simp at h
  | n :: r, u :: vs, m, 0, hn, h1, h2 => by
    simp at h1 h2
    subst h1; subst h2
    simp only [List.zip_cons_cons, bindC]
    rw [bindC_out r vs _ (List.nodup_cons.mp hn).1, if_neg hk]
    simp
  | n :: r, u :: vs, m, i + 1, hn, h1, h2 => by
    simp at h1 h2
    simp only [List.zip_cons_cons, bindC]
    exact bindC_in hk r vs _ i (List.nodup_cons.mp hn).2 h1 h2
theorem apart_of {cs : List (Str × Addr)} (h : cs.Pairwise fun x y => x.2 ≠ y.2) : ∀ n n' c, (n, c) ∈ cs → (n', c) ∈ cs → n = n' := by
  induction cs with
  | nil => intro n n' c h; cases h
  | cons a r ih =>
    obtain ⟨h1, h2⟩ := List.pairwise_cons.mp h
    intro n n' c m1 m2
    cases m1 with
    | head =>
      cases m2 with
      | head => rfl
      | tail _ m2 => exact absurd rfl (h1 (n', _) m2)
    | tail _ m1 =>
      cases m2 with
      | head => exact absurd rfl (h1 (n, _) m1)
      | tail _ m2 => exact ih h2 n n' c m1 m2
theorem nodup_inj : ∀ {ns : List (Option Str)}, (ns.filterMap id).Nodup → ∀ (i j : Nat) (x : Str), ns[i]? = some (some x) → ns[j]? = some (some x) → i = j
  | [], _, i, j, x, h, _ => by simp at h
  | a :: r, hn, i, j, x, h1, h2 => by
    have key : ∀ {k : Nat}, (a :: r)[k+1]? = some (some x) → a = some x → False := fun {k} h e => by
      subst e
      simp only [List.filterMap_cons, id] at hn
      refine (List.nodup_cons.mp hn).1 ?_
      simp at h
      exact List.mem_filterMap.mpr ⟨some x, List.mem_of_getElem? h, rfl⟩
    have hn' : (r.filterMap id).Nodup := by
      cases a with
      | none => simpa [List.filterMap_cons] using hn
      | some y => simp only [List.filterMap_cons, id] at hn; exact (List.nodup_cons.mp hn).2
    match i, j with
    | 0, 0 => rfl
    | 0, j + 1 => simp at h1; exact (key h2 h1).elim
    | i + 1, 0 => simp at h2; exact (key h1 h2).elim
    | i + 1, j + 1 => simp at h1 h2; rw [nodup_inj hn' i j x h1 h2]
noncomputable def rho0 (args : List AV) (n : Nat) : RE := args.map some ++ List.replicate (n - args.length) none
noncomputable abbrev Cx.within (C : Cx) (env : Env) : Cx := { S := C.S, A := C.A.deeper env, fe := env :: C.fe, d := C.d - 1, hot := C.hot, pv := C.pv }
section
variable {C : Cx} {s s₁ s' : Shared} {M M' : Mp} {H H' : AH} {f : Addr} {fd : FuncData}
theorem fs_within {env : Env} {L b : Addr} (hf : env.frame = some L) (hb : b ∈ (C.within env).fs) : b = L ∨ b ∈ C.fs := by
  unfold Cx.fs at hb
  rw [List.filterMap_cons, hf] at hb
  cases hb with
  | head => exact .inl rfl
  | tail _ hb => exact .inr hb
theorem fresh_from {h : Heap} {b : Addr} (hb : h.objs.size ≤ b) : h.get? b = none := by
  cases q : h.get? b with
  | none => rfl
  | some o => exact absurd (Heap.lt_size q) (Nat.not_lt.mpr hb)
theorem enter_ok {prm : List Str} {ns : List (Option Str)} {body : List Stmt} {args : List AV} {vals : List Value} (Y : FdOK C.S.K prm ns fd body) (L : Live C s.heap M) (R : Rep C.S C.pv s.heap M H) (rv : VRels (C.wd s.heap M) vals args) (hl : args.length = prm.length) (hd : 0 < C.d)
    (x : InCallC s (callEnvC fd s.heap.objs.size f).locals (bindL (callEnvC fd s.heap.objs.size f).kindOf (prm.zip vals) fun _ => none) (callEnvC fd s.heap.objs.size f).cells (bindC (callEnvC fd s.heap.objs.size f).kindOf (prm.zip vals) fun _ => none) s₁) :
    St (C.within (callEnvC fd s.heap.objs.size f)) (callEnvC fd s.heap.objs.size f) ns (rho0 args ns.length) s₁ M H := by
  refine x2_2 (x.done) fun h' tk e2' hk => ?_; subst e2'
  have hL0 := size_none s.heap
  have hc0 : ∀ n c, (n, c) ∈ (callEnvC fd s.heap.objs.size f).cells → s.heap.get? c = none := fun n c hm => fresh_from (Nat.le_of_lt (x.above n c hm))
  have hns := x.toInCall.ns
  refine ⟨⟨?_, ?_, fun b o e => hk b o (L.stays b o e), fun b hb f' => ?_, L.new, L.handled, fun b hb => ?_, ?_, ?_, fun a ha => ?_, L.poff⟩, R.ext hk, _, (bindC (callEnvC fd s.heap.objs.size f).kindOf (prm.zip vals) fun _ => none), Y.kind, Y.glob, Y.bns, hns, fun a ha => ?_, nodup_inj Y.ns2, ?_, ?_, fun n c hc => ?_, ?_, ?_⟩
  · show C.A.frames.map _ = _
    rw [L.frames]; rfl
  · refine Heap.FunFrames.cons (m := _) (L := s.heap.objs.size) ?_ rfl hns (L.base0 hL0) (L.funs.of_keeps fun b o hb _ => ⟨o, hk b o hb, rfl⟩)
    show fd.scope.kind ≠ .module
    rw [Y.kind]; exact fun q => nomatch q
  · rcases fs_within rfl hb with rfl | hb
    · exact R.off hL0 f'
    · exact L.off b hb f'
  · rcases fs_within rfl hb with rfl | hb
    · obtain ⟨o, es, ep, h1, h2, _⟩ := hns; exact ⟨o, es, ep, h1, h2⟩
    · obtain ⟨o, es, ep, h1, h2⟩ := L.dicts b hb; exact ⟨o, es, ep, hk b o h1, h2⟩
  · show C.A.depth + 1 + (C.d - 1) < recursionLimit
    have := L.depth; lia -abstractProof
  · show C.A.units + 3 + 20 * (C.d - 1) + 100 < cLine
    have := L.units; lia -abstractProof
  · obtain ⟨o, ho⟩ := L.priv a ha
    exact ⟨o, hk a o ho⟩
  · have h0 : s.heap.get? a = none := by
      rcases ha with rfl | ⟨n, hc⟩
      · exact hL0
      · exact hc0 n a (mem_of_lookup hc)
    exact ⟨R.off h0, L.base0 h0⟩
  · unfold rho0
    rw [List.length_append, List.length_map, List.length_replicate]
    have := Y.ns3; lia -abstractProof
  · rintro y (hy | hy)
    · have := cellsFrom_some fd.scope.names (s.heap.objs.size + 1) [] (.inl hy)
      exact Option.isSome_iff_exists.mp this
    · exact absurd rfl (Y.free _ (mem_of_lookup hy))
  · have hm := mem_of_lookup hc
    have h0 := hc0 n c hm
    refine ⟨x.cell n c hc, fun q => ?_, Nat.ne_of_gt (x.above n c hm)⟩
    rcases fs_within rfl q with rfl | q
    · exact absurd (x.above n _ hm) (Nat.lt_irrefl _)
    · exact L.fs0 h0 q
  · intro n n' c h1 h2
    exact apart_of x.apart n n' c (mem_of_lookup h1) (mem_of_lookup h2)
  · intro i y a h1 h2
    have hi : i < args.length := by
      unfold rho0 at h2
      rw [List.getElem?_append] at h2
      split at h2
      · rename_i q; simpa using q
      · rw [List.getElem?_replicate] at h2
        split at h2 <;> simp at h2
    have ha : args[i]? = some a := by
      unfold rho0 at h2
      rw [List.getElem?_append_left (by simpa using hi)] at h2
      simp at h2
      exact h2
    have hy : prm[i]? = some y := by
      have : (ns.take prm.length)[i]? = some (some y) := by rw [List.getElem?_take, if_pos (by lia -abstractProof)]; exact h1
      rw [Y.ns1] at this
      simp at this
      exact this
    refine x1_2 (rv.get i ha) fun v hv r => ?_
    have hnd : prm.Nodup := by
      have := Y.ppar
      unfold plainPrm at this
      simp only [Bool.and_eq_true, decide_eq_true_eq] at this
      exact this.2
    refine ⟨v, r.keep (kp_ext hk), ?_⟩
    rcases Y.par y (List.mem_of_getElem? hy) with q | q
    · exact .inl ⟨q, bindL_in q prm vals _ i hnd hy hv⟩
    · have := cellsFrom_some fd.scope.names (s.heap.objs.size + 1) [] (.inl q)
      refine .inr ⟨.inl q, Option.isSome_iff_exists.mp this, bindC_in ?_ prm vals _ i hnd hy hv⟩
      show ¬ fd.scope.names.lookup y = some .local
      rw [q]; exact fun z => nomatch z
variable {m cm : Str → Option Value}
theorem own_new (x : InCallC s (callEnvC fd s.heap.objs.size f).locals m (callEnvC fd s.heap.objs.size f).cells cm s₁) : ∀ b o, s.heap.get? b = some o → ¬ OwnW (callEnvC fd s.heap.objs.size f) b := by
  rintro b o e (rfl | ⟨n, hc⟩)
  · exact absurd (Heap.lt_size e) (Nat.lt_irrefl _)
  · exact absurd (Nat.lt_trans (Heap.lt_size e) (x.above n b (mem_of_lookup hc))) (Nat.lt_irrefl _)
theorem fs_out {b : Addr} {o : Obj} (e : s.heap.get? b = some o) (n : b ∉ C.fs) : b ∉ (C.within (callEnvC fd s.heap.objs.size f)).fs := fun q => by
  rcases fs_within rfl q with rfl | q
  · exact absurd (Heap.lt_size e) (Nat.lt_irrefl _)
  · exact n q
theorem fs_in {env : Env} {b : Addr} (h : b ∈ C.fs) : b ∈ (C.within env).fs := by
  unfold Cx.fs
  rw [List.filterMap_cons]
  split
  · exact h
  · exact .tail _ h
theorem leave_ok (x : InCallC s (callEnvC fd s.heap.objs.size f).locals m (callEnvC fd s.heap.objs.size f).cells cm s₁)
    (y : Step (C.within (callEnvC fd s.heap.objs.size f)) (OwnW (callEnvC fd s.heap.objs.size f)) s₁ M s' M') : Step C noW s M s' M' := by
  have nW := own_new x
  refine x2_2 (x.done) fun h' tk e2' hk => ?_; subst e2'
  exact ⟨fun b o e nf _ nfs => y.keep b o (hk b o e) nf (nW b o e) (fs_out e nfs), fun b o e hb _ => y.slots b o (hk b o e) (fs_in hb) (nW b o e), fun b o e => y.alive b o (hk b o e), y.pre, fun a fa => (y.grow a fa).imp id fun q => gone (fun b o e => ⟨o, hk b o e⟩) q, y.gens, y.os⟩
theorem leave_exn {e D : Addr} {c : Nat} {B : Heap} (x : InCallC s (callEnvC fd s.heap.objs.size f).locals m (callEnvC fd s.heap.objs.size f).cells cm s₁)
    (y : Exn (C.within (callEnvC fd s.heap.objs.size f)) (OwnW (callEnvC fd s.heap.objs.size f)) s₁ M e c s' M' H' B) (hX : C.S.X c = some D) (hf : Fly B s'.heap e D .none) : Exn C noW s M e c s' M' H' B := by
  have nW := own_new x
  have z := leave_ok x y.step
  refine x2_2 (x.done) fun h' tk e2' hk => ?_; subst e2'
  refine x1_2 (id y.flt) fun D' hX' fl => ?_
  exact ⟨fun b o e nf _ nfs => y.keepB b o (hk b o e) nf (nW b o e) (fs_out e nfs), y.base, y.rep, ⟨D, hX, fl.stays, fl.new, fl.funs.2.2, .inr ⟨_, hf, .inl rfl⟩⟩, z.slots, z.alive, z.pre, z.grow, z.gens, z.os, gone (fun b o e => ⟨o, hk b o e⟩) y.fresh⟩
set_option backward.match.sparseCases true in
theorem call_ok {G : Gm} {d n : Nat} {hot : Bool} {prm : List Str} {ns : List (Option Str)} {mts : List (Nat × Nat × Nat)} {r : List (Str × NameKind) × List Stmt} {Φ : Bool → FT} {S : Stat} {args : List AV} (h : fnAt S.K f prm ns = some r) (Y : Fit S G) (F : ∀ hot, FOK S hot d (Φ hot)) (hd : d + 2 ≤ n) (hl : args.length = prm.length) :
    CallOK S hot n f args H (seqS (r.2.map (toS S.T G Φ 60 hot ⟨r.1, ns, mts⟩)) (rho0 args ns.length) H).done := by
  intro C s M vals e1 e2 e3 L R rv
  subst e1 e2
  refine x2_4 (fdOK_of h) fun o fd ho hdata hnm Z => ?_
  have hroom : C.A.depth < recursionLimit := by have := L.depth; lia
  have go : ∀ {Rf : Result → Shared → Prop}, (∀ s₁, InCallC s (callEnvC fd s.heap.objs.size f).locals (bindL (callEnvC fd s.heap.objs.size f).kindOf (prm.zip vals) fun _ => none) (callEnvC fd s.heap.objs.size f).cells (bindC (callEnvC fd s.heap.objs.size f).kindOf (prm.zip vals) fun _ => none) s₁ →
      wpAny C.S.M (C.within (callEnvC fd s.heap.objs.size f)).A (execs r.2 (callEnvC fd s.heap.objs.size f)) (fun fl s' => Rf (.ok (.ret (match fl with | .ret v => v | _ => .none))) s')
        (fun e s' => wpAny C.S.M (C.A.deeper (callEnvC fd s.heap.objs.size f)) (leaving (callEnvC fd s.heap.objs.size f) e) (fun _ s'' => Rf (.error e) s'') (fun e' s'' => Rf (.error e') s'') s') s₁) → codeAny C.S.M C.A (.call (.ref f) ⟨vals, []⟩) Rf s := fun {Rf} k =>
    codeAny_call_cells (body := r.2) (binds := prm.zip vals) hroom (L.K f o ho) hdata (C.S.hT.nolimit.keeps L.stays) (codeRec_of L.K Z.code) Z.bod (bind_plain Z.ppar Z.dflt (by rw [rv.1, hl])) Z.clo (fun y hy => by
      rcases Z.par y.1 (List.of_mem_zip hy).1 with q | q
      · exact .inl q
      · exact .inr ⟨q, cellsFrom_some fd.scope.names (s.heap.objs.size + 1) [] (.inl q)⟩) k Z.co Z.gen Z.kind
  have B := fun s₁ (x : InCallC s (callEnvC fd s.heap.objs.size f).locals (bindL (callEnvC fd s.heap.objs.size f).kindOf (prm.zip vals) fun _ => none) (callEnvC fd s.heap.objs.size f).cells (bindC (callEnvC fd s.heap.objs.size f).kindOf (prm.zip vals) fun _ => none) s₁) =>
    sndB_of (fun t => toS_ok (D := ⟨r.1, ns, mts⟩) (env := callEnvC fd s.heap.objs.size f) (Φ := Φ) hnm 60 (C := C.within (callEnvC fd s.heap.objs.size f)) Y F (by show d + 1 ≤ C.d - 1; lia) ⟨⟨_, rfl⟩, _, rfl⟩ t) r.2 (enter_ok Z L R rv hl (by lia) x)
  generalize seqS (r.2.map (toS C.S.T G Φ 60 C.hot ⟨r.1, ns, mts⟩)) (rho0 args ns.length) H = ob at B
  cases ob with
  | bad => trivial
  | next ρ' H' => exact go fun s₁ x => wpAny_mono (B s₁ x) (fun fl s' ⟨e, M', y, st'⟩ => by subst e; exact ⟨.none, rfl, M', leave_ok x y, st'.rep, .none⟩) fun _ _ q => q.elim
  | ret a H' => exact go fun s₁ x => wpAny_mono (B s₁ x) (fun fl s' z_27 => x3_4 z_27 fun v ρ' M' e y st' rv => by subst e; exact ⟨v, rfl, M', leave_ok x y, st'.rep, rv⟩) fun _ _ q => q.elim
  | exc c ρ' H' =>
    refine go fun s₁ x => wpAny_mono (B s₁ x) (fun _ _ q => q.elim) fun ev s' z_28 => x3_3 z_28 fun e M' B' q y E => ?_
    subst q
    unfold leaving
    have fr : (C.within (callEnvC fd s.heap.objs.size f)).A.frames = some (C.within (callEnvC fd s.heap.objs.size f)).fe := by
      show C.A.frames.map _ = _
      rw [L.frames]; rfl
    refine wpAny_bind (Exn.noted (C := C.within (callEnvC fd s.heap.objs.size f)) ⟨⟨_, rfl⟩, _, rfl⟩ fr y fun h' D L' hX hn hf hst hh hL z f' y' => ?_)
    refine flight_ok (fr := none) hf hst f' fun h'' z' f'' => ?_
    exact ⟨_, rfl, e, M', B', rfl, leave_exn x (y'.stn hX hn hf z' f'' (.inl rfl)) hX f''⟩
end
theorem refOf_eq {v : Value} {a : Addr} (h : refOf v = some a) : v = .ref a := by
  cases v with
  | ref b => cases h; rfl
  | _ => exact no_some h
theorem intOf_eq {v : Value} {i : Int} (h : intOf v = some i) : ∃ t, v = .int i t := by
  cases v with
  | int j t => cases h; exact ⟨t, rfl⟩
  | _ => exact no_some h
theorem each_at {α : Type} {l : List α} {f : Nat → α → Bool} (h : each l f = true) {i : Nat} {a : α} (e : l[i]? = some a) : f i a = true := by
  unfold each at h
  rw [List.all_eq_true] at h
  exact h (a, i) (List.mem_zipIdx_iff_getElem?.mpr e)
theorem glRef_iff {K : Frag} {x : Str} {a : Addr} (h : glRef K x = some a) : nsIn K mainGlobals x = some (some (.ref a)) := by
  refine x1_2 (Option.bind_eq_some_iff.mp h) fun o e h => ?_
  refine x1_2 (Option.bind_eq_some_iff.mp h) fun v e1 h => ?_
  rw [e, e1, refOf_eq h]
theorem kds_all (k : Kd) : k ∈ kds := by cases k <;> simp [kds]
theorem tys_all {K : Frag} {T : Tb} {t : Ty} {v : Value} (h : tyA K T t = some v) : t ∈ tys T.exs.length := by
  cases t <;> first | (simp [tys]; done) | skip
  rename_i c
  obtain ⟨D, h1, _⟩ := Option.map_eq_some_iff.mp h
  obtain ⟨x, h2, _⟩ := Option.bind_eq_some_iff.mp h1
  have := (List.getElem?_eq_some_iff.mp h2).1
  exact List.mem_append.mpr (.inr (List.mem_map.mpr ⟨c, List.mem_range.mpr this, rfl⟩))
theorem fitK_at {K : Frag} {T : Tb} {t : Value} {f : Ty → Bool} (h : fitK K T t f = true) {ty : Ty} {v : Value} (e : tyA K T ty = some v) : kitOne K t v = some (f ty) := by
  unfold fitK at h
  rw [List.all_eq_true] at h
  have := h ty (tys_all e)
  rw [e] at this
  simpa using this
theorem fitMth_at {K : Frag} {T : Tb} {src : List At} {c m f : Nat} {D : Addr} (h : fitMth K T src c m (some f) = true) (e : clA K T c = some D) : ∃ x fa, T.mn[m]? = some x ∧ x ∉ T.an ∧ faA K T src f = some fa ∧ findIn K (.ref D) x = some (some (.ref fa)) ∧ isFn K (.ref fa) = true ∧ fnIn K fa = true := by
  simp only [fitMth, e] at h
  cases q2 : T.mn[m]? with
  | none => rw [q2] at h; exact no_tf h
  | some x =>
    cases q3 : faA K T src f with
    | none => rw [q2, q3] at h; exact no_tf h
    | some fa =>
      rw [q2, q3] at h
      simp only [Bool.and_eq_true, Bool.not_eq_true', beq_iff_eq] at h
      refine w4 h fun t1 t2 t3 t4 => ?_
      refine ⟨x, fa, rfl, fun q => ?_, rfl, t2, t3, t4⟩
      rw [List.any_eq_false] at t1
      exact t1 x q (by simp)
theorem fitFn_at {K : Frag} {T : Tb} {src : List At} {f : Nat} {x : Str} (h : fitFn K T src f (some x) = true) : ∃ a, faA K T src f = some a ∧ nsIn K mainGlobals x = some (some (.ref a)) ∧ fnIn K a = true := by
  simp only [fitFn] at h
  cases q : faA K T src f with
  | none => rw [q] at h; exact no_tf h
  | some a =>
    rw [q] at h
    simp only [Bool.and_eq_true, beq_iff_eq] at h
    exact ⟨a, rfl, h.1, h.2⟩
theorem fit_of {S : Stat} {G : Gm} {src : List At} (hX : S.X = exA S.K S.T) (hC : S.cl = clA S.K S.T) (hF : S.fa = faA S.K S.T src) (h : fitB S.K S.T G src = true) : Fit S G := by
  unfold fitB at h
  simp only [Bool.and_eq_true, decide_eq_true_eq] at h
  obtain ⟨h, h13⟩ := h
  refine w12 h fun h1 h2 h3 h4 h5 h6 h7 h8 h9 h10 h11 h12 => ?_
  clear h
  rw [List.all_eq_true] at h1 h7 h10 h11 h12
  have cls : ∀ c D, S.cl c = some D → clsOK S.K D = true ∧ keepIn S.K (.ref D) = true ∧ ∀ a ∈ S.T.an, findIn S.K (.ref D) a = some none := fun c D e => by
    rw [hC] at e
    refine x1_2 (Option.bind_eq_some_iff.mp e) fun x e1 e2 => ?_
    have := h1 x (List.mem_of_getElem? e1)
    unfold fitCls at this
    rw [e2] at this
    simp only [Bool.and_eq_true, List.all_eq_true, beq_iff_eq] at this
    exact ⟨this.1.1, this.1.2, this.2⟩
  have exc : ∀ c D, S.X c = some D → excIn S.K D veMro "ValueError.__new__" = true ∧ seesIn S.K D = true := fun c D e => by
    rw [hX] at e
    refine x1_2 (Option.bind_eq_some_iff.mp e) fun x e1 e2 => ?_
    have := h7 x (List.mem_of_getElem? e1)
    unfold fitExc at this
    rw [e2] at this
    simpa only [Bool.and_eq_true] using this
  have tyv : ∀ t v, S.tyV t = some v → tyA S.K S.T t = some v := fun t v e => by
    cases t <;> first | exact e | skip
    rename_i c
    show (exA S.K S.T c).map Value.ref = some v
    rw [← hX]; exact e
  exact
  { cls := fun c D e => clsOK_parts (cls c D e).1
    attr := fun c D x e hx => (cls c D e).2.2 x hx
    inj := fun i j x e1 e2 => by
      have a := List.getElem?_eq_some_iff.mp e1
      exact (List.getElem?_inj a.1 h2).mp (e1.trans e2.symm)
    na := h3
    few := h4
    mth := fun c D m f e hf => by
      refine x1_2 (Option.bind_eq_some_iff.mp (show (G.mth[c]?).bind (fun l => (l[m]?).bind id) = some f from hf)) fun l g1 hf => ?_
      refine x1_2 (Option.bind_eq_some_iff.mp hf) fun o g2 hf => ?_
      obtain rfl : o = some f := hf
      rw [hC] at e
      rw [hF]
      exact fitMth_at (each_at (each_at h5 g1) g2) e
    ini := h6
    exc := exc
    up := fun c d D E l e1 e2 e3 => by
      rw [hX] at e1 e2
      refine x1_2 (Option.bind_eq_some_iff.mp e2) fun x e4 _ => ?_
      have := each_at (each_at h8 e3) e4
      unfold fitUp at this
      rw [e1, e2] at this
      simpa using this
    fn := fun f x e => by
      rw [hF]
      exact fitFn_at (each_at h9 e)
    cn := fun c x e => by
      have := h1 x (List.mem_of_getElem? e)
      unfold fitCls at this
      split at this
      · rename_i D q
        have e' : S.cl c = some D := by rw [hC]; show (S.T.cls[c]?).bind _ = _; rw [e]; exact q
        exact ⟨D, e', glRef_iff q, (cls c D e').2.1⟩
      · cases this
    xn := fun c x e => by
      have := h7 x (List.mem_of_getElem? e)
      unfold fitExc at this
      split at this
      · rename_i D q
        exact ⟨D, by rw [hX]; show (S.T.exs[c]?).bind _ = _; rw [e]; exact q, glRef_iff q⟩
      · cases this
    gi := fun x i e => by
      refine x1_2 (Option.bind_eq_some_iff.mp (beq_iff_eq.mp (h10 (x, i) e))) fun o e h => ?_
      refine x1_2 (Option.bind_eq_some_iff.mp h) fun v e1 h => ?_
      obtain ⟨t, e2⟩ := intOf_eq h
      exact ⟨t, by rw [e, e1, e2]⟩
    bi := fun x hx => by simpa using h11 x hx
    kb := fun k t v e => fitK_at (h12 k (kds_all k)) (tyv t v e)
    kx := fun c D t v e1 e2 => by
      rw [hX] at e1
      refine x1_2 (Option.bind_eq_some_iff.mp e1) fun x e4 _ => ?_
      have := each_at h13 e4
      unfold fitX at this
      rw [e1] at this
      exact fitK_at this (tyv t v e2) }
structure FnD where
  np : Nat
  nn : Nat
  den : (Bool → FT) → Bool → DS
noncomputable def fnD (T : Tb) (G : Gm) (mts : List (Nat × Nat × Nat)) (f : Df) : FnD := ⟨f.prm.length, f.ns.length, fun Φ hot => seqS (f.body.map (toS T G Φ 60 hot ⟨f.names, f.ns, mts⟩))⟩
noncomputable def callD (f : FnD) (Φ : Bool → FT) (hot : Bool) (args : List AV) (H : AH) : Out AV := if args.length = f.np then (f.den Φ hot (rho0 args f.nn) H).done else .bad
theorem callD_eq {T : Tb} {G : Gm} {mts : List (Nat × Nat × Nat)} {f : Df} {Φ : Bool → FT} {hot : Bool} {args : List AV} {H : AH} : callD (fnD T G mts f) Φ hot args H = if args.length = f.prm.length then (seqS (f.body.map (toS T G Φ 60 hot ⟨f.names, f.ns, mts⟩)) (rho0 args f.ns.length) H).done else .bad := by
  unfold callD fnD; rfl
noncomputable def callF (tab : List (Option FnD)) : Nat → Bool → FT
  | 0, _, _, _, _ => .bad
  | k + 1, hot, i, args, H => match tab[i]? with
    | some (some f) => callD f (callF tab k) hot args H
    | _ => .bad
theorem callF_ok {S : Stat} {G : Gm} {src : List At} {mts : List (Nat × Nat × Nat)} {dfs : List (Option Df)} (hF : S.fa = faA S.K S.T src) (Y : Fit S G) (hb : ∀ (i : Nat) a f, src[i]? = some a → dfs[i]? = some (some f) → bodyK S.K S.T a (some f) = some (f.names, f.body)) :
    ∀ (k : Nat) (hot : Bool), FOK S hot (2 * k) (callF (dfs.map fun o => o.map (fnD S.T G mts)) k hot)
  | 0, _ => fun _ _ _ _ _ _ _ _ _ _ _ _ _ _ _ => trivial
  | k + 1, hot => fun i fa args H hi => by
    show CallOK S hot (2 * (k + 1)) fa args H (match (dfs.map fun o => o.map (fnD S.T G mts))[i]? with | some (some f) => callD f (callF (dfs.map fun o => o.map (fnD S.T G mts)) k) hot args H | _ => .bad)
    rw [hF] at hi
    refine x1_2 (Option.bind_eq_some_iff.mp hi) fun a h1 h2 => ?_
    rw [List.getElem?_map]
    cases q : dfs[i]? with
    | none => exact fun _ _ _ _ _ _ _ _ _ _ => trivial
    | some o =>
      cases o with
      | none => exact fun _ _ _ _ _ _ _ _ _ _ => trivial
      | some f =>
        simp only [Option.map_some, callD_eq]
        split
        · rename_i hl
          have := hb i a f h1 q
          refine x1_2 (Option.bind_eq_some_iff.mp (show (faAt S.K S.T a).bind (fun fa => fnAt S.K fa f.prm f.ns) = some (f.names, f.body) from this)) fun fa' h3 h4 => ?_
          rw [h2] at h3; cases h3
          exact call_ok (r := (f.names, f.body)) h4 Y (fun hot => callF_ok hF Y hb k hot) (by lia) hl
        · exact fun _ _ _ _ _ _ _ _ _ _ => trivial
theorem law_ok {l : OpenLaw} {w : World} {s₁ : Shared} {cl : Str → Option Addr} {mean : ExcName → Option Value} {mg : Str → Option Value} {args : List WData} {vs : List Value} {xs : List Int} {fa a : Addr} (S : Stat) (G : Gm) {i : Nat} {Φ : FT} (hp : S.prog = l.row.prog) (hw : S.w = w) (hb : S.base = s₁.heap) (hm : S.mg = mg) (hg : s₁.gens = #[])
    (hmg : mg l.name = some (.ref fa)) (Y : Fit S G) (hf : S.T.fns[i]? = some (some l.name)) (F : FOK S false 40 Φ) (hI : IntsAre vs xs) (hL : s₁.heap.IsList a vs.toArray) (hW : Well w.params s₁.heap (.ref a) (ofPy (.list (xs.map .int)))) (hn : ¬ (63 : Int) < xs.length)
    (h : ∀ xs : List Int, xs.length ≤ 63 → ∃ H', Φ i [.lst (xs.map .int)] [] = .ok (.bool true) H') :
    wpAny (model l.row.prog w) callerA (call (.ref fa) [.ref a]) (fun v s' => GoodWG l.row.claim cl mean args s₁ (.ok (.ret v)) s')
      (fun e s' => GoodWG l.row.claim cl mean args s₁ (.error e) s') s₁ := by
  refine x1_3 (Y.fn i _ hf) fun f e0 e1 _ => ?_
  have e2 : mg l.name = some (.ref f) := by rw [← hm]; exact mg_of S.hK S.hT.g e1
  rw [hmg] at e2
  cases e2
  have nof : ∀ b, ¬ foot [] b := fun b ⟨p, hp, _⟩ => nomatch hp
  have hargs : VRels (wdOf S ([], []) s₁.heap []) [.ref a] [.lst (xs.map .int)] := by
    obtain ⟨o, ho, hc, n, hd⟩ := hL
    have : ∃ us : List Value, s₁.heap.get? a = some { cls := .type "list", data := .seq us.toArray } := by
      generalize hv : Value.ref a = v at hW
      generalize hdd : ofPy (.list (xs.map .int)) = dd at hW
      cases hW with
      | list q _ => cases hv; exact ⟨_, q⟩
      | _ => cases hdd
    obtain ⟨us, hu⟩ := this
    rw [hu] at ho
    cases ho
    have : us.toArray = vs.toArray := by injection hd
    have hx : ¬ (wdOf S ([], []) s₁.heap []).F a := fun q => q.elim (nof a) fun q => nomatch q
    have hr : VRels (wdOf S ([], []) s₁.heap []) us.toArray.toList (xs.map .int) := by
      rw [this]
      simpa using ints_rel hI
    exact .cons (.lst (w := wdOf S ([], []) s₁.heap []) (vs := us.toArray) (n := 0) hu hx hr.1 hr.2) .nil
  rw [← hp, ← hw]
  have L : Live { S := S, A := callerA, fe := [], d := 40, hot := false, pv := ([], []) } s₁.heap [] := by
    refine ⟨rfl, trivial, ?_, ?_, ?_, fun _ => rfl, ?_, ?_, ?_, ?_, ?_⟩
    · intro b o e
      have e' : S.base.get? b = some o := e
      rw [hb] at e'; exact e'
    · intro b q; cases q
    · intro b q; exact (nof b q).elim
    · intro b q; cases q
    · show callerA.depth + 40 < recursionLimit
      decide +kernel
    · show callerA.units + 20 * 40 + 100 < cLine
      decide +kernel
    · rintro b (q | q) <;> cases q
    · intro b q; cases q
  have R : Rep S ([], []) s₁.heap [] [] := ⟨rfl, fun n p ao e => (nomatch e), fun i j p q e => (nomatch e), fun n p e => (nomatch e), fun n p es e => (nomatch e)⟩
  obtain ⟨H', hH⟩ := h xs (by lia)
  have A := F i fa [.lst (xs.map .int)] [] e0 { S := S, A := callerA, fe := [], d := 40, hot := false, pv := ([], []) } s₁ [] [.ref a] rfl rfl (Nat.le_refl _) L R hargs
  rw [hH] at A
  refine wpAny_call (codeAny_mono A fun r s' ⟨v, e, M', x, rp, r⟩ => ?_)
  subst e
  rw [show v = .bool true from r.inv]
  have keep : ∀ b o, s₁.heap.get? b = some o → s'.heap.get? b = some o := fun b o e => x.keep b o e (fun q => (nof b q).elim) (fun q => q) (fun q => by cases q)
  exact ⟨.inl ⟨_, .bool true, [], rfl, fun _ => rfl, .bool true, by first | with_unfolding_all rfl | kernel_rfl, fun _ => ⟨.nil, fun _ h => by cases h⟩⟩, .of_keep keep, x.os, .of_eq (x.gens.trans hg)⟩
theorem fragAt_in (n : Nat) (h : Heap) : (fragAt n h).In h := by
  unfold fragAt
  generalize List.range n = l
  intro a o e
  induction l with
  | nil => cases e
  | cons b r ih =>
    rw [List.filterMap_cons] at e
    cases e' : h.get? b with
    | none => rw [e'] at e; exact ih e
    | some o' =>
      rw [e'] at e
      simp only [Option.map_some, List.lookup_cons] at e
      cases q : a == b with
      | true => rw [q] at e; cases e; exact eq_of_beq q ▸ e'
      | false => rw [q] at e; exact ih e
noncomputable def hookOf {α : Type} (n : Nat) (f : Frag → α) (v : α) : Hook :=
  ⟨α, fun s => f (fragAt n s.heap), fun _ => v, fun _ h => ∃ K : Frag, K.In h ∧ f K = v, fun _ s e => ⟨_, fragAt_in n s.heap, e⟩, fun _ _ _ ⟨K, a, b⟩ k => ⟨K, a.keeps k, b⟩⟩
theorem head_of {l : OpenLaw} {q : Program} {α : Type} {n N : Nat} {f : Frag → α} {v : α} (said : l.wellSaid = true) (hd : (defOf q l.row.name).isSome = true)
    (left : LeftO l.row.prog q [] (xtOf l q) (fun s => f (fragAt n s.heap)) (fun _ => v) N)
    (hp : l.row.prog.theDef l.row.name = some (((defOf q l.row.name).get hd).1.params, ((defOf q l.row.name).get hd).1.body, ((defOf q l.row.name).get hd).1.scope))
    (hk : kwWritten? ((defOf q l.row.name).get hd).1.params.kwonlyargs ((defOf q l.row.name).get hd).1.params.kw_defaults = some ((defOf q l.row.name).get hd).2)
    (hwr : (!l.row.writes || l.row.records.isEmpty) = true) (ok : (chainsOk q && opensWell l.row.prog && (frees l.row.toRowW && l.row.within.isEmpty)) = true) (hb : l.row.prog.bare) (hw : l.row.toRowW.promised)
    (call : WalkO q [] (XL q []) (fun _ h => ∃ K : Frag, K.In h ∧ f K = v) l.row.toRowW ((defOf q l.row.name).get hd).1 ((defOf q l.row.name).get hd).2 fun f vs => PySem.call f vs) : l.Holds :=
  holds_law said fun said' =>
    holds_open (q := q) (loose := []) (Xt := xtOf l q) (XP := XL q []) (Yf := Hook.obs (hookOf n f v)) (Ya := Hook.val (hookOf n f v)) (YP := Hook.says (hookOf n f v)) (N := N) left (Hook.of (hookOf n f v)) (Hook.keeps (hookOf n f v))
      (fun s e => xl_of s (Bool.and_eq_true_iff.mp e).1) XL.keeps (Option.some_get hd).symm hp hk (fun s e => recFacts_of (Bool.and_eq_true_iff.mp e).2) hwr said' ok hb hw call
noncomputable def Tx.dfs (t : Tx) : List (Option Df) := t.src.map (dfAt t.prog t.T)
noncomputable def Tx.tab (t : Tx) : List (Option FnD) := t.dfs.map fun o => o.map (fnD t.T t.G t.mts)
noncomputable abbrev Tx.run (t : Tx) (k : Nat) (hot : Bool) : FT := callF t.tab k hot
theorem Tx.facts {t : Tx} {S : Stat} (hT : S.T = t.T) (hX : S.X = exA S.K S.T) (hC : S.cl = clA S.K S.T) (hF : S.fa = faA S.K S.T t.src) (h : t.ask S.K = t.said) : Fit S t.G ∧ ∀ k hot, FOK S hot (2 * k) (t.run k hot) := by
  obtain ⟨h1, h2⟩ := Prod.mk.inj h
  rw [← hT] at h1 h2
  have Y := fit_of hX hC hF h1
  refine ⟨Y, ?_⟩
  unfold Tx.run Tx.tab
  rw [← hT]
  refine callF_ok hF Y fun i a f e1 e2 => ?_
  have e3 : dfAt t.prog S.T a = some f := by
    unfold Tx.dfs at e2
    rw [List.getElem?_map, e1, hT.symm] at e2
    exact Option.some.inj e2
  have := congrArg (fun l => l[i]?) h2
  simp only [List.getElem?_map, e1, Option.map_some, e3] at this
  exact Option.some.inj this
theorem run_of {t : Tx} {k i np nn : Nat} {hot : Bool} {args : List AV} {H : AH} {d : (Bool → FT) → Bool → DS} (h : args.length = np) (e : t.tab[i]? = some (some ⟨np, nn, d⟩)) : t.run (k + 1) hot i args H = (d (t.run k) hot (rho0 args nn) H).done := by
  show (match t.tab[i]? with | some (some f) => callD f (callF t.tab k) hot args H | _ => .bad) = _
  rw [e]
  exact if_pos h
noncomputable def RunAt (R : Nat → Bool → FT) (i n m : Nat) (d : (Bool → FT) → Bool → DS) : Prop := ∀ k hot args H, args.length = n → R (k + 1) hot i args H = (d (R k) hot (rho0 args m) H).done
theorem run_at {t : Tx} {L : List (Option FnD)} {i n m : Nat} {d : (Bool → FT) → Bool → DS} (q : t.tab = L) (e : L[i]? = some (some ⟨n, m, d⟩)) : RunAt t.run i n m d := fun k hot args H h => run_of h (q ▸ e)
theorem left_and {p q : Program} {loose : List Str} {Xt : Shared → Bool} {α : Type} {Yf : Shared → α} {Ya : World → α} {N : Nat} (h : LeftO p q loose Xt (fun _ => ()) (fun _ => ()) N) (h2 : ∀ w, (openEnds treeTable p w N).map Yf = some (Ya w)) : LeftO p q loose Xt Yf Ya N := fun w => by
  have a := h w
  have b := h2 w
  generalize openEnds treeTable p w N = o at a b
  cases o with
  | none => cases b
  | some s =>
    simp only [Option.map_some, Option.some.injEq, Prod.mk.injEq, and_true] at a b ⊢
    exact ⟨a, b⟩
theorem map_and {α β : Type} {o : Option Shared} {f : Shared → α} {g : Shared → β} {a : α} {b : β} (h1 : o.map f = some a) (h2 : o.map g = some b) : o.map (fun s => (f s, g s)) = some (a, b) := by
  cases o with
  | none => cases h1
  | some s => cases h1; cases h2; rfl
theorem topN_run {tb : String → Option Builtin} {p : Program} {w : World} {n₀ : Nat} {ann : Option Value} {m : Nat} {s' : Shared} {t' : Thread} : ∀ (k : Nat) (s : Shared) (t : Thread), topN tb p w n₀ ann k s t = some (s', t') → topRun tb p w n₀ ann (k + m) s t = topRun tb p w n₀ ann m s' t'
  | 0, s, t, h => by
    cases h
    rw [Nat.zero_add]
  | k + 1, s, t, h => by
    rw [Nat.succ_add]
    have h : (match through t with | true => none | false => match stepOk n₀ ann t with | false => none | true => match step (denote tb) p w s t with | .go s' t' => topN tb p w n₀ ann k s' t' | .halt _ _ => none) = some (s', t') := h
    show (match through t with | true => some s | false => _) = _
    cases h1 : through t with
    | true => rw [h1] at h; cases h
    | false =>
      rw [h1] at h
      cases h2 : stepOk n₀ ann t with
      | false => rw [h2] at h; cases h
      | true =>
        rw [h2] at h
        cases h3 : step (denote tb) p w s t with
        | halt o s' => rw [h3] at h; cases h
        | go s1 t1 =>
          rw [h3] at h
          exact topN_run k s1 t1 h
theorem ends_cut {p : Program} {w : World} {N k m : Nat} {s : Shared} {t : Thread} (hN : N = k + m) (h0 : ((fencedOpening treeTable p w N).isSome && (s0 p w N).heap.isNs mainGlobals && (s0 p w N).gens.size == 0) = true)
    (h1 : (topN treeTable p w (s0 p w N).heap.objs.size (ann0 p w N) k (s0 p w N) (topStub p)).map (fun x => x.1) = some s) (h2 : (topN treeTable p w (s0 p w N).heap.objs.size (ann0 p w N) k (s0 p w N) (topStub p)).map (fun x => x.2) = some t) : openEnds treeTable p w N = ends p w N m s t := by
  have h : topN treeTable p w (s0 p w N).heap.objs.size (ann0 p w N) k (s0 p w N) (topStub p) = some (s, t) := by
    generalize topN treeTable p w (s0 p w N).heap.objs.size (ann0 p w N) k (s0 p w N) (topStub p) = o at h1 h2
    cases o with
    | none => cases h1
    | some x => cases h1; cases h2; rfl
  clear h1 h2
  unfold openEnds ends
  have h1 : fencedOpening treeTable p w N = some (s0 p w N) := by
    unfold s0
    cases e : fencedOpening treeTable p w N with
    | none => rw [e] at h0; simp at h0
    | some s => rfl
  rw [h1]
  simp only [Bool.and_eq_true] at h0
  show topFrom treeTable p w N (s0 p w N) = _
  unfold topFrom
  rw [show ((s0 p w N).heap.isNs mainGlobals && (s0 p w N).gens.size == 0) = true from Bool.and_eq_true_iff.mpr ⟨h0.1.2, h0.2⟩]
  show (topRun treeTable p w _ (ann0 p w N) N _ _).bind _ = _
  have e : topRun treeTable p w (s0 p w N).heap.objs.size (ann0 p w N) N (s0 p w N) (topStub p) = topRun treeTable p w (s0 p w N).heap.objs.size (ann0 p w N) (k + m) (s0 p w N) (topStub p) := congrArg (fun n => topRun treeTable p w (s0 p w N).heap.objs.size (ann0 p w N) n (s0 p w N) (topStub p)) hN
  rw [e, topN_run k _ _ h]
  rfl
noncomputable def dc_is_whole (Φ : Bool → FT) (hot : Bool) : DS := (seqS [retS (bopE true [(isiE gmC (varE 0) [.int]), (ntE (isiE gmC (varE 0) [.bool]))])])
noncomputable def dc_is_stretch (Φ : Bool → FT) (hot : Bool) : DS := (seqS [ifS (bopE false [(cmpE (biE hot .len [(varE 0)]) [.NotEq] [(cstE (.int 2))]), (ntE (callE (Φ hot) 0 [(subE (varE 0) (cstE (.int 0)))])), (ntE (callE (Φ hot) 0 [(subE (varE 0) (cstE (.int 1)))]))]) (seqS [retS (cstE (.bool false))]) (seqS []), retS (cmpE (cstE (.int 0)) [.LtE, .Lt, .LtE] [(subE (varE 0) (cstE (.int 0))), (subE (varE 0) (cstE (.int 1))), (cstE (.int 1000000))])])
noncomputable def dc_day_of (Φ : Bool → FT) (hot : Bool) : DS := (seqS [retS (binE false .FloorDiv (subE (varE 0) (cstE (.int 0))) (cstE (.int 24)))])
noncomputable def dc_in_one_day (Φ : Bool → FT) (hot : Bool) : DS := (seqS [retS (cmpE (callE (Φ hot) 3 [(varE 0)]) [.Eq] [(binE false .FloorDiv (binE false .Sub (subE (varE 0) (cstE (.int 1))) (cstE (.int 1))) (cstE (.int 24)))])])
noncomputable def dc_is_name (Φ : Bool → FT) (hot : Bool) : DS := (seqS [ifS (ntE (cmpE (cstE (.int 1)) [.LtE, .LtE] [(biE hot .len [(varE 0)]), (cstE (.int 20))])) (seqS [retS (cstE (.bool false))]) (seqS []), forS hot (.one 1) (varE 0) (seqS [ifS (ntE (cmpE (cstE (.str "!")) [.LtE, .LtE] [(varE 1), (cstE (.str "~"))])) (seqS [retS (cstE (.bool false))]) (seqS [])]), retS (cstE (.bool true))])
noncomputable def dc_checked_skills_b1 (Φ : Bool → FT) (hot : Bool) : DS := (seqS [ifS (ntE (callE (Φ hot) 5 [(varE 2)])) (seqS [raiseS hot 1]) (seqS []), ifS (cmpE (varE 2) [.In] [(varE 1)]) (seqS [raiseS hot 4]) (seqS []), exprS (mbE .append (varE 1) [(varE 2)])])
noncomputable def dc_checked_skills (Φ : Bool → FT) (hot : Bool) : DS := (seqS [assignS hot (.one 1) (lstE true []), forS hot (.one 2) (varE 0) (dc_checked_skills_b1 Φ hot), retS (varE 1)])
noncomputable def dc_checked_needs_b1 (Φ : Bool → FT) (hot : Bool) : DS := (seqS [ifS (ntE (callE (Φ hot) 5 [(varE 3)])) (seqS [raiseS hot 1]) (seqS []), ifS (cmpE (varE 3) [.In] [(varE 1)]) (seqS [raiseS hot 4]) (seqS []), ifS (bopE false [(ntE (callE (Φ hot) 0 [(varE 4)])), (ntE (cmpE (cstE (.int 1)) [.LtE, .LtE] [(varE 4), (cstE (.int 9))]))]) (seqS [raiseS hot 3]) (seqS []), exprS (mbE .append (varE 1) [(varE 3)]), exprS (mbE .append (varE 2) [(tupE [(varE 3), (varE 4)])])])
noncomputable def dc_checked_needs (Φ : Bool → FT) (hot : Bool) : DS := (seqS [assignS hot (.one 1) (lstE true []), assignS hot (.one 2) (lstE true []), forS hot (.many [3, 4]) (varE 0) (dc_checked_needs_b1 Φ hot), retS (varE 2)])
noncomputable def dc_l_cell (Φ : Bool → FT) (hot : Bool) : DS := (seqS [retS (subE (binE false .Add (slcE false (varE 0) (varE 1) (binE false .Add (varE 1) (cstE (.int 1))) (cstE .none)) (lstE false [(cstE (.int 0))])) (cstE (.int 0)))])
noncomputable def dc_l_sign (Φ : Bool → FT) (hot : Bool) : DS := (seqS [assignS hot (.one 1) (cstE (.str "abcdefghijklmnopqrstuvwxyz{|}~")), assignS hot (.one 2) (cstE (.str "@ABCDEFGHIJKLMNOPQRSTUVWXYZ[\\]^_`")), retS (subE (binE false .Add (binE false .Add (cstE (.str "!\"#$&'()*+,-./0123456789:;<=>?")) (varE 2)) (varE 1)) (binE false .Mod (varE 0) (cstE (.int 93))))])
noncomputable def dc_Person_init (Φ : Bool → FT) (hot : Bool) : DS := (seqS [setAttrS 0 (varE 0) (varE 1), setAttrS 1 (varE 0) (varE 2), setAttrS 2 (varE 0) (lstE true [])])
noncomputable def dc_Shift_init (Φ : Bool → FT) (hot : Bool) : DS := (seqS [setAttrS 3 (varE 0) (varE 1), setAttrS 4 (varE 0) (varE 2)])
noncomputable def dc_Book_init (Φ : Bool → FT) (hot : Bool) : DS := (seqS [setAttrS 5 (varE 0) dct0E, setAttrS 6 (varE 0) dct0E])
noncomputable def dc_Book_add_person (Φ : Bool → FT) (hot : Bool) : DS := (seqS [ifS (ntE (callE (Φ hot) 5 [(varE 1)])) (seqS [raiseS hot 1]) (seqS []), assignS hot (.one 4) (callE (Φ hot) 6 [(varE 2)]), ifS (bopE false [(ntE (callE (Φ hot) 0 [(varE 3)])), (ntE (cmpE (cstE (.int 1)) [.LtE, .LtE] [(varE 3), (cstE (.int 31))]))]) (seqS [raiseS hot 3]) (seqS []), ifS (cmpE (varE 1) [.In] [(attrE 5 (varE 0))]) (seqS [raiseS hot 4]) (seqS []), setItemS (attrE 5 (varE 0)) (varE 1) (newE gmC (Φ hot) 0 [(varE 4), (varE 3)])])
noncomputable def dc_Book_add_rest (Φ : Bool → FT) (hot : Bool) : DS := (seqS [assignS hot (.one 3) (moE gmC (Φ hot) 4 (varE 0) [(varE 1)]), ifS (ntE (callE (Φ hot) 1 [(varE 2)])) (seqS [raiseS hot 2]) (seqS []), exprS (mbE .append (attrE 2 (varE 3)) [(varE 2)])])
noncomputable def dc_Book_add_shift (Φ : Bool → FT) (hot : Bool) : DS := (seqS [ifS (ntE (callE (Φ hot) 5 [(varE 1)])) (seqS [raiseS hot 1]) (seqS []), ifS (bopE false [(ntE (callE (Φ hot) 1 [(varE 2)])), (ntE (callE (Φ hot) 4 [(varE 2)]))]) (seqS [raiseS hot 2]) (seqS []), assignS hot (.one 4) (callE (Φ hot) 7 [(varE 3)]), ifS (cmpE (varE 1) [.In] [(attrE 6 (varE 0))]) (seqS [raiseS hot 4]) (seqS []), setItemS (attrE 6 (varE 0)) (varE 1) (newE gmC (Φ hot) 1 [(varE 2), (varE 4)])])
noncomputable def dc_Book_person (Φ : Bool → FT) (hot : Bool) : DS := (seqS [ifS (cmpE (varE 1) [.NotIn] [(attrE 5 (varE 0))]) (seqS [raiseS hot 5]) (seqS []), retS (subE (attrE 5 (varE 0)) (varE 1))])
noncomputable def dc_Book_shift (Φ : Bool → FT) (hot : Bool) : DS := (seqS [ifS (cmpE (varE 1) [.NotIn] [(attrE 6 (varE 0))]) (seqS [raiseS hot 5]) (seqS []), retS (subE (attrE 6 (varE 0)) (varE 1))])
noncomputable def dc_Book_posts (Φ : Bool → FT) (hot : Bool) : DS := (seqS [assignS hot (.one 1) (lstE true []), forS hot (.one 2) (attrE 6 (varE 0)) (seqS [forS hot (.many [3, 4]) (attrE 4 (subE (attrE 6 (varE 0)) (varE 2))) (seqS [exprS (mbE .append (varE 1) [(tupE [(varE 2), (varE 3)])])])]), retS (varE 1)])
noncomputable def dc_Book_limit_of (Φ : Bool → FT) (hot : Bool) : DS := (seqS [retS (attrE 1 (moE gmC (Φ hot) 4 (varE 0) [(varE 1)]))])
noncomputable def dc_Book_stretch_of (Φ : Bool → FT) (hot : Bool) : DS := (seqS [retS (attrE 3 (moE gmC (Φ hot) 5 (varE 0) [(varE 1)]))])
noncomputable def dc_Book_count_of (Φ : Bool → FT) (hot : Bool) : DS := (seqS [forS hot (.many [3, 4]) (attrE 4 (moE gmC (Φ hot) 5 (varE 0) [(varE 1)])) (seqS [ifS (cmpE (varE 3) [.Eq] [(varE 2)]) (seqS [retS (varE 4)]) (seqS [])]), raiseS hot 5])
section
variable {ρ : RE} {H H₁ H₂ H₃ H₄ : AH} {a b c v : AV} {as : List AV} {o : Out AV} {e l r t f : DE} {es : List DE} {hot mt : Bool} {Φ : FT} {G : Gm}
theorem in_at {n cl : Nat} {fs : List (Option AV)} (h : H[n]? = some (.inst cl fs)) : inOf H (.ref n) = some (n, cl, fs) := by show (match H[n]? with | some (.inst c fs) => some (n, c, fs) | _ => none) = _; rw [h]
theorem e_bin {op : Operator} (h1 : l ρ H = .ok a H₁) (h2 : r ρ H₁ = .ok b H₂) (h : binA mt op a b H₂ = o) : binE mt op l r ρ H = o := by unfold binE; rw [h1]; show (r ρ H₁).bind _ = o; rw [h2]; exact h
theorem e_sub (h1 : l ρ H = .ok a H₁) (h2 : r ρ H₁ = .ok b H₂) (h : subA a b H₂ = o) : subE l r ρ H = o := by unfold subE; rw [h1]; show (r ρ H₁).bind _ = o; rw [h2]; exact h
theorem e_slc {lo hi st : DE} {x y z : AV} (h1 : l ρ H = .ok a H₁) (h2 : lo ρ H₁ = .ok x H₂) (h3 : hi ρ H₂ = .ok y H₃) (h4 : st ρ H₃ = .ok z H₄) (h : slcA mt a x y z H₄ = o) : slcE mt l lo hi st ρ H = o := by
  unfold slcE; rw [h1]; show (lo ρ H₁).bind _ = o; rw [h2]; show (hi ρ H₂).bind _ = o; rw [h3]; show (st ρ H₃).bind _ = o; rw [h4]; exact h
theorem l_nil : evL [] ρ H = .ok [] H := rfl
theorem l_cons (h1 : e ρ H = .ok a H₁) (h2 : evL es ρ H₁ = .ok as H₂) : evL (e :: es) ρ H = .ok (a :: as) H₂ := by show (e ρ H).bind _ = _; rw [h1]; show (evL es ρ H₁).bind _ = _; rw [h2]; rfl
theorem l_one (h1 : e ρ H = .ok a H₁) : evL [e] ρ H = .ok [a] H₁ := l_cons h1 rfl
theorem l_two {e' : DE} (h1 : e ρ H = .ok a H₁) (h2 : e' ρ H₁ = .ok b H₂) : evL [e, e'] ρ H = .ok [a, b] H₂ := l_cons h1 (l_one h2)
theorem l_three {e' e'' : DE} (h1 : e ρ H = .ok a H₁) (h2 : e' ρ H₁ = .ok b H₂) (h3 : e'' ρ H₂ = .ok c H₃) : evL [e, e', e''] ρ H = .ok [a, b, c] H₃ := l_cons h1 (l_two h2 h3)
theorem e_lst (h1 : evL es ρ H = .ok as H₁) (hl : as.length ≤ 1000) (h : newL mt as H₁ = o) : lstE mt es ρ H = o := by
  unfold lstE; rw [h1]; exact (if_pos (Nat.le_trans hl (by decide))).trans h
theorem e_tup (h1 : evL es ρ H = .ok as H₁) (hl : as.length ≤ 1000) : tupE es ρ H = .ok (.tup as) H₁ := by
  unfold tupE; rw [h1]; exact if_pos (Nat.le_trans hl (by decide))
theorem e_call {i : Nat} (h1 : evL es ρ H = .ok as H₁) (h : Φ i as H₁ = o) : callE Φ i es ρ H = o := by unfold callE; rw [h1]; exact h
theorem e_bi {x : Bi} (h1 : evL es ρ H = .ok as H₁) (h : biA hot x as H₁ = o) : biE hot x es ρ H = o := by unfold biE; rw [h1]; exact h
theorem e_mo {m n cl i : Nat} {fs : List (Option AV)} (h1 : e ρ H = .ok (.ref n) H₁) (h2 : H₁[n]? = some (.inst cl fs)) (h3 : G.fn cl m = some i) (h4 : evL es ρ H₁ = .ok as H₂) (h : Φ i (.ref n :: as) H₂ = o) : moE G Φ m e es ρ H = o := by
  unfold moE; rw [h1]; show (orBad (inOf H₁ (.ref n)) _) = o
  have : inOf H₁ (.ref n) = some (n, cl, fs) := in_at h2
  rw [this]; show orBad (G.fn cl m) _ = o; rw [h3]; show (evL es ρ H₁).bind _ = o; rw [h4]; exact h
theorem e_attr {k n cl : Nat} {fs : List (Option AV)} (h1 : e ρ H = .ok (.ref n) H₁) (h2 : H₁[n]? = some (.inst cl fs)) (h3 : fs[k]? = some (some v)) : attrE k e ρ H = .ok v H₁ := by
  unfold attrE; rw [h1]; show (orBad (inOf H₁ (.ref n)) _) = _
  have : inOf H₁ (.ref n) = some (n, cl, fs) := in_at h2
  rw [this]; show (match fs[k]? with | some (some v) => Out.ok v H₁ | _ => .bad) = _; rw [h3]
theorem e_new {cl i : Nat} (h1 : evL es ρ H = .ok as H₁) (h2 : G.fn cl 0 = some i) (h : Φ i (.ref H₁.length :: as) (H₁ ++ [.inst cl (List.replicate G.na none)]) = .ok .none H₂) : newE G Φ cl es ρ H = .ok (.ref H₁.length) H₂ := by
  unfold newE; rw [h1]; show orBad (G.fn cl 0) _ = _; rw [h2]; show (Φ i _ _).bind _ = _; rw [h]; rfl
theorem e_nt {x : Bool} (h : e ρ H = .ok (.bool x) H₁) : ntE e ρ H = .ok (.bool (!x)) H₁ := by unfold ntE; rw [h]; rfl
theorem e_cmp {op : CmpOp} {x : Bool} (h1 : l ρ H = .ok a H₁) (h2 : r ρ H₁ = .ok b H₂) (h : cmpA H₂ op a b = some x) : cmpE l [op] [r] ρ H = .ok (.bool x) H₂ := by
  unfold cmpE; rw [h1]; show (r ρ H₁).bind _ = _; rw [h2]; show orBad (cmpA H₂ op a b) _ = _; rw [h]; rfl
theorem e_cmp2 {op op' : CmpOp} {x y : Bool} {r' : DE} (h1 : l ρ H = .ok a H₁) (h2 : r ρ H₁ = .ok b H₂) (h : cmpA H₂ op a b = some x) (h3 : r' ρ H₂ = .ok c H₂) (h' : cmpA H₂ op' b c = some y) : cmpE l [op, op'] [r, r'] ρ H = .ok (.bool (x && y)) H₂ := by
  unfold cmpE; rw [h1]; show (r ρ H₁).bind _ = _; rw [h2]; show orBad (cmpA H₂ op a b) _ = _; rw [h]
  cases x with
  | false => rfl
  | true => show (r' ρ H₂).bind _ = _; rw [h3]; show orBad (cmpA H₂ op' b c) _ = _; rw [h']; rfl
theorem e_cmp3 {op op' op'' : CmpOp} {x y z : Bool} {r' r'' : DE} {d : AV} (h1 : l ρ H = .ok a H₁) (h2 : r ρ H₁ = .ok b H₂) (h : cmpA H₂ op a b = some x) (h3 : r' ρ H₂ = .ok c H₂) (h' : cmpA H₂ op' b c = some y) (h4 : r'' ρ H₂ = .ok d H₂) (h'' : cmpA H₂ op'' c d = some z) : cmpE l [op, op', op''] [r, r', r''] ρ H = .ok (.bool (x && (y && z))) H₂ := by
  unfold cmpE; rw [h1]; show (r ρ H₁).bind _ = _; rw [h2]; show orBad (cmpA H₂ op a b) _ = _; rw [h]
  cases x with
  | false => rfl
  | true =>
    show (r' ρ H₂).bind _ = _; rw [h3]; show orBad (cmpA H₂ op' b c) _ = _; rw [h']
    cases y with
    | false => rfl
    | true => show (r'' ρ H₂).bind _ = _; rw [h4]; show orBad (cmpA H₂ op'' c d) _ = _; rw [h'']; rfl
theorem e_and2 {x y : Bool} (h1 : l ρ H = .ok (.bool x) H₁) (h2 : r ρ H₁ = .ok (.bool y) H₁) : bopE true [l, r] ρ H = .ok (.bool (x && y)) H₁ := by
  show (l ρ H).bind _ = _; rw [h1]; show (if x = true then _ else _) = _
  cases x with
  | false => rfl
  | true => exact h2
theorem e_or2 {x y : Bool} (h1 : l ρ H = .ok (.bool x) H₁) (h2 : r ρ H₁ = .ok (.bool y) H₁) : bopE false [l, r] ρ H = .ok (.bool (x || y)) H₁ := by
  show (l ρ H).bind _ = _; rw [h1]; show (if x = false then _ else _) = _
  cases x with
  | true => rfl
  | false => exact h2
theorem e_or3 {x y z : Bool} {r' : DE} (h1 : l ρ H = .ok (.bool x) H₁) (h2 : r ρ H₁ = .ok (.bool y) H₁) (h3 : r' ρ H₁ = .ok (.bool z) H₁) : bopE false [l, r, r'] ρ H = .ok (.bool (x || y || z)) H₁ := by
  have := e_or2 h2 h3
  show (l ρ H).bind _ = _; rw [h1]; show (if x = false then _ else _) = _
  cases x with
  | true => rfl
  | false => exact this
end
section
variable {ρ ρ' : RE} {H H₁ H₂ : AH} {a : AV} {o : OutS} {e t : DE} {r : List DS} {s b c : DS} {hot : Bool}
theorem s_asg {i : Nat} (h : e ρ H = .ok a H₁) (h2 : seqS r (ρ.set i (some a)) H₁ = o) : seqS (assignS hot (.one i) e :: r) ρ H = o := by
  show (assignS hot (.one i) e ρ H).then _ = o; unfold assignS; rw [h]; exact h2
theorem s_expr (h : e ρ H = .ok a H₁) (h2 : seqS r ρ H₁ = o) : seqS (exprS e :: r) ρ H = o := by
  show (exprS e ρ H).then _ = o; unfold exprS; rw [h]; exact h2
theorem s_ret (h : e ρ H = .ok a H₁) : seqS (retS e :: r) ρ H = .ret a H₁ := by
  show (retS e ρ H).then _ = _; unfold retS; rw [h]; rfl
theorem s_if {x : Bool} (h : t ρ H = .ok (.bool x) H₁) (h1 : x = true → (b ρ H₁).then (seqS r) = o) (h2 : x = false → (c ρ H₁).then (seqS r) = o) : seqS (ifS t b c :: r) ρ H = o := by
  show (ifS t b c ρ H).then _ = o; unfold ifS; rw [h]
  cases x with
  | true => exact h1 rfl
  | false => exact h2 rfl
theorem s_skip (h : t ρ H = .ok (.bool false) H₁) (h2 : seqS r ρ H₁ = o) : seqS (ifS t b (seqS []) :: r) ρ H = o := by
  show (ifS t b (seqS []) ρ H).then _ = o; unfold ifS; rw [h]; exact h2
end
theorem sm_ok {k : Int} (h0 : 0 ≤ k) (h : k ≤ 1000000) : small k = true := by unfold small; simp; lia
theorem sm_at {k : Int} {n : Nat} (h0 : 0 ≤ k) (h : k.toNat < n) (hl : n ≤ 1000000) : small k = true ∧ idxA k n = some k.toNat := by
  have q := (Int.toNat_lt h0).mp h
  exact ⟨sm_ok h0 (Int.le_trans (Int.le_of_lt q) (Int.ofNat_le.mpr hl)), by unfold idxA; rw [if_pos h0, if_pos q]⟩
structure BookR (R : Nat → Bool → FT) : Prop where
  is_whole : RunAt R 0 1 1 dc_is_whole
  is_stretch : RunAt R 1 1 1 dc_is_stretch
  day_of : RunAt R 3 1 1 dc_day_of
  in_one_day : RunAt R 4 1 1 dc_in_one_day
  is_name : RunAt R 5 1 2 dc_is_name
  checked_skills : RunAt R 6 1 3 dc_checked_skills
  checked_needs : RunAt R 7 1 5 dc_checked_needs
  cell : RunAt R 8 2 2 dc_l_cell
  sign : RunAt R 9 1 3 dc_l_sign
  person_init : RunAt R 10 3 3 dc_Person_init
  shift_init : RunAt R 11 3 3 dc_Shift_init
  book_init : RunAt R 12 1 1 dc_Book_init
  add_person : RunAt R 13 4 5 dc_Book_add_person
  add_rest : RunAt R 14 3 4 dc_Book_add_rest
  add_shift : RunAt R 15 4 5 dc_Book_add_shift
  person : RunAt R 16 2 2 dc_Book_person
  shift : RunAt R 17 2 2 dc_Book_shift
variable {R : Nat → Bool → FT} {k : Nat} {hot : Bool} {H : AH}
theorem mod_ok {mt : Bool} {i j : Int} (h : 0 < j ∧ j < 1073741824) : binA mt .Mod (.int i) (.int j) H = .ok (.int (i % j)) H := by show (if 0 < j ∧ j < 1073741824 then _ else _) = _; exact if_pos h
theorem div_ok {mt : Bool} {i j : Int} (h : 0 < j ∧ j < 1073741824) : binA mt .FloorDiv (.int i) (.int j) H = .ok (.int (i / j)) H := by show (if 0 < j ∧ j < 1073741824 then _ else _) = _; exact if_pos h
theorem mulI {mt : Bool} {i j : Int} (h : (-(2 ^ 64) < i ∧ i < 2 ^ 64) ∨ (-(2 ^ 64) < j ∧ j < 2 ^ 64)) : binA mt .Mult (.int i) (.int j) H = .ok (.int (i * j)) H := by show (if (-(2 ^ 64) < i ∧ i < 2 ^ 64) ∨ (-(2 ^ 64) < j ∧ j < 2 ^ 64) then _ else _) = _; exact if_pos h
theorem addI {mt : Bool} {i j : Int} : binA mt .Add (.int i) (.int j) H = .ok (.int (i + j)) H := rfl
theorem addS {mt : Bool} {x y : Str} (h : x.length + y.length ≤ sizeLine) : binA mt .Add (.str x) (.str y) H = .ok (.str (x ++ y)) H := by show (if x.length + y.length ≤ sizeLine then _ else _) = _; exact if_pos h
theorem addL {mt : Bool} {xs ys : List AV} (h : xs.length + ys.length ≤ sizeLine) : binA mt .Add (.lst xs) (.lst ys) H = newL mt (xs ++ ys) H := by show (if xs.length + ys.length ≤ sizeLine then _ else _) = _; exact if_pos h
theorem ceq_int {i j : Int} : cmpA H .Eq (.int i) (.int j) = some (decide (i = j)) := rfl
theorem sub2_0 {a b : AV} : subA (.tup [a, b]) (.int 0) H = .ok a H := by rfl
theorem sub2_1 {a b : AV} : subA (.tup [a, b]) (.int 1) H = .ok b H := by rfl
theorem subL {xs : List AV} {i : Int} {v : AV} (h0 : 0 ≤ i) (h : xs[i.toNat]? = some v) (hl : xs.length ≤ 1000000) : subA (.lst xs) (.int i) H = .ok v H := by
  have hlt := (List.getElem?_eq_some_iff.mp h).1
  obtain ⟨hs, hi⟩ := sm_at h0 hlt hl
  show (orBad (some xs) fun xs => orBad (atA i xs) fun v => .ok v H) = _
  unfold atA
  simp only [orBad, hs, if_true, hi, Option.bind_some, h]
theorem subS {x : Str} {i : Int} {c : Nat} (h0 : 0 ≤ i) (h : x.cps[i.toNat]? = some c) (hl : x.length ≤ 1000000) : subA (.str x) (.int i) H = .ok (AV.str ⟨#[c]⟩) H := by
  have hlt : i.toNat < x.length := (Array.getElem?_eq_some_iff.mp h).1
  obtain ⟨hs, hi⟩ := sm_at h0 hlt hl
  show (if small i = true then orBad ((idxA i x.length).bind fun n => x.cps[n]?) fun c => .ok (AV.str ⟨#[c]⟩) H else .bad) = _
  simp only [hs, if_true, hi, Option.bind_some, h, orBad]
theorem whole_run (C : BookR R) {a : Int} : R (k + 1) hot 0 [.int a] H = .ok (.bool true) H := by
  rw [C.is_whole _ _ _ _ rfl]; rfl
theorem stretch_run (C : BookR R) {a b : Int} : R (k + 2) hot 1 [.tup [.int a, .int b]] H = .ok (.bool (decide (0 ≤ a) && (decide (a < b) && decide (b ≤ 1000000)))) H := by
  rw [C.is_stretch _ _ _ _ rfl]
  refine congrArg OutS.done (s_skip (e_or3 (x := false) (y := false) (z := false) (e_cmp (e_bi (l_one rfl) rfl) rfl rfl) (e_nt (e_call (l_one (e_sub rfl rfl sub2_0)) (whole_run C))) (e_nt (e_call (l_one (e_sub rfl rfl sub2_1)) (whole_run C)))) (s_ret ?_))
  exact e_cmp3 rfl (e_sub rfl rfl sub2_0) rfl (e_sub rfl rfl sub2_1) rfl rfl rfl
theorem day_run (C : BookR R) {a b : Int} : R (k + 1) hot 3 [.tup [.int a, .int b]] H = .ok (.int (a / 24)) H := by
  rw [C.day_of _ _ _ _ rfl]
  exact congrArg OutS.done (s_ret (e_bin (e_sub rfl rfl sub2_0) rfl (div_ok (by decide))))
theorem one_day_run (C : BookR R) {a b : Int} : R (k + 2) hot 4 [.tup [.int a, .int b]] H = .ok (.bool (decide (a / 24 = (b - 1) / 24))) H := by
  rw [C.in_one_day _ _ _ _ rfl]
  exact congrArg OutS.done (s_ret (e_cmp (e_call (l_one rfl) (day_run C)) (e_bin (e_bin (e_sub rfl rfl sub2_1) rfl rfl) rfl (div_ok (by decide))) ceq_int))
noncomputable def okc (c : Nat) : Bool := decide (33 ≤ c) && decide (c ≤ 126)
noncomputable def nameOK (x : Str) : Bool := decide (1 ≤ x.length) && decide (x.length ≤ 20) && x.cps.toList.all okc
noncomputable def one (c : Nat) : AV := .str ⟨#[c]⟩
noncomputable def sgc (i : Int) : Nat := if (i % 93).toNat < 4 then (i % 93).toNat + 33 else (i % 93).toNat + 34
section
variable {ρ : RE} {H H₁ : AH} {a : AV} {xs : List AV} {hot mt : Bool}
set_option smartUnfolding false in
theorem loop_at {B : AV → DS} {P : OutS → Prop} {src : Src} (Inv : Nat → RE → AH → Prop) (hs : ∀ k ρ H, Inv k ρ H → itemAt H src k = some xs[k]?)
    (step : ∀ (k : Nat) v ρ H, xs[k]? = some v → Inv k ρ H → (∃ ρ' H', B v ρ H = .next ρ' H' ∧ Inv (k + 1) ρ' H') ∨ (∃ a H', B v ρ H = .ret a H' ∧ P (.ret a H')) ∨ ∃ c ρ' H', B v ρ H = .exc c ρ' H' ∧ P (.exc c ρ' H'))
    (fin : ∀ ρ H, Inv xs.length ρ H → P (.next ρ H)) : ∀ (n k : Nat) (ρ : RE) (H : AH), n + k = xs.length → Inv k ρ H → P (loopS B src n k ρ H)
  | 0, k, ρ, H, e, i => by
    show P (match itemAt H src k with | none => OutS.bad | some none => .next ρ H | some (some v) => .bad)
    rw [hs k ρ H i, List.getElem?_eq_none (by lia)]
    exact fin ρ H (by rw [show xs.length = k by lia]; exact i)
  | n + 1, k, ρ, H, e, i => by
    have hk : xs[k]? = some xs[k] := List.getElem?_eq_getElem (by lia)
    show P (match itemAt H src k with | none => OutS.bad | some none => .next ρ H | some (some v) => (B v ρ H).then (loopS B src n (k + 1)))
    rw [hs k ρ H i, hk]
    show P ((B xs[k] ρ H).then (loopS B src n (k + 1)))
    rcases step k _ ρ H hk i with ⟨ρ', H', e1, i'⟩ | ⟨a, H', e1, p⟩ | ⟨c, ρ', H', e1, p⟩
    · rw [e1]; exact loop_at Inv hs step fin n (k + 1) ρ' H' (by lia) i'
    · rw [e1]; exact p
    · rw [e1]; exact p
theorem loop_any {B : AV → DS} {P : OutS → Prop} (Inv : Nat → RE → AH → Prop)
    (step : ∀ (k : Nat) v ρ H, xs[k]? = some v → Inv k ρ H → (∃ ρ' H', B v ρ H = .next ρ' H' ∧ Inv (k + 1) ρ' H') ∨ (∃ a H', B v ρ H = .ret a H' ∧ P (.ret a H')) ∨ ∃ c ρ' H', B v ρ H = .exc c ρ' H' ∧ P (.exc c ρ' H'))
    (fin : ∀ ρ H, Inv xs.length ρ H → P (.next ρ H)) : ∀ (n k : Nat) (ρ : RE) (H : AH), n + k = xs.length → Inv k ρ H → P (loopS B (.seq xs) n k ρ H) := loop_at Inv (fun _ _ _ _ => rfl) step fin
theorem free_none (o : OutS) : o.free none = o := by cases o <;> rfl
theorem for_seq {i n : Nat} {it : DE} {b : DS} (h : it ρ H = .ok a H₁) (hs : srcOf H₁ a = some (.seq xs, n, none)) : forS false (.one i) it b ρ H = loopS (fun v ρ H => b (ρ.set i (some v)) H) (.seq xs) n 0 ρ H₁ := by
  unfold forS
  rw [h]
  show orBadS (srcOf H₁ a) _ = _
  rw [hs]
  exact free_none _
theorem for_many {is : List Nat} {n : Nat} {it : DE} {b : DS} (h : it ρ H = .ok a H₁) (hs : srcOf H₁ a = some (.seq xs, n, none)) : forS false (.many is) it b ρ H = loopS (fun v ρ H => orBadS (bindT false (.many is) v ρ) fun ρ₁ => b ρ₁ H) (.seq xs) n 0 ρ H₁ := by
  unfold forS
  rw [h]
  show orBadS (srcOf H₁ a) _ = _
  rw [hs]
  exact free_none _
set_option smartUnfolding false in
theorem compL_at {α : Type} {l : List α} {fx fy : α → AV} {p : α → Bool} {src : Src} {T E : AV → AH → Out AV} (hs : ∀ k, itemAt H src k = some (l.map fx)[k]?) (hT : ∀ x ∈ l, T (fx x) H = .ok (.bool (p x)) H) (hE : ∀ x ∈ l, p x = true → E (fx x) H = .ok (fy x) H) : ∀ (n k : Nat) (acc : List AV), n + k = l.length → compL T E src n k acc H = .ok (acc ++ ((l.drop k).filter p).map fy) H
  | 0, k, acc, e => by
    show (match itemAt H src k with | none => Out.bad | some none => .ok acc H | some (some v) => .bad) = _
    rw [hs k, List.getElem?_eq_none (by rw [List.length_map]; lia), List.drop_eq_nil_of_le (by lia)]
    exact congrArg (Out.ok · H) (List.append_nil acc).symm
  | n + 1, k, acc, e => by
    have hk : k < l.length := by lia
    have hk' : (l.map fx)[k]? = some (fx l[k]) := by rw [List.getElem?_map, List.getElem?_eq_getElem hk]; rfl
    have hm : l[k] ∈ l := List.getElem_mem _
    show (match itemAt H src k with | none => Out.bad | some none => .ok acc H | some (some v) => (T v H).bind fun c H₁ => asBool c fun c => if c then (E v H₁).bind fun a H₂ => compL T E src n (k + 1) (acc ++ [a]) H₂ else compL T E src n (k + 1) acc H₁) = _
    rw [hs k, hk', List.drop_eq_getElem_cons hk]
    show (T (fx l[k]) H).bind _ = _
    rw [hT _ hm]
    show (if p l[k] = true then _ else _) = _
    cases hp : p l[k] with
    | false =>
      rw [if_neg (by decide), List.filter_cons_of_neg (by rw [hp]; decide)]
      exact compL_at hs hT hE n (k + 1) acc (by lia)
    | true =>
      rw [if_pos rfl, List.filter_cons_of_pos hp, hE _ hm hp]
      show compL T E src n (k + 1) (acc ++ [fy l[k]]) H = _
      rw [compL_at hs hT hE n (k + 1) _ (by lia), List.map_cons, List.append_assoc]; rfl
theorem e_compA {α : Type} {l : List α} {fx fy : α → AV} {p : α → Bool} {src : Src} {elt it cond : DE} {n : Nat} {o : Out AV} (h : it ρ H = .ok a H₁) (hs : srcOf H₁ a = some (src, n, none)) (hi : ∀ k, itemAt H₁ src k = some (l.map fx)[k]?) (hn : n = l.length) (hl : l.length ≤ 1000000) (hT : ∀ x ∈ l, cond (ρ ++ [some (fx x)]) H₁ = .ok (.bool (p x)) H₁) (hE : ∀ x ∈ l, p x = true → elt (ρ ++ [some (fx x)]) H₁ = .ok (fy x) H₁)
    (ho : newL mt ((l.filter p).map fy) H₁ = o) : compE false mt elt it cond ρ H = o := by
  subst hn
  unfold compE
  rw [h]
  show orBad (srcOf H₁ a) _ = _
  rw [hs]
  show (if false = false ∧ l.length ≤ 1000000 then _ else _) = _
  rw [if_pos ⟨rfl, hl⟩]
  show (Out.calm (compL _ _ src l.length 0 [] H₁)).bind _ = _
  rw [compL_at (T := fun v => cond (ρ ++ [some v])) (E := fun v => elt (ρ ++ [some v])) hi hT hE _ _ _ (Nat.add_zero _)]
  exact ho
theorem range_src {x : Int} (h0 : 0 ≤ x) (h : x < 1000000) : srcOf H (.rng 0 x) = some (.seq (span 0 x), x.toNat, none) := by
  have : small x = true := sm_ok h0 (Int.le_of_lt h)
  have h1 : small 0 = true := by decide
  show (if (small 0 && small x) = true then some (Src.seq (span 0 x), (x - 0).toNat, none) else none) = _
  rw [this, h1, Int.sub_zero]; rfl
end
section
variable {R : Nat → Bool → FT} {k : Nat} {H : AH}
theorem str_len (x : Str) : x.length = x.cps.toList.length := rfl
theorem one_le {c : Nat} : cmpA H .LtE (.str "!") (one c) = some (decide (33 ≤ c)) := by
  show some (!decide (([c] : List Nat) < [33])) = _
  congr 1
  by_cases h : c < 33
  · have : ([c] : List Nat) < [33] := List.Lex.rel h
    simp [this]; assumption
  · have : ¬ ([c] : List Nat) < [33] := fun q => by
      cases q with
      | rel q => exact h q
      | cons q => cases q
    simp [this]; exact Nat.not_lt.mp ‹_›
theorem le_one {c : Nat} : cmpA H .LtE (one c) (.str "~") = some (decide (c ≤ 126)) := by
  show some (!decide (([126] : List Nat) < [c])) = _
  congr 1
  by_cases h : 126 < c
  · have : ([126] : List Nat) < [c] := List.Lex.rel h
    simp [this]; assumption
  · have : ¬ ([126] : List Nat) < [c] := fun q => by
      cases q with
      | rel q => exact h q
      | cons q => cases q
    simp [this]; exact Nat.not_lt.mp ‹_›
theorem isname_run (C : BookR R) {x : Str} (hx : x.length ≤ 100000) : R (k + 1) false 5 [.str x] H = .ok (.bool (nameOK x)) H := by
  rw [C.is_name _ _ _ _ rfl]
  have hl : biA false .len [.str x] H = .ok (.int x.length) H := by
    show (if x.length < 2 ^ 62 then _ else _) = _
    exact if_pos (lt_t ‹_› rfl)
  have c1 : cmpA H .LtE (.int 1) (.int x.length) = some (decide ((1 : Int) ≤ x.length)) := rfl
  have c2 : cmpA H .LtE (.int x.length) (.int 20) = some (decide ((x.length : Int) ≤ 20)) := rfl
  suffices h : dc_is_name (R k) false (rho0 [.str x] 2) H = .ret (.bool (nameOK x)) H by rw [h]; rfl
  refine s_if (e_nt (e_cmp2 (c := .int 20) rfl (e_bi (l_one rfl) hl) c1 rfl c2)) (fun h => ?_) fun h => ?_
  · have : nameOK x = false := by
      simp only [Bool.not_eq_true', Bool.and_eq_false_iff, decide_eq_false_iff_not] at h
      unfold nameOK
      rcases h with h | h
      · rw [decide_eq_false (show ¬ 1 ≤ x.length by lia)]; rfl
      · rw [decide_eq_false (show ¬ x.length ≤ 20 by lia)]; simp
    rw [this]; rfl
  · simp only [Bool.not_eq_false', Bool.and_eq_true, decide_eq_true_eq] at h
    show (forS false (.one 1) (varE 0) _ [some (.str x), none] H).then _ = _
    rw [for_seq (a := .str x) (xs := signs x) (n := x.length) rfl rfl]
    refine loop_any (P := fun o => o.then _ = .ret (.bool (nameOK x)) H) (fun k ρ H' => H' = H ∧ (∃ o, ρ = [some (.str x), o]) ∧ (x.cps.toList.take k).all okc = true) ?_ ?_ _ _ _ _ (by simp [signs]; rfl) ⟨rfl, ⟨_, rfl⟩, rfl⟩
    · rintro k v ρ H' hv ⟨rfl, ⟨o, rfl⟩, ha⟩
      obtain ⟨c, hc, rfl⟩ : ∃ c, x.cps.toList[k]? = some c ∧ v = one c := by
        unfold signs at hv
        rw [List.getElem?_map] at hv
        refine x1_2 (Option.map_eq_some_iff.mp hv) fun c hc e => ?_
        exact ⟨c, hc, e.symm⟩
      have hr : seqS [ifS (ntE (cmpE (cstE (.str "!")) [.LtE, .LtE] [(varE 1), (cstE (.str "~"))])) (seqS [retS (cstE (.bool false))]) (seqS [])] [some (.str x), some (one c)] H' = if okc c then .next [some (.str x), some (one c)] H' else .ret (.bool false) H' := by
        refine s_if (e_nt (e_cmp2 (c := .str "~") rfl rfl one_le rfl le_one)) (fun h => ?_) fun h => ?_
        · rw [show okc c = false from (Bool.not_eq_true' _).mp h]; rfl
        · rw [show okc c = true from (Bool.not_eq_false' _).mp h]; rfl
      cases ho : okc c with
      | true =>
        rw [ho] at hr
        refine .inl ⟨_, H', hr, rfl, ⟨_, rfl⟩, ?_⟩
        rw [List.take_add_one, List.all_append, ha, hc]
        simp [ho]
      | false =>
        rw [ho] at hr
        refine .inr (.inl ⟨.bool false, H', hr, ?_⟩)
        have : nameOK x = false := by
          unfold nameOK
          have : x.cps.toList.all okc = false := by
            rw [List.all_eq_false]
            exact ⟨c, List.mem_of_getElem? hc, by rw [ho]; decide⟩
          rw [this]; simp
        rw [this]; rfl
    · rintro ρ H' ⟨rfl, ⟨o, rfl⟩, ha⟩
      have : nameOK x = true := by
        unfold nameOK
        rw [decide_eq_true (show 1 ≤ x.length by lia), decide_eq_true (show x.length ≤ 20 by lia)]
        have hl' : (signs x).length = x.cps.toList.length := by simp [signs]
        rw [hl', List.take_length] at ha
        rw [ha]; rfl
      rw [this]; rfl
end
section
variable {R : Nat → Bool → FT} {k : Nat} {H : AH}
theorem eqv_str {x y : Str} : PyData.eqv (.str x) (.str y) = decide (x = y) := by
  show (x == y) = decide (x = y)
  by_cases q : x = y
  · subst q; simp
  · simp [q]
theorem den_strs {xs : List Str} : denL (den deep H) (xs.map .str) = some (xs.map .str) := by
  induction xs with
  | nil => rfl
  | cons x r ih => show ((some (PyData.str x)).bind fun d => (denL (den deep H) (r.map .str)).map (d :: ·)) = _; rw [ih]; rfl
theorem any_str {x : Str} {xs : List Str} : ((xs.map PyData.str).any fun y => PyData.eqv y (.str x)) = decide (x ∈ xs) := by
  rw [Bool.eq_iff_iff]
  simp only [List.any_eq_true, List.mem_map, decide_eq_true_eq]
  constructor
  · rintro ⟨_, ⟨y, hy, rfl⟩, e⟩
    rw [eqv_str, decide_eq_true_eq] at e
    exact e ▸ hy
  · intro h
    exact ⟨_, ⟨x, h, rfl⟩, by rw [eqv_str]; simp⟩
theorem in_strs {a : AV} {x : Str} {xs : List Str} (hd : dcOf H a = none) (h : lsOf H a = some (xs.map .str)) : cmpA H .In (.str x) a = some (decide (x ∈ xs)) := by
  show inA H (.str x) a = _
  unfold inA
  rw [hd, h]
  show ((some (PyData.str x)).bind fun d => (denL (den deep H) (xs.map .str)).map fun ds => ds.any fun y => PyData.eqv y d) = _
  rw [den_strs]
  show some (((xs.map PyData.str).any fun y => PyData.eqv y (.str x))) = _
  rw [any_str]
theorem e_append {ρ : RE} {H H₁ H₂ : AH} {e : DE} {es : List DE} {v : AV} {n : Nat} {xs ys : List AV} (h1 : e ρ H = .ok (.ref n) H₁) (h3 : H₁[n]? = some (.lst ys)) (h2 : evL es ρ H₁ = .ok [v] H₂) (h4 : H₂[n]? = some (.lst xs)) (hl : xs.length ≤ 1000000) : mbE .append e es ρ H = .ok .none (H₂.set n (.lst (xs ++ [v]))) := by
  have k1 : kindM (.ref n) H₁ = 2 := by show (match H₁[n]? with | some (.lst _) => 2 | some (.dict _) => 3 | _ => 0) = 2; rw [h3]
  have k2 : kindM (.ref n) H₂ = 2 := by show (match H₂[n]? with | some (.lst _) => 2 | some (.dict _) => 3 | _ => 0) = 2; rw [h4]
  unfold mbE
  rw [h1]
  show orBad (bmId (kindM (.ref n) H₁) .append) _ = _
  rw [k1]
  show (evL es ρ H₁).bind _ = _
  rw [h2]
  show (if 2 = kindM (.ref n) H₂ then mbA .append (.ref n) [v] H₂ else .bad) = _
  rw [k2, if_pos rfl]
  rw [mb_lst h4]
  exact if_pos hl
theorem get_last {H : AH} {o : AO} : (H ++ [o])[H.length]? = some o := by simp
theorem set_last {H : AH} {o o' : AO} : (H ++ [o]).set H.length o' = H ++ [o'] := by simp
end
structure Pm where
  name : Str
  skills : List Str
  limit : Int
  rests : List (Int × Int)
structure Sm where
  name : Str
  hours : Int × Int
  needs : List (Str × Int)
noncomputable def stAV (p : Int × Int) : AV := .tup [.int p.1, .int p.2]
noncomputable def needAV (n : Str × Int) : AV := .tup [.str n.1, .int n.2]
noncomputable def pfs (sk aw : Nat) (lim : Int) : List (Option AV) := [some (.ref sk), some (.int lim), some (.ref aw), none, none, none, none, none, none, none, none, none]
noncomputable def sfs (h : Int × Int) (nd : Nat) : List (Option AV) := [none, none, none, some (stAV h), some (.ref nd), none, none, none, none, none, none, none]
noncomputable def bfs (fd wd : Nat) : List (Option AV) := [none, none, none, none, none, some (.ref fd), some (.ref wd), none, none, none, none, none]
noncomputable abbrev PR := (Nat × Nat × Nat) × Pm
noncomputable abbrev SR := (Nat × Nat) × Sm
structure PAt (H : AH) (p : PR) : Prop where
  ob : H[p.1.1]? = some (.inst 0 (pfs p.1.2.1 p.1.2.2 p.2.limit))
  sk : H[p.1.2.1]? = some (.lst (p.2.skills.map .str))
  aw : H[p.1.2.2]? = some (.lst (p.2.rests.map stAV))
structure SAt (H : AH) (s : SR) : Prop where
  ob : H[s.1.1]? = some (.inst 1 (sfs s.2.hours s.1.2))
  nd : H[s.1.2]? = some (.lst (s.2.needs.map needAV))
noncomputable def pRefs (p : PR) : List Nat := [p.1.1, p.1.2.1, p.1.2.2]
noncomputable def sRefs (s : SR) : List Nat := [s.1.1, s.1.2]
noncomputable def bRefs (b fd wd : Nat) (ps : List PR) (ss : List SR) : List Nat := b :: fd :: wd :: (ps.flatMap pRefs ++ ss.flatMap sRefs)
noncomputable def folkD (ps : List PR) : List (Key × AV) := ps.map fun p => (.str p.2.name, .ref p.1.1)
noncomputable def workD (ss : List SR) : List (Key × AV) := ss.map fun s => (.str s.2.name, .ref s.1.1)
structure BookAt (H : AH) (b fd wd : Nat) (ps : List PR) (ss : List SR) : Prop where
  book : H[b]? = some (.inst 2 (bfs fd wd))
  folk : H[fd]? = some (.dict (folkD ps))
  work : H[wd]? = some (.dict (workD ss))
  pat : ∀ p ∈ ps, PAt H p
  sat : ∀ s ∈ ss, SAt H s
  nodup : (bRefs b fd wd ps ss).Nodup
  few : ps.length + ss.length ≤ 1000
section
variable {H H' : AH} {b fd wd : Nat} {ps : List PR} {ss : List SR}
theorem BookAt.lt (B : BookAt H b fd wd ps ss) : ∀ n ∈ bRefs b fd wd ps ss, n < H.length := by
  have g : ∀ {n : Nat} {o : AO}, H[n]? = some o → n < H.length := fun h => (List.getElem?_eq_some_iff.mp h).1
  intro n hn
  unfold bRefs at hn
  rcases List.mem_cons.mp hn with rfl | hn
  · exact g B.book
  rcases List.mem_cons.mp hn with rfl | hn
  · exact g B.folk
  rcases List.mem_cons.mp hn with rfl | hn
  · exact g B.work
  rcases List.mem_append.mp hn with hn | hn
  · refine x1_2 (List.mem_flatMap.mp hn) fun p hp hn => ?_
    have := B.pat p hp
    simp only [pRefs, List.mem_cons, List.not_mem_nil, or_false] at hn
    rcases hn with rfl | rfl | rfl
    · exact g this.ob
    · exact g this.sk
    · exact g this.aw
  · refine x1_2 (List.mem_flatMap.mp hn) fun p hp hn => ?_
    have := B.sat p hp
    simp only [sRefs, List.mem_cons, List.not_mem_nil, or_false] at hn
    rcases hn with rfl | rfl
    · exact g this.ob
    · exact g this.nd
theorem mem_p {p : PR} (hp : p ∈ ps) : p.1.1 ∈ bRefs b fd wd ps ss ∧ p.1.2.1 ∈ bRefs b fd wd ps ss ∧ p.1.2.2 ∈ bRefs b fd wd ps ss := by
  have h : ∀ n ∈ pRefs p, n ∈ bRefs b fd wd ps ss := fun n hn => .tail _ (.tail _ (.tail _ (List.mem_append.mpr (.inl (List.mem_flatMap.mpr ⟨p, hp, hn⟩)))))
  exact ⟨h _ (.head _), h _ (.tail _ (.head _)), h _ (.tail _ (.tail _ (.head _)))⟩
theorem mem_s {s : SR} (hs : s ∈ ss) : s.1.1 ∈ bRefs b fd wd ps ss ∧ s.1.2 ∈ bRefs b fd wd ps ss := by
  have h : ∀ n ∈ sRefs s, n ∈ bRefs b fd wd ps ss := fun n hn => .tail _ (.tail _ (.tail _ (List.mem_append.mpr (.inr (List.mem_flatMap.mpr ⟨s, hs, hn⟩)))))
  exact ⟨h _ (.head _), h _ (.tail _ (.head _))⟩
theorem BookAt.frame (B : BookAt H b fd wd ps ss) (h : ∀ n ∈ bRefs b fd wd ps ss, H'[n]? = H[n]?) : BookAt H' b fd wd ps ss :=
  ⟨(h _ (.head _)).trans B.book, (h _ (.tail _ (.head _))).trans B.folk, (h _ (.tail _ (.tail _ (.head _)))).trans B.work,
    fun p hp => let m := mem_p (b := b) (fd := fd) (wd := wd) (ss := ss) hp; ⟨(h _ m.1).trans (B.pat p hp).ob, (h _ m.2.1).trans (B.pat p hp).sk, (h _ m.2.2).trans (B.pat p hp).aw⟩,
    fun s hs => let m := mem_s (b := b) (fd := fd) (wd := wd) (ps := ps) hs; ⟨(h _ m.1).trans (B.sat s hs).ob, (h _ m.2).trans (B.sat s hs).nd⟩, B.nodup, B.few⟩
theorem BookAt.grow {l : AH} (B : BookAt H b fd wd ps ss) : BookAt (H ++ l) b fd wd ps ss := B.frame fun n hn => List.getElem?_append_left (B.lt n hn)
theorem in_keys {α : Type} {f : α → Str} {g : α → Nat} {l : List α} {x : Str} : ((l.map fun p => ((Key.str (f p), AV.ref (g p)) : Key × AV)).any fun e => decide (e.1 = Key.str x)) = decide (x ∈ l.map f) := by
  rw [Bool.eq_iff_iff]
  simp only [List.any_eq_true, List.mem_map, decide_eq_true_eq]
  constructor
  · rintro ⟨_, ⟨p, hp, rfl⟩, e⟩
    exact ⟨p, hp, by simpa using e⟩
  · rintro ⟨p, hp, rfl⟩
    exact ⟨_, ⟨p, hp, rfl⟩, rfl⟩
theorem dc_at {n : Nat} {es : List (Key × AV)} (h : H[n]? = some (.dict es)) : dcOf H (.ref n) = some (n, es) := by
  show (match H[n]? with | some (.dict es) => some (n, es) | some (.ldict es) => some (n, es) | _ => none) = _; rw [h]
theorem in_dict {n : Nat} {es : List (Key × AV)} {x : Str} {y : Bool} (h : H[n]? = some (.dict es)) (hy : (es.any fun e => decide (e.1 = Key.str x)) = y) : cmpA H .In (.str x) (.ref n) = some y := by
  show inA H (.str x) (.ref n) = _
  unfold inA
  rw [dc_at h]
  exact congrArg some hy
theorem nin_dict {n : Nat} {es : List (Key × AV)} {x : Str} {y : Bool} (h : H[n]? = some (.dict es)) (hy : (es.any fun e => decide (e.1 = Key.str x)) = y) : cmpA H .NotIn (.str x) (.ref n) = some (!y) := by
  show (inA H (.str x) (.ref n)).map (!·) = _
  have := in_dict h hy
  rw [show inA H (.str x) (.ref n) = some y from this]; rfl
end
section
variable {ρ : RE} {H H₁ H₂ H₃ H₄ : AH} {o : OutS} {e e' e'' : DE} {r : List DS} {hot : Bool} {v a k : AV}
theorem s_attr {i n c : Nat} {fs : List (Option AV)} (h1 : e ρ H = .ok v H₁) (h2 : e' ρ H₁ = .ok (.ref n) H₂) (h3 : H₂[n]? = some (.inst c fs)) (h4 : i < fs.length) (h : seqS r ρ (H₂.set n (.inst c (fs.set i (some v)))) = o) : seqS (setAttrS i e' e :: r) ρ H = o := by
  show (setAttrS i e' e ρ H).then _ = o
  unfold setAttrS
  rw [h1]
  show ((e' ρ H₁).inS ρ _).then _ = o
  rw [h2]
  show (orBadS (inOf H₂ (.ref n)) _).then _ = o
  rw [in_at h3]
  show (if i < fs.length then OutS.next ρ (H₂.set n (.inst c (fs.set i (some v)))) else .bad).then _ = o
  rw [if_pos h4]
  exact h
theorem s_item (h1 : e'' ρ H = .ok v H₁) (h2 : e ρ H₁ = .ok a H₂) (h3 : e' ρ H₂ = .ok k H₃) (h4 : setItemA a k v H₃ = some H₄) (h : seqS r ρ H₄ = o) : seqS (setItemS e e' e'' :: r) ρ H = o := by
  show (setItemS e e' e'' ρ H).then _ = o
  unfold setItemS
  rw [h1]
  show ((e ρ H₁).inS ρ _).then _ = o
  rw [h2]
  show ((e' ρ H₂).inS ρ _).then _ = o
  rw [h3]
  show (orBadS (setItemA a k v H₃) _).then _ = o
  rw [h4]
  exact h
theorem set_key {n : Nat} {es : List (Key × AV)} {x : Str} (h : H[n]? = some (.dict es)) (hl : es.length ≤ 1000000) (hx : (es.any fun e => decide (e.1 = Key.str x)) = false) : setItemA (.ref n) (.str x) v H = some (H.set n (.dict (es ++ [(.str x, v)]))) := by
  show (match H[n]? with | some (.lst xs) => _ | some (.dict es) => _ | _ => none) = _
  rw [h]
  show (if es.length ≤ 1000000 then some (H.set n (.dict (setD es (.str x) v))) else none) = _
  rw [if_pos hl]
  unfold setD
  rw [hx]
  rfl
end
section
variable {R : Nat → Bool → FT} {k : Nat} {hot : Bool} {H : AH} {b fd wd : Nat} {ps : List PR} {ss : List SR}
theorem look_p {p : PR} (hp : p ∈ ps) (hn : (ps.map (·.2.name)).Nodup) : (folkD ps).lookup (.str p.2.name) = some (.ref p.1.1) := by
  unfold folkD
  induction ps with
  | nil => cases hp
  | cons q r ih =>
    rw [List.map_cons, List.lookup_cons]
    rw [List.map_cons, List.nodup_cons] at hn
    cases hp with
    | head => simp
    | tail _ hp =>
      have : (Key.str p.2.name == Key.str q.2.name) = false := by
        rw [beq_eq_false_iff_ne]
        intro e
        exact hn.1 (List.mem_map.mpr ⟨p, hp, by simpa using e⟩)
      rw [this]
      exact ih hp hn.2
theorem sub_key {n : Nat} {es : List (Key × AV)} {x : Str} {v : AV} (h : H[n]? = some (.dict es)) (hx : es.lookup (.str x) = some v) : subA (.ref n) (.str x) H = .ok v H := by
  unfold subA
  rw [dc_at h]
  show (orBad (es.lookup (.str x)) fun v => .ok v H) = _
  rw [hx]; rfl
theorem person_run (C : BookR R) (B : BookAt H b fd wd ps ss) (hn : (ps.map (·.2.name)).Nodup) {p : PR} (hp : p ∈ ps) : R (k + 1) hot 16 [.ref b, .str p.2.name] H = .ok (.ref p.1.1) H := by
  rw [C.person _ _ _ _ rfl]
  have hin : ((folkD ps).any fun e => decide (e.1 = Key.str p.2.name)) = true := by
    unfold folkD; rw [in_keys]; exact decide_eq_true (List.mem_map.mpr ⟨p, hp, rfl⟩)
  exact congrArg OutS.done (s_skip (e_cmp rfl (e_attr rfl B.book rfl) (nin_dict B.folk hin)) (s_ret (e_sub (e_attr rfl B.book rfl) rfl (sub_key B.folk (look_p hp hn)))))
theorem no_person_run (C : BookR R) (B : BookAt H b fd wd ps ss) {x : Str} (hx : x ∉ ps.map (·.2.name)) : R (k + 1) false 16 [.ref b, .str x] H = .exc 5 H := by
  rw [C.person _ _ _ _ rfl]
  have hin : ((folkD ps).any fun e => decide (e.1 = Key.str x)) = false := by
    unfold folkD; rw [in_keys]; exact decide_eq_false hx
  exact congrArg OutS.done (s_if (e_cmp rfl (e_attr rfl B.book rfl) (nin_dict B.folk hin)) (fun _ => rfl) fun q => nomatch q)
theorem look_s {s : SR} (hs : s ∈ ss) (hn : (ss.map (·.2.name)).Nodup) : (workD ss).lookup (.str s.2.name) = some (.ref s.1.1) := by
  unfold workD
  induction ss with
  | nil => cases hs
  | cons q r ih =>
    rw [List.map_cons, List.lookup_cons]
    rw [List.map_cons, List.nodup_cons] at hn
    cases hs with
    | head => simp
    | tail _ hs =>
      have : (Key.str s.2.name == Key.str q.2.name) = false := by
        rw [beq_eq_false_iff_ne]
        intro e
        exact hn.1 (List.mem_map.mpr ⟨s, hs, by simpa using e⟩)
      rw [this]
      exact ih hs hn.2
theorem shift_run (C : BookR R) (B : BookAt H b fd wd ps ss) (hn : (ss.map (·.2.name)).Nodup) {s : SR} (hs : s ∈ ss) : R (k + 1) hot 17 [.ref b, .str s.2.name] H = .ok (.ref s.1.1) H := by
  rw [C.shift _ _ _ _ rfl]
  have hin : ((workD ss).any fun e => decide (e.1 = Key.str s.2.name)) = true := by
    unfold workD; rw [in_keys]; exact decide_eq_true (List.mem_map.mpr ⟨s, hs, rfl⟩)
  exact congrArg OutS.done (s_skip (e_cmp rfl (e_attr rfl B.book rfl) (nin_dict B.work hin)) (s_ret (e_sub (e_attr rfl B.book rfl) rfl (sub_key B.work (look_s hs hn)))))
theorem no_shift_run (C : BookR R) (B : BookAt H b fd wd ps ss) {x : Str} (hx : x ∉ ss.map (·.2.name)) : R (k + 1) false 17 [.ref b, .str x] H = .exc 5 H := by
  rw [C.shift _ _ _ _ rfl]
  have hin : ((workD ss).any fun e => decide (e.1 = Key.str x)) = false := by
    unfold workD; rw [in_keys]; exact decide_eq_false hx
  exact congrArg OutS.done (s_if (e_cmp rfl (e_attr rfl B.book rfl) (nin_dict B.work hin)) (fun _ => rfl) fun q => nomatch q)
theorem get_l0 {o : AO} {l : AH} : (H ++ o :: l)[H.length]? = some o := by simp
theorem set_l0 {o o' : AO} {l : AH} : (H ++ o :: l).set H.length o' = H ++ o' :: l := by simp
theorem person_new (C : BookR R) {sk : Nat} {lim : Int} {ρ : RE} {H₁ : AH} {es : List DE} (h : evL es ρ H = .ok [.ref sk, .int lim] H₁) : newE gmC (R (k + 1) hot) 0 es ρ H = .ok (.ref H₁.length) (H₁ ++ [.inst 0 (pfs sk (H₁.length + 1) lim), .lst []]) := by
  refine e_new (i := 10) h rfl ?_
  rw [C.person_init _ _ _ _ rfl]
  suffices q : dc_Person_init (R k) hot (rho0 [.ref H₁.length, .ref sk, .int lim] 3) (H₁ ++ [.inst 0 (List.replicate gmC.na none)]) = .next [some (.ref H₁.length), some (.ref sk), some (.int lim)] (H₁ ++ [.inst 0 (pfs sk (H₁.length + 1) lim), .lst []]) by rw [q]; rfl
  refine s_attr rfl rfl get_l0 (Nat.le_of_ble_eq_true rfl) ?_
  rw [set_l0]
  refine s_attr rfl rfl get_l0 (Nat.le_of_ble_eq_true rfl) ?_
  rw [set_l0]
  refine s_attr (e_lst rfl (by decide) rfl) rfl (by rw [List.append_assoc]; exact get_l0) (Nat.le_of_ble_eq_true rfl) ?_
  rw [List.append_assoc]
  show OutS.next _ ((H₁ ++ AO.inst 0 _ :: [AO.lst []]).set H₁.length _) = _
  rw [set_l0]
  rw [List.length_append]
  rfl
theorem shift_new (C : BookR R) {h : Int × Int} {nd : Nat} {ρ : RE} {H₁ : AH} {es : List DE} (hh : evL es ρ H = .ok [stAV h, .ref nd] H₁) : newE gmC (R (k + 1) hot) 1 es ρ H = .ok (.ref H₁.length) (H₁ ++ [.inst 1 (sfs h nd)]) := by
  refine e_new (i := 11) hh rfl ?_
  rw [C.shift_init _ _ _ _ rfl]
  suffices q : dc_Shift_init (R k) hot (rho0 [.ref H₁.length, stAV h, .ref nd] 3) (H₁ ++ [.inst 1 (List.replicate gmC.na none)]) = .next [some (.ref H₁.length), some (stAV h), some (.ref nd)] (H₁ ++ [.inst 1 (sfs h nd)]) by rw [q]; rfl
  refine s_attr rfl rfl get_l0 (Nat.le_of_ble_eq_true rfl) ?_
  rw [set_l0]
  refine s_attr rfl rfl get_l0 (Nat.le_of_ble_eq_true rfl) ?_
  rw [set_l0]
  rfl
theorem book_new (C : BookR R) {ρ : RE} : newE gmC (R (k + 1) hot) 2 [] ρ H = .ok (.ref H.length) (H ++ [.inst 2 (bfs (H.length + 1) (H.length + 2)), .dict [], .dict []]) := by
  refine e_new (i := 12) (H₁ := H) rfl rfl ?_
  rw [C.book_init _ _ _ _ rfl]
  suffices q : dc_Book_init (R k) hot (rho0 [.ref H.length] 1) (H ++ [.inst 2 (List.replicate gmC.na none)]) = .next [some (.ref H.length)] (H ++ [.inst 2 (bfs (H.length + 1) (H.length + 2)), .dict [], .dict []]) by rw [q]; rfl
  refine s_attr rfl rfl (by rw [List.append_assoc]; exact get_l0) (Nat.le_of_ble_eq_true rfl) ?_
  rw [List.append_assoc]
  show seqS _ _ ((H ++ AO.inst 2 _ :: [AO.dict []]).set H.length _) = _
  rw [set_l0]
  refine s_attr rfl rfl (by rw [List.append_assoc]; exact get_l0) (Nat.le_of_ble_eq_true rfl) ?_
  rw [List.append_assoc]
  show OutS.next _ ((H ++ AO.inst 2 _ :: [AO.dict [], AO.dict []]).set H.length _) = _
  rw [set_l0]
  rw [List.length_append, List.length_append]
  rfl
end
section
variable {R : Nat → Bool → FT} {k : Nat} {hot : Bool} {H : AH} {b fd wd : Nat} {ps : List PR} {ss : List SR}
theorem get_l1 {o o' : AO} {l : AH} : (H ++ o :: o' :: l)[H.length + 1]? = some o' := by simp
theorem set_l1 {o o' o'' : AO} {l : AH} : (H ++ o :: o' :: l).set (H.length + 1) o'' = H ++ o :: o'' :: l := by
  rw [List.set_append_right _ _ (Nat.le_add_right _ _), Nat.add_sub_cancel_left]; rfl
theorem ls_at {n : Nat} {xs : List AV} (h : H[n]? = some (.lst xs)) : lsOf H (.ref n) = some xs := by
  show (match H[n]? with | some (.lst xs) => some xs | _ => none) = _; rw [h]
theorem ndc_at {n : Nat} {xs : List AV} (h : H[n]? = some (.lst xs)) : dcOf H (.ref n) = none := by
  show (match H[n]? with | some (.dict es) => some (n, es) | some (.ldict es) => some (n, es) | _ => none) = _; rw [h]
theorem take_snoc {α β : Type} {f : α → β} {xs : List α} {j : Nat} {x : α} (hj : xs[j]? = some x) : (xs.take j).map f ++ [f x] = (xs.take (j + 1)).map f := by
  rw [List.take_add_one, hj]; simp
end
section
variable {R : Nat → Bool → FT} {k : Nat} {hot : Bool} {H : AH} {b fd wd : Nat} {ps : List PR} {ss : List SR}
theorem folk_len {ps : List PR} : (folkD ps).length = ps.length := by unfold folkD; simp
theorem work_len {ss : List SR} : (workD ss).length = ss.length := by unfold workD; simp
noncomputable def addP (H : AH) (fd : Nat) (ps : List PR) (nm : Str) (sk : List Str) (lim : Int) : AH := (H ++ [AO.lst (sk.map .str), AO.inst 0 (pfs H.length (H.length + 2) lim), AO.lst []] : AH).set fd (.dict (folkD ps ++ [(.str nm, .ref (H.length + 1))]))
theorem get_ap {H : AH} {l : AH} {n : Nat} (h : n < H.length) : (H ++ l)[n]? = H[n]? := List.getElem?_append_left h
theorem get_set_ne {H : AH} {n m : Nat} {o : AO} (h : n ≠ m) : (H.set n o)[m]? = H[m]? := by rw [List.getElem?_set, if_neg h]
theorem get_set_eq {H : AH} {n : Nat} {o : AO} (h : n < H.length) : (H.set n o)[n]? = some o := by rw [List.getElem?_set, if_pos rfl, if_pos h]
theorem addP_keep {nm : Str} {sk : List Str} {lim : Int} {n : Nat} (hn : n < H.length) (h : n ≠ fd) : (addP H fd ps nm sk lim)[n]? = H[n]? := by
  unfold addP
  rw [get_set_ne (Ne.symm h), get_ap hn]
theorem nodup_more {l m : List Nat} {N : Nat} (h : l.Nodup) (hl : ∀ n ∈ l, n < N) (hm : m.Nodup) (hm2 : ∀ n ∈ m, N ≤ n) : (l ++ m).Nodup := by
  rw [List.nodup_append]
  exact ⟨h, hm, fun a ha b hb e => by have := hl a ha; have := hm2 b hb; lia -abstractProof⟩
theorem nodup_perm_p {q : PR} (h : (bRefs b fd wd ps ss ++ pRefs q).Nodup) : (bRefs b fd wd (ps ++ [q]) ss).Nodup := by
  refine List.Perm.nodup ?_ h
  unfold bRefs
  rw [List.flatMap_append]
  show (b :: fd :: wd :: (ps.flatMap pRefs ++ ss.flatMap sRefs) ++ pRefs q).Perm (b :: fd :: wd :: ((ps.flatMap pRefs ++ (pRefs q ++ [])) ++ ss.flatMap sRefs))
  rw [List.append_nil]
  refine List.Perm.cons _ (List.Perm.cons _ (List.Perm.cons _ ?_))
  show ((ps.flatMap pRefs ++ ss.flatMap sRefs) ++ pRefs q).Perm _
  rw [List.append_assoc, List.append_assoc]
  exact List.Perm.append_left _ List.perm_append_comm
theorem BookAt.addP (B : BookAt H b fd wd ps ss) {nm : Str} {sk : List Str} {lim : Int} (hf : ps.length + ss.length < 1000) : BookAt (addP H fd ps nm sk lim) b fd wd (ps ++ [((H.length + 1, H.length, H.length + 2), ⟨nm, sk, lim, []⟩)]) ss := by
  have nd := B.nodup
  have hfd : fd < H.length := B.lt _ (.tail _ (.head _))
  unfold bRefs at nd
  have hb : b ≠ fd := fun e => (List.nodup_cons.mp nd).1 (e ▸ .head _)
  have hw : wd ≠ fd := fun e => (List.nodup_cons.mp (List.nodup_cons.mp nd).2).1 (e ▸ .head _)
  have hr : ∀ n ∈ ps.flatMap pRefs ++ ss.flatMap sRefs, n ≠ fd := fun n hn e => (List.nodup_cons.mp (List.nodup_cons.mp nd).2).1 (e ▸ .tail _ hn)
  have kp : ∀ n ∈ bRefs b fd wd ps ss, n ≠ fd → (Mine.addP H fd ps nm sk lim)[n]? = H[n]? := fun n hn h => addP_keep (B.lt n hn) h
  have new : ∀ (j : Nat) (o : AO), ([AO.lst (sk.map .str), .inst 0 (pfs H.length (H.length + 2) lim), .lst []] : AH)[j]? = some o → (Mine.addP H fd ps nm sk lim)[H.length + j]? = some o := fun j o h => by
    unfold Mine.addP
    rw [get_set_ne (by lia -abstractProof), List.getElem?_append_right (Nat.le_add_right _ _), Nat.add_sub_cancel_left]
    exact h
  refine ⟨(kp _ (.head _) hb).trans B.book, ?_, (kp _ (.tail _ (.tail _ (.head _))) hw).trans B.work, fun p hp => ?_, fun s hs => ?_, nodup_perm_p (nodup_more B.nodup B.lt ?_ ?_), by rw [List.length_append]; simp; lia -abstractProof⟩
  · unfold Mine.addP
    rw [get_set_eq (by rw [List.length_append]; exact Nat.lt_of_lt_of_le ‹_› (Nat.le_add_right _ _))]
    unfold folkD
    rw [List.map_append]; rfl
  · rcases List.mem_append.mp hp with hp | hp
    · have m := mem_p (b := b) (fd := fd) (wd := wd) (ss := ss) hp
      have hh : ∀ n ∈ pRefs p, n ≠ fd := fun n hn => hr n (List.mem_append.mpr (.inl (List.mem_flatMap.mpr ⟨p, hp, hn⟩)))
      exact ⟨(kp _ m.1 (hh _ (.head _))).trans (B.pat p hp).ob, (kp _ m.2.1 (hh _ (.tail _ (.head _)))).trans (B.pat p hp).sk, (kp _ m.2.2 (hh _ (.tail _ (.tail _ (.head _))))).trans (B.pat p hp).aw⟩
    · cases List.mem_singleton.mp hp
      exact ⟨new 1 _ rfl, new 0 _ rfl, new 2 _ rfl⟩
  · have m := mem_s (b := b) (fd := fd) (wd := wd) (ps := ps) hs
    have hh : ∀ n ∈ sRefs s, n ≠ fd := fun n hn => hr n (List.mem_append.mpr (.inr (List.mem_flatMap.mpr ⟨s, hs, hn⟩)))
    exact ⟨(kp _ m.1 (hh _ (.head _))).trans (B.sat s hs).ob, (kp _ m.2 (hh _ (.tail _ (.head _)))).trans (B.sat s hs).nd⟩
  · simp [pRefs]
  · intro n hn
    simp only [pRefs, List.mem_cons, List.not_mem_nil, or_false] at hn
    lia -abstractProof
end
section
variable {ρ : RE} {H H₁ : AH} {a : AV} {xs : List AV} {mt : Bool}
theorem item_ref {r k : Nat} (hr : H[r]? = some (.lst xs)) : itemAt H (.lref r) k = some xs[k]? := by
  show (match H[r]? with | some (.lst xs) => some xs[k]? | _ => none) = _
  rw [hr]
end
section
variable {R : Nat → Bool → FT} {k : Nat} {hot : Bool} {H : AH} {b fd wd : Nat} {ps : List PR} {ss : List SR}
theorem eq_nil {xs : List AV} {ds : List PyData} (h : denL (den 19 H) xs = some ds) : cmpA H .Eq (.lst xs) (.lst []) = some xs.isEmpty := by
  show ((denL (den 19 H) xs).map PyData.list).bind (fun x => (some (PyData.list [])).map fun y => PyData.eqv x y) = _
  rw [h]
  cases xs with
  | nil => cases h; rfl
  | cons v r =>
    refine x1_2 (Option.bind_eq_some_iff.mp h) fun d h1 h => ?_
    refine x1_2 (Option.map_eq_some_iff.mp h) fun l h2 h => ?_
    cases h
    rfl
end
section
variable {R : Nat → Bool → FT} {k : Nat} {hot : Bool} {H : AH} {b fd wd : Nat} {ps : List PR} {ss : List SR}
noncomputable def stOK (st : Int × Int) : Bool := decide (0 ≤ st.1) && (decide (st.1 < st.2) && decide (st.2 ≤ 1000000))
noncomputable def restH (H : AH) (p : PR) (st : Int × Int) : AH := H.set p.1.2.2 (.lst ((p.2.rests ++ [st]).map stAV))
theorem add_rest_run (C : BookR R) (B : BookAt H b fd wd ps ss) (hn : (ps.map (·.2.name)).Nodup) {p : PR} (hp : p ∈ ps) {st : Int × Int} (hs : stOK st = true) (hl : p.2.rests.length ≤ 1000000) :
    R (k + 3) false 14 [.ref b, .str p.2.name, stAV st] H = .ok .none (restH H p st) := by
  rw [C.add_rest _ _ _ _ rfl]
  have P := B.pat p hp
  suffices q : dc_Book_add_rest (R (k + 2)) false (rho0 [.ref b, .str p.2.name, stAV st] 4) H = .next [some (.ref b), some (.str p.2.name), some (stAV st), some (.ref p.1.1)] (restH H p st) by rw [q]; rfl
  refine s_asg (e_mo rfl B.book (i := 16) rfl (l_one rfl) (person_run C B hn hp)) ?_
  refine s_skip (e_nt (x := true) (e_call (l_one rfl) ((stretch_run C).trans (by rw [show (decide (0 ≤ st.1) && (decide (st.1 < st.2) && decide (st.2 ≤ 1000000))) = true from hs])))) ?_
  refine s_expr (e_append (e_attr rfl P.ob rfl) P.aw (l_one rfl) P.aw (by simpa using hl)) ?_
  show OutS.next _ (H.set p.1.2.2 (.lst (p.2.rests.map stAV ++ [stAV st]))) = _
  unfold restH
  rw [List.map_append]; rfl
noncomputable def restP (p : PR) (st : Int × Int) : PR := (p.1, { p.2 with rests := p.2.rests ++ [st] })
theorem map_set_same {α β : Type} {f : α → β} {l : List α} {i : Nat} {a a' : α} (h : l[i]? = some a) (e : f a' = f a) : (l.set i a').map f = l.map f := by
  rw [List.map_set, e]
  refine List.ext_getElem? fun j => ?_
  rw [List.getElem?_set]
  split
  · rename_i q
    subst q
    rw [List.length_map, List.getElem?_map, h, if_pos (List.getElem?_eq_some_iff.mp h).1]; rfl
  · rfl
theorem flat_own {α : Type} {f : α → List Nat} : ∀ {l : List α}, (l.flatMap f).Nodup → ∀ a ∈ l, (f a).Nodup
  | [], _, a, h => nomatch h
  | b :: r, hn, a, h => by
    rw [List.flatMap_cons, List.nodup_append] at hn
    cases h with
    | head => exact hn.1
    | tail _ h => exact flat_own hn.2.1 a h
theorem flat_apart {α : Type} {f : α → List Nat} : ∀ {l : List α}, (l.flatMap f).Nodup → ∀ (i j : Nat) a b x, i < j → l[i]? = some a → l[j]? = some b → x ∈ f a → x ∉ f b
  | [], _, i, j, a, b, x, _, h, _ => nomatch h
  | c :: r, hn, i, j, a, b, x, hl, h1, h2 => by
    rw [List.flatMap_cons, List.nodup_append] at hn
    cases j with
    | zero => exact absurd hl (Nat.not_lt_zero _)
    | succ j =>
      cases i with
      | zero =>
        cases h1
        intro hx hy
        exact hn.2.2 x hx x (List.mem_flatMap.mpr ⟨b, List.mem_of_getElem? h2, hy⟩) rfl
      | succ i => exact flat_apart hn.2.1 i j a b x (Nat.lt_of_succ_lt_succ hl) h1 h2
theorem BookAt.rest (B : BookAt H b fd wd ps ss) {i : Nat} {p : PR} (hi : ps[i]? = some p) {st : Int × Int} : BookAt (restH H p st) b fd wd (ps.set i (restP p st)) ss := by
  have hp := List.mem_of_getElem? hi
  have nd := B.nodup
  have hlt := B.lt _ (mem_p (b := b) (fd := fd) (wd := wd) (ss := ss) hp).2.2
  have e1 : (ps.set i (restP p st)).map pRefs = ps.map pRefs := map_set_same hi rfl
  have er : bRefs b fd wd (ps.set i (restP p st)) ss = bRefs b fd wd ps ss := by
    unfold bRefs
    rw [List.flatMap_def, e1, ← List.flatMap_def]
  -- the list of rests is no other's
  have key : ∀ j q, ps[j]? = some q → j ≠ i → ∀ n ∈ pRefs q, n ≠ p.1.2.2 := by
    intro j q hj ne n hn e
    have h2 : (ps.flatMap pRefs).Nodup := by
      unfold bRefs at nd
      have := (List.nodup_cons.mp (List.nodup_cons.mp (List.nodup_cons.mp nd).2).2).2
      rw [List.nodup_append] at this
      exact this.1
    have m2 : p.1.2.2 ∈ pRefs p := .tail _ (.tail _ (.head _))
    rcases Nat.lt_or_gt_of_ne ne with l | l
    · exact flat_apart h2 j i q p _ l hj hi (e ▸ hn) m2
    · exact flat_apart h2 i j p q _ l hi hj m2 (e ▸ hn)
  have own : p.1.1 ≠ p.1.2.2 ∧ p.1.2.1 ≠ p.1.2.2 := by
    unfold bRefs at nd
    have := (List.nodup_cons.mp (List.nodup_cons.mp (List.nodup_cons.mp nd).2).2).2
    rw [List.nodup_append] at this
    have := flat_own this.1 p hp
    simp only [pRefs, List.nodup_cons, List.mem_cons, List.not_mem_nil, or_false, not_or] at this
    exact ⟨this.1.2, this.2.1⟩
  have ho : ∀ n, n ≠ p.1.2.2 → (restH H p st)[n]? = H[n]? := fun n h => get_set_ne (Ne.symm h)
  have m := (mem_p (b := b) (fd := fd) (wd := wd) (ss := ss) hp).2.2
  unfold bRefs at nd
  obtain ⟨n1, nd⟩ := List.nodup_cons.mp nd
  obtain ⟨n2, nd⟩ := List.nodup_cons.mp nd
  obtain ⟨n3, nd⟩ := List.nodup_cons.mp nd
  have inP : p.1.2.2 ∈ ps.flatMap pRefs := List.mem_flatMap.mpr ⟨p, hp, .tail _ (.tail _ (.head _))⟩
  have inA : p.1.2.2 ∈ ps.flatMap pRefs ++ ss.flatMap sRefs := List.mem_append.mpr (.inl inP)
  refine ⟨(ho b fun e => n1 (e ▸ .tail _ (.tail _ inA))).trans B.book, ?_, (ho wd fun e => n3 (e ▸ inA)).trans B.work, fun q hq => ?_, fun s hs => ?_, er ▸ B.nodup, by rw [List.length_set]; exact B.few⟩
  · rw [ho fd fun e => n2 (e ▸ .tail _ inA), B.folk]
    exact congrArg (fun l => some (AO.dict l)) (map_set_same (f := fun p : PR => ((Key.str p.2.name, AV.ref p.1.1) : Key × AV)) (a' := restP p st) hi rfl).symm
  · obtain ⟨j, hj⟩ := List.mem_iff_getElem?.mp hq
    rw [List.getElem?_set] at hj
    split at hj
    · rename_i e
      subst e
      split at hj <;> cases hj
      have P := B.pat p hp
      exact ⟨(ho _ own.1).trans P.ob, (ho _ own.2).trans P.sk, get_set_eq hlt⟩
    · rename_i ne
      have P := B.pat q (List.mem_of_getElem? hj)
      have kk := key j q hj (Ne.symm ne)
      exact ⟨(ho _ (kk _ (.head _))).trans P.ob, (ho _ (kk _ (.tail _ (.head _)))).trans P.sk, (ho _ (kk _ (.tail _ (.tail _ (.head _))))).trans P.aw⟩
  · have S := B.sat s hs
    have dis : ∀ n ∈ sRefs s, n ≠ p.1.2.2 := fun n hn e => by
      rw [List.nodup_append] at nd
      exact nd.2.2 p.1.2.2 inP n (List.mem_flatMap.mpr ⟨s, hs, hn⟩) e.symm
    exact ⟨(ho _ (dis _ (.head _))).trans S.ob, (ho _ (dis _ (.tail _ (.head _)))).trans S.nd⟩
end
section
variable {R : Nat → Bool → FT} {k : Nat} {hot : Bool} {H : AH} {b fd wd : Nat} {ps : List PR} {ss : List SR}
noncomputable def dayOK (st : Int × Int) : Bool := decide (st.1 / 24 = (st.2 - 1) / 24)
noncomputable def addS' (H : AH) (wd : Nat) (ss : List SR) (nm : Str) (h : Int × Int) (ns : List (Str × Int)) : AH := (H ++ [AO.lst ((ns.map (·.1)).map .str), AO.lst (ns.map needAV), AO.inst 1 (sfs h (H.length + 1))] : AH).set wd (.dict (workD ss ++ [(.str nm, .ref (H.length + 2))]))
theorem nodup_perm_s {q : SR} (h : (bRefs b fd wd ps ss ++ sRefs q).Nodup) : (bRefs b fd wd ps (ss ++ [q])).Nodup := by
  unfold bRefs at h ⊢
  rw [List.flatMap_append, ← List.append_assoc]
  show (b :: fd :: wd :: (ps.flatMap pRefs ++ ss.flatMap sRefs ++ (sRefs q ++ []))).Nodup
  rw [List.append_nil]
  exact h
theorem addS_keep {nm : Str} {h : Int × Int} {ns : List (Str × Int)} {n : Nat} (hn : n < H.length) (hw : n ≠ wd) : (addS' H wd ss nm h ns)[n]? = H[n]? := by
  unfold addS'
  rw [get_set_ne (Ne.symm hw), get_ap hn]
theorem BookAt.addS (B : BookAt H b fd wd ps ss) {nm : Str} {h : Int × Int} {ns : List (Str × Int)} (hf : ps.length + ss.length < 1000) : BookAt (addS' H wd ss nm h ns) b fd wd ps (ss ++ [((H.length + 2, H.length + 1), ⟨nm, h, ns⟩)]) := by
  have nd := B.nodup
  have hwd : wd < H.length := B.lt _ (.tail _ (.tail _ (.head _)))
  unfold bRefs at nd
  obtain ⟨n1, nd⟩ := List.nodup_cons.mp nd
  obtain ⟨n2, nd⟩ := List.nodup_cons.mp nd
  obtain ⟨n3, nd⟩ := List.nodup_cons.mp nd
  have kp : ∀ n ∈ bRefs b fd wd ps ss, n ≠ wd → (addS' H wd ss nm h ns)[n]? = H[n]? := fun n hn h => addS_keep (B.lt n hn) h
  have new : ∀ (j : Nat) (o : AO), ([AO.lst ((ns.map (·.1)).map .str), AO.lst (ns.map needAV), AO.inst 1 (sfs h (H.length + 1))] : AH)[j]? = some o → (addS' H wd ss nm h ns)[H.length + j]? = some o := fun j o e => by
    unfold addS'
    rw [get_set_ne (by lia -abstractProof), List.getElem?_append_right (Nat.le_add_right _ _), Nat.add_sub_cancel_left]
    exact e
  refine ⟨(kp _ (.head _) fun e => n1 (e ▸ .tail _ (.head _))).trans B.book, (kp _ (.tail _ (.head _)) fun e => n2 (e ▸ .head _)).trans B.folk, ?_, fun p hp => ?_, fun s hs => ?_, nodup_perm_s (nodup_more B.nodup B.lt ?_ ?_), by rw [List.length_append]; simp; lia -abstractProof⟩
  · unfold addS'
    rw [get_set_eq (by rw [List.length_append]; exact Nat.lt_of_lt_of_le ‹_› (Nat.le_add_right _ _))]
    unfold workD
    rw [List.map_append]; rfl
  · have m := mem_p (b := b) (fd := fd) (wd := wd) (ss := ss) hp
    have hh : ∀ n ∈ pRefs p, n ≠ wd := fun n hn e => n3 (e ▸ List.mem_append.mpr (.inl (List.mem_flatMap.mpr ⟨p, hp, hn⟩)))
    exact ⟨(kp _ m.1 (hh _ (.head _))).trans (B.pat p hp).ob, (kp _ m.2.1 (hh _ (.tail _ (.head _)))).trans (B.pat p hp).sk, (kp _ m.2.2 (hh _ (.tail _ (.tail _ (.head _))))).trans (B.pat p hp).aw⟩
  · rcases List.mem_append.mp hs with hs | hs
    · have m := mem_s (b := b) (fd := fd) (wd := wd) (ps := ps) hs
      have hh : ∀ n ∈ sRefs s, n ≠ wd := fun n hn e => n3 (e ▸ List.mem_append.mpr (.inr (List.mem_flatMap.mpr ⟨s, hs, hn⟩)))
      exact ⟨(kp _ m.1 (hh _ (.head _))).trans (B.sat s hs).ob, (kp _ m.2 (hh _ (.tail _ (.head _)))).trans (B.sat s hs).nd⟩
    · cases List.mem_singleton.mp hs
      exact ⟨new 2 _ rfl, new 1 _ rfl⟩
  · simp [sRefs]
  · intro n hn
    simp only [sRefs, List.mem_cons, List.not_mem_nil, or_false] at hn
    lia -abstractProof
theorem BookAt.new : BookAt (H ++ [.inst 2 (bfs (H.length + 1) (H.length + 2)), .dict [], .dict []]) H.length (H.length + 1) (H.length + 2) [] [] :=
  ⟨get_l0, get_l1, by simp [workD], (fun _ q => nomatch q), (fun _ q => nomatch q), by simp [bRefs], by simp⟩
end
theorem str_ext {x y : Str} (h : x.cps.toList = y.cps.toList) : x = y := by
  cases x; cases y; congr 1; exact Array.toList_inj.mp h
theorem app_list (x y : Str) : (x ++ y).cps.toList = x.cps.toList ++ y.cps.toList := by
  rw [Str.cps_append, Array.toList_append]
noncomputable def tlL (c : Int) : List Nat := (List.range (c % 20).toNat).map fun (k : Nat) => sgc (c / 20 + 5 * k * (c % 7))
noncomputable def nmL (p c : Int) : List Nat := tlL c ++ [sgc p]
noncomputable def nm (p c : Int) : Str := ⟨(nmL p c).toArray⟩
section
variable {R : Nat → Bool → FT} {k : Nat} {H : AH} {ρ : RE}
end
section
variable {ρ : RE} {H H₁ : AH} {a : AV} {xs : List AV} {mt : Bool}
theorem loop_ref {B : AV → DS} {P : OutS → Prop} {r : Nat} (Inv : Nat → RE → AH → Prop) (hr : ∀ k ρ H, Inv k ρ H → H[r]? = some (.lst xs))
    (step : ∀ (k : Nat) v ρ H, xs[k]? = some v → Inv k ρ H → (∃ ρ' H', B v ρ H = .next ρ' H' ∧ Inv (k + 1) ρ' H') ∨ (∃ a H', B v ρ H = .ret a H' ∧ P (.ret a H')) ∨ ∃ c ρ' H', B v ρ H = .exc c ρ' H' ∧ P (.exc c ρ' H'))
    (fin : ∀ ρ H, Inv xs.length ρ H → P (.next ρ H)) : ∀ (n k : Nat) (ρ : RE) (H : AH), n + k = xs.length → Inv k ρ H → P (loopS B (.lref r) n k ρ H) := loop_at Inv (fun k ρ H i => item_ref (hr k ρ H i)) step fin
theorem for_ref {i r : Nat} {it : DE} {b : DS} (h : it ρ H = .ok (.ref r) H₁) (hr : H₁[r]? = some (.lst xs)) : forS false (.one i) it b ρ H = loopS (fun v ρ H => b (ρ.set i (some v)) H) (.lref r) xs.length 0 ρ H₁ := by
  unfold forS
  rw [h]
  have hs : srcOf H₁ (.ref r) = some (.lref r, xs.length, none) := by
    show (match H₁[r]? with | some (.lst xs) => some (Src.lref r, xs.length, none) | some (.dict es) => some (.seq (es.map fun e => e.1.av), es.length, some r) | _ => none : Option (Src × Nat × Option Nat)) = _
    rw [hr]
  show orBadS (srcOf H₁ (.ref r)) _ = _
  rw [hs]
  exact free_none _
theorem sub_ref {r : Nat} {i : Int} {v : AV} (hr : H[r]? = some (.lst xs)) (h0 : 0 ≤ i) (h : xs[i.toNat]? = some v) (hl : xs.length ≤ 1000000) : subA (.ref r) (.int i) H = .ok v H := by
  have hlt := (List.getElem?_eq_some_iff.mp h).1
  obtain ⟨hs, hi⟩ := sm_at h0 hlt hl
  have ha : atA i xs = some v := by
    unfold atA
    rw [hs, hi]
    exact h
  unfold subA
  rw [ndc_at hr]
  show orBad (lsOf H _) _ = _
  rw [ls_at hr]
  show orBad (atA i xs) _ = _
  rw [ha]; rfl
theorem clip_in {l : Int} {n d : Nat} (h0 : 0 ≤ l) (h1 : l ≤ n) : clip (some l) n d = l.toNat := by
  show (if l < 0 then _ else if l < n then l.toNat else n) = _
  rw [if_neg (Int.not_lt.mpr h0)]
  split
  · rfl
  · rename_i g
    rw [Int.le_antisymm h1 (Int.not_lt.mp g)]; rfl
theorem slc_to {u : Int} (h0 : 0 ≤ u) (h1 : u ≤ xs.length) (hl : xs.length ≤ 1000) : slcA false (.lst xs) .none (.int u) .none H = .ok (.lst (xs.take u.toNat)) H := by
  have s1 : optI (.int u) = some (some u) := if_pos (sm_ok h0 (Int.le_trans h1 (Int.ofNat_le.mpr (le_t hl rfl))))
  have hs : 1000 ≤ sizeLine := by decide
  unfold slcA
  rw [s1]
  show (if xs.length ≤ sizeLine then newL false (cut xs none (some u)) H else .bad) = _
  rw [if_pos (le_t ‹_› rfl)]
  show Out.ok (AV.lst (cut xs none (some u))) H = _
  unfold cut
  rw [clip_in h0 h1]
  rfl
end
noncomputable def Up (N : Nat) (H H' : AH) : Prop := H.length ≤ H'.length ∧ ∀ n < N, H'[n]? = H[n]?
structure BookOf (N : Nat) (H : AH) (b : Nat) (ps : List Pm) (ss : List Sm) : Prop where
  ex : ∃ fd wd prs srs, BookAt H b fd wd prs srs ∧ prs.map (·.2) = ps ∧ srs.map (·.2) = ss ∧ ∀ n ∈ bRefs b fd wd prs srs, N ≤ n
section
variable {R : Nat → Bool → FT} {k : Nat} {hot : Bool} {H H' H'' : AH} {N N' b : Nat} {ps : List Pm} {ss : List Sm}
theorem Up.refl : Up N H H := ⟨Nat.le_refl _, fun _ _ => rfl⟩
theorem Up.trans (h : Up N H H') (h' : Up N H' H'') : Up N H H'' := ⟨Nat.le_trans h.1 h'.1, fun n hn => (h'.2 n hn).trans (h.2 n hn)⟩
theorem Up.mono (h : Up N H H') (hn : N' ≤ N) : Up N' H H' := ⟨h.1, fun n q => h.2 n (Nat.lt_of_lt_of_le q hn)⟩
theorem Up.app {l : AH} : Up H.length H (H ++ l) := ⟨by simp, fun n hn => List.getElem?_append_left hn⟩
theorem Up.get {n : Nat} {o : AO} (h : Up H.length H H') (e : H[n]? = some o) : H'[n]? = some o := (h.2 n (List.getElem?_eq_some_iff.mp e).1).trans e
theorem BookOf.le (B : BookOf N H b ps ss) : N ≤ H.length := by
  refine x4_4 (B.ex) fun fd wd prs srs B _ _ h => ?_
  have := B.lt b (.head _)
  have := h b (.head _)
  lia -abstractProof
theorem BookOf.up (B : BookOf N H b ps ss) (h : Up H.length H H') : BookOf N H' b ps ss := by
  refine x4_4 (B.ex) fun fd wd prs srs B e1 e2 hN => ?_
  exact ⟨fd, wd, prs, srs, B.frame fun n hn => h.2 n (B.lt n hn), e1, e2, hN⟩
theorem BookOf.at (B : BookOf N H b ps ss) : ∃ fs, H[b]? = some (.inst 2 fs) := by
  refine x4_2 (B.ex) fun fd wd prs srs B _ => ?_
  exact ⟨_, B.book⟩
theorem BookOf.new : BookOf H.length (H ++ [.inst 2 (bfs (H.length + 1) (H.length + 2)), .dict [], .dict []]) H.length [] [] :=
  ⟨_, _, [], [], BookAt.new, rfl, rfl, fun n hn => by simp [bRefs] at hn; lia⟩
theorem names_eq {prs : List PR} (h : prs.map (·.2) = ps) : prs.map (·.2.name) = ps.map (·.name) := by rw [← h, List.map_map]; rfl
theorem names_eqS {srs : List SR} (h : srs.map (·.2) = ss) : srs.map (·.2.name) = ss.map (·.name) := by rw [← h, List.map_map]; rfl
end
noncomputable def UpQ (Q : Nat → Prop) (H H' : AH) : Prop := H.length ≤ H'.length ∧ ∀ n < H.length, ¬ Q n → H'[n]? = H[n]?
structure BookQ (Q : Nat → Prop) (H : AH) (b : Nat) (ps : List Pm) (ss : List Sm) : Prop where
  ex : ∃ fd wd prs srs, BookAt H b fd wd prs srs ∧ prs.map (·.2) = ps ∧ srs.map (·.2) = ss ∧ ∀ n ∈ bRefs b fd wd prs srs, Q n
section
variable {R : Nat → Bool → FT} {k : Nat} {H H' H'' : AH} {N b : Nat} {Q : Nat → Prop} {ps : List Pm} {ss : List Sm}
theorem UpQ.trans (h : UpQ Q H H') (h' : UpQ Q H' H'') : UpQ Q H H'' := ⟨Nat.le_trans h.1 h'.1, fun n hn q => (h'.2 n (Nat.lt_of_lt_of_le hn h.1) q).trans (h.2 n hn q)⟩
theorem UpQ.refl : UpQ Q H H := ⟨Nat.le_refl _, fun _ _ _ => rfl⟩
theorem UpQ.up (h : UpQ Q H H') (hN : N ≤ H.length) (hQ : ∀ n < N, ¬ Q n) : Up N H H' := ⟨h.1, fun n hn => h.2 n (Nat.lt_of_lt_of_le hn hN) (hQ n hn)⟩
theorem BookQ.of (B : BookQ Q H b ps ss) (hQ : ∀ n, Q n → N ≤ n) : BookOf N H b ps ss := by
  refine x4_4 (B.ex) fun fd wd prs srs A e1 e2 h => ?_
  exact ⟨fd, wd, prs, srs, A, e1, e2, fun n hn => hQ n (h n hn)⟩
theorem BookQ.up (B : BookQ Q H b ps ss) (h : Up H.length H H') : BookQ Q H' b ps ss := by
  refine x4_4 (B.ex) fun fd wd prs srs A e1 e2 hN => ?_
  exact ⟨fd, wd, prs, srs, A.frame fun n hn => h.2 n (A.lt n hn), e1, e2, hN⟩
theorem BookQ.frame (B : BookQ Q H b ps ss) (h : ∀ n, Q n → n < H.length → H'[n]? = H[n]?) : BookQ Q H' b ps ss := by
  refine x4_4 (B.ex) fun fd wd prs srs A e1 e2 hN => ?_
  exact ⟨fd, wd, prs, srs, A.frame fun n hn => h n (hN n hn) (A.lt n hn), e1, e2, hN⟩
theorem BookQ.at (B : BookQ Q H b ps ss) : ∃ fs, H[b]? = some (.inst 2 fs) := by
  refine x4_2 (B.ex) fun fd wd prs srs B _ => ?_
  exact ⟨_, B.book⟩
theorem add_rest_q (C : BookR R) (B : BookQ Q H b ps ss) (hnd : (ps.map (·.name)).Nodup) {i : Nat} {p : Pm} (hi : ps[i]? = some p) {st : Int × Int} (hs : stOK st = true) (hl : p.rests.length ≤ 1000000) :
    ∃ H', R (k + 3) false 14 [.ref b, .str p.name, stAV st] H = .ok .none H' ∧ BookQ Q H' b (ps.set i { p with rests := p.rests ++ [st] }) ss ∧ UpQ Q H H' ∧ H'.length = H.length := by
  refine x4_4 (B.ex) fun fd wd prs srs A e5' e6' hN => ?_; subst e5'; subst e6'
  rw [List.getElem?_map] at hi
  refine x1_2 (Option.map_eq_some_iff.mp hi) fun q hq e2' => ?_; subst e2'
  have hm := List.mem_of_getElem? hq
  refine ⟨_, add_rest_run C A (by simpa [Function.comp_def] using hnd) hm hs hl, ⟨fd, wd, _, srs, A.rest hq, ?_, rfl, ?_⟩, ⟨?_, ?_⟩, ?_⟩
  · rw [List.map_set]; rfl
  · intro n hn
    refine hN n ?_
    unfold bRefs at hn ⊢
    rw [List.flatMap_def, List.flatMap_def, map_set_same (f := pRefs) (a' := restP q st) hq rfl] at hn
    rw [List.flatMap_def, List.flatMap_def]
    exact hn
  · unfold restH; simp
  · intro n hn z
    exact get_set_ne fun e => z (e ▸ hN _ (mem_p (b := b) (fd := fd) (wd := wd) (ss := srs) hm).2.2)
  · unfold restH; simp
end
inductive Ex2 {A B : Type} (P : A → B → Prop) : Prop
  | mk (a : A) (b : B) (p : P a b) : Ex2 P
inductive Ex3 {A B C : Type} (P : A → B → C → Prop) : Prop
  | mk (a : A) (b : B) (c : C) (p : P a b c) : Ex3 P
structure A2 (p1 p2 : Prop) : Prop where
  h1 : p1
  h2 : p2
structure A3 (p1 p2 p3 : Prop) : Prop where
  h1 : p1
  h2 : p2
  h3 : p3
inductive A4 (p1 p2 p3 p4 : Prop) : Prop
  | mk : p1 → p2 → p3 → p4 → A4 p1 p2 p3 p4
section
variable {P : OutS → Prop} {ρ ρ' : RE} {H H₁ H₂ H₃ H₄ : AH} {a : AV} {e t : DE} {r bs : List DS} {s b c : DS} {hot : Bool} {xs : List AV}
theorem p_asg {i : Nat} (h : e ρ H = .ok a H₁) (q : P (seqS r (ρ.set i (some a)) H₁)) : P (seqS (assignS hot (.one i) e :: r) ρ H) := by rw [s_asg h rfl]; exact q
theorem p_expr (h : e ρ H = .ok a H₁) (q : P (seqS r ρ H₁)) : P (seqS (exprS e :: r) ρ H) := by rw [s_expr h rfl]; exact q
theorem p_ret (h : e ρ H = .ok a H₁) (q : P (.ret a H₁)) : P (seqS (retS e :: r) ρ H) := by rw [s_ret h]; exact q
theorem p_nil (q : P (.next ρ H)) : P (seqS [] ρ H) := q
noncomputable def Th (r : List DS) (P : OutS → Prop) (o : OutS) : Prop := P (o.then (seqS r))
theorem th_nil (q : P (seqS r ρ H)) : Th r P (seqS [] ρ H) := q
theorem p_if {x : Bool} (h : t ρ H = .ok (.bool x) H₁) (q1 : x = true → Th r P (b ρ H₁)) (q2 : x = false → Th r P (c ρ H₁)) : P (seqS (ifS t b c :: r) ρ H) := by
  show P ((ifS t b c ρ H).then _); unfold ifS; rw [h]
  cases x with
  | true => exact q1 rfl
  | false => exact q2 rfl
theorem p_skip (h : t ρ H = .ok (.bool false) H₁) (q : P (seqS r ρ H₁)) : P (seqS (ifS t b (seqS []) :: r) ρ H) := by rw [s_skip h rfl]; exact q
noncomputable def Nx (I : RE → AH → Prop) (P : OutS → Prop) : OutS → Prop
  | .next ρ H => I ρ H
  | .ret a H => P (.ret a H)
  | .exc c ρ H => P (.exc c ρ H)
  | .bad => False
theorem nx_next {I : RE → AH → Prop} (h : I ρ H) : Nx I P (seqS [] ρ H) := h
theorem th_next {I : RE → AH → Prop} (h : I ρ H) : Th [] (Nx I P) (seqS [] ρ H) := h
theorem nx_cases {I : RE → AH → Prop} {o : OutS} (h : Nx I P o) : (∃ ρ' H', o = .next ρ' H' ∧ I ρ' H') ∨ (∃ a H', o = .ret a H' ∧ P (.ret a H')) ∨ ∃ c ρ' H', o = .exc c ρ' H' ∧ P (.exc c ρ' H') := by
  cases o with
  | next ρ H => exact .inl ⟨_, _, rfl, h⟩
  | ret a H => exact .inr (.inl ⟨_, _, rfl, h⟩)
  | exc c ρ H => exact .inr (.inr ⟨_, _, _, rfl, h⟩)
  | bad => exact h.elim
theorem p_for {i n : Nat} {it : DE} (h : it ρ H = .ok a H₁) (hs : srcOf H₁ a = some (.seq xs, n, none)) (hn : n = xs.length) (Inv : Nat → RE → AH → Prop) (i0 : Inv 0 ρ H₁)
    (step : ∀ (J : RE → AH → Prop) (j : Nat) v ρ H, xs[j]? = some v → Inv j ρ H → (∀ ρ' H', Inv (j + 1) ρ' H' → J ρ' H') → Nx J P (b (ρ.set i (some v)) H)) (fin : ∀ ρ H, Inv xs.length ρ H → P (seqS r ρ H)) : P (seqS (forS false (.one i) it b :: r) ρ H) := by
  show P ((forS false (.one i) it b ρ H).then _)
  rw [for_seq h hs]
  refine loop_any (P := fun o => P (o.then (seqS r))) Inv (fun j v ρ H e q => ?_) fin n 0 ρ H₁ (by omega) i0
  exact nx_cases (step (Inv (j + 1)) j v ρ H e q fun _ _ h => h)
theorem p_forR {i m : Nat} {it : DE} (h : it ρ H = .ok (.ref m) H₁) (hr : H₁[m]? = some (.lst xs)) (Inv : Nat → RE → AH → Prop) (i0 : Inv 0 ρ H₁) (hm : ∀ j ρ H, Inv j ρ H → H[m]? = some (.lst xs))
    (step : ∀ (J : RE → AH → Prop) (j : Nat) v ρ H, xs[j]? = some v → Inv j ρ H → (∀ ρ' H', Inv (j + 1) ρ' H' → J ρ' H') → Nx J P (b (ρ.set i (some v)) H)) (fin : ∀ ρ H, Inv xs.length ρ H → P (seqS r ρ H)) : P (seqS (forS false (.one i) it b :: r) ρ H) := by
  show P ((forS false (.one i) it b ρ H).then _)
  rw [for_ref h hr]
  refine loop_ref (P := fun o => P (o.then (seqS r))) Inv hm (fun j v ρ H e q => ?_) fin _ 0 ρ H₁ (by lia) i0
  exact nx_cases (step (Inv (j + 1)) j v ρ H e q fun _ _ h => h)
theorem p_item {e' e'' : DE} {v k : AV} (h1 : e'' ρ H = .ok v H₁) (h2 : e ρ H₁ = .ok a H₂) (h3 : e' ρ H₂ = .ok k H₃) (h4 : setItemA a k v H₃ = some H₄) (q : P (seqS r ρ H₄)) : P (seqS (setItemS e e' e'' :: r) ρ H) := by rw [s_item h1 h2 h3 h4 rfl]; exact q
end
noncomputable def d05_Book_people (Φ : Bool → FT) (hot : Bool) : DS := (seqS [retS (biE hot (.list true) [(attrE 5 (varE 0))])])
noncomputable def d05_Book_shifts (Φ : Bool → FT) (hot : Bool) : DS := (seqS [retS (biE hot (.list true) [(attrE 6 (varE 0))])])
noncomputable def d05_Book_skills_of (Φ : Bool → FT) (hot : Bool) : DS := (seqS [retS (biE hot (.list true) [(attrE 0 (moE gmC (Φ hot) 4 (varE 0) [(varE 1)]))])])
noncomputable def d05_Book_rests_of (Φ : Bool → FT) (hot : Bool) : DS := (seqS [retS (biE hot (.list true) [(attrE 2 (moE gmC (Φ hot) 4 (varE 0) [(varE 1)]))])])
noncomputable def d05_l_posts_b1 (Φ : Bool → FT) (hot : Bool) : DS := (seqS [assignS hot (.one 1) (binE false .Add (varE 1) (compE hot false (tupE [(varE 2), (subE (varE 3) (cstE (.int 0)))]) (subE (subE (subE (varE 0) (cstE (.str "shifts"))) (varE 2)) (cstE (.int 1))) (cstE (.bool true))))])
noncomputable def d05_l_posts (Φ : Bool → FT) (hot : Bool) : DS := (seqS [assignS hot (.one 1) (lstE false []), forS hot (.one 2) (subE (varE 0) (cstE (.str "shifts"))) (d05_l_posts_b1 Φ hot), retS (varE 1)])
noncomputable def d05_l_name_of_b1 (Φ : Bool → FT) (hot : Bool) : DS := (seqS [retS (subE (lstE false [(cstE (.str "")), (cstE (.str " ")), (cstE (.str "a b")), (cstE (.str "a\n")), (cstE (.str "aaaaaaaaaaaaaaaaaaaaa")), (cstE (.str "\t"))]) (binE false .Mod (binE false .FloorDiv (varE 0) (cstE (.int 7))) (cstE (.int 6))))])
noncomputable def d05_l_name_of (Φ : Bool → FT) (hot : Bool) : DS := (seqS [ifS (cmpE (binE false .Mod (varE 0) (cstE (.int 7))) [.Eq] [(cstE (.int 6))]) (d05_l_name_of_b1 Φ hot) (seqS []), assignS hot (.one 1) (binE false .Mult (subE (lstE false [(cstE (.str "")), (cstE (.str "l")), (cstE (.str "lo")), (cstE (.str "Lo"))]) (binE false .Mod (binE false .FloorDiv (varE 0) (cstE (.int 7))) (cstE (.int 4)))) (cstE (.int 6))), assignS hot (.one 2) (binE false .Mod (binE false .FloorDiv (varE 0) (cstE (.int 28))) (binE false .Add (biE hot .len [(varE 1)]) (cstE (.int 1)))), retS (binE false .Add (binE false .Add (slcE false (varE 1) (cstE .none) (varE 2) (cstE .none)) (subE (cstE (.str "Aa!'Nn")) (binE false .Mod (varE 0) (cstE (.int 7))))) (slcE false (varE 1) (varE 2) (cstE .none) (cstE .none)))])
noncomputable def d05_l_is_name (Φ : Bool → FT) (hot : Bool) : DS := (seqS [retS (bopE true [(cmpE (cstE (.int 1)) [.LtE, .LtE] [(biE hot .len [(varE 0)]), (cstE (.int 20))]), (cmpE (compE hot false (cstE (.int 1)) (varE 0) (cmpE (varE 1) [.In] [(cstE (.str " \n\t"))])) [.Eq] [(lstE false [])])])])
noncomputable def d05_l_counted (Φ : Bool → FT) (hot : Bool) : DS := (seqS [retS (bopE true [(isiE gmC (varE 0) [.int]), (ntE (isiE gmC (varE 0) [.bool])), (cmpE (cstE (.int 1)) [.LtE, .LtE] [(varE 0), (varE 1)])])])
noncomputable def d05_l_stretch_of_b1 (Φ : Bool → FT) (hot : Bool) : DS := (seqS [retS (subE (varE 4) (binE false .Mod (binE false .FloorDiv (varE 0) (cstE (.int 276480))) (cstE (.int 10))))])
noncomputable def d05_l_stretch_of (Φ : Bool → FT) (hot : Bool) : DS := (seqS [assignS hot (.one 1) (binE false .Add (binE false .Mult (cstE (.int 24)) (binE false .Mod (varE 0) (cstE (.int 5)))) (binE false .Mod (binE false .FloorDiv (varE 0) (cstE (.int 5))) (cstE (.int 24)))), assignS hot (.one 2) (subE (lstE false [(cstE (.int 0)), (cstE (.int 0)), (cstE (.int 999960))]) (binE false .Mod (binE false .FloorDiv (varE 0) (cstE (.int 120))) (cstE (.int 3)))), assignS hot (.one 3) (subE (lstE false [(binE false .Add (cstE (.int 1)) (binE false .Mod (binE false .FloorDiv (varE 0) (cstE (.int 360))) (cstE (.int 24)))), (cstE (.int 0)), (negE (cstE (.int 1))), (cstE (.int 30))]) (subE (lstE false [(cstE (.int 0)), (cstE (.int 0)), (cstE (.int 0)), (cstE (.int 0)), (cstE (.int 0)), (cstE (.int 1)), (cstE (.int 2)), (cstE (.int 3))]) (binE false .Mod (binE false .FloorDiv (varE 0) (cstE (.int 8640))) (cstE (.int 8))))), assignS hot (.one 4) (lstE false [(tupE [(cstE (.int 1))]), (tupE []), (tupE [(cstE (.int 0)), (cstE (.int 5)), (cstE (.int 9))]), (tupE [(cstE (.bool true)), (cstE (.int 5))]), (tupE [(cstE (.int 0)), (cstE (.bool true))]), (tupE [(cstE .none), (cstE (.int 5))]), (tupE [(cstE (.str "0")), (cstE (.int 5))]), (tupE [(negE (cstE (.int 20))), (negE (cstE (.int 12)))]), (tupE [(negE (cstE (.int 1))), (cstE (.int 3))]), (tupE [(cstE (.int 0)), (cstE .none)])]), ifS (cmpE (binE false .Mod (binE false .FloorDiv (varE 0) (cstE (.int 69120))) (cstE (.int 4))) [.Eq] [(cstE (.int 1))]) (d05_l_stretch_of_b1 Φ hot) (seqS []), retS (tupE [(binE false .Add (varE 2) (varE 1)), (binE false .Add (binE false .Add (varE 2) (varE 1)) (varE 3))])])
noncomputable def d05_l_good_stretch (Φ : Bool → FT) (hot : Bool) : DS := (seqS [ifS (bopE false [(cmpE (biE hot .len [(varE 0)]) [.NotEq] [(cstE (.int 2))]), (ntE (callE (Φ hot) 51 [(subE (varE 0) (cstE (.int 1))), (cstE (.int 1000000))])), (bopE true [(ntE (callE (Φ hot) 51 [(subE (varE 0) (cstE (.int 0))), (cstE (.int 999999))])), (cmpE (subE (varE 0) (cstE (.int 0))) [.NotEq] [(cstE (.int 0))])])]) (seqS [retS (cstE (.bool false))]) (seqS []), retS (bopE true [(cmpE (subE (varE 0) (cstE (.int 0))) [.IsNot] [(cstE (.bool false))]), (cmpE (subE (varE 0) (cstE (.int 0))) [.Lt] [(subE (varE 0) (cstE (.int 1)))])])])
noncomputable def d05_l_person_word_b1 (Φ : Bool → FT) (hot : Bool) : DS := (seqS [ifS (ntE (callE (Φ hot) 50 [(subE (varE 2) (varE 4))])) (seqS [retS (cstE (.str "name"))]) (seqS []), ifS (cmpE (subE (varE 2) (varE 4)) [.In] [(slcE false (varE 2) (cstE .none) (varE 4) (cstE .none))]) (seqS [retS (cstE (.str "twice"))]) (seqS [])])
noncomputable def d05_l_person_word (Φ : Bool → FT) (hot : Bool) : DS := (seqS [ifS (ntE (callE (Φ hot) 50 [(varE 1)])) (seqS [retS (cstE (.str "name"))]) (seqS []), forS hot (.one 4) (biE hot .range [(biE hot .len [(varE 2)])]) (d05_l_person_word_b1 Φ hot), ifS (ntE (callE (Φ hot) 51 [(varE 3), (cstE (.int 31))])) (seqS [retS (cstE (.str "count"))]) (seqS []), retS (ifeE (cmpE (varE 1) [.In] [(subE (varE 0) (cstE (.str "people")))]) (cstE (.str "twice")) (cstE (.str "")))])
noncomputable def d05_l_shift_word_b1 (Φ : Bool → FT) (hot : Bool) : DS := (seqS [ifS (ntE (callE (Φ hot) 50 [(subE (subE (varE 3) (varE 4)) (cstE (.int 0)))])) (seqS [retS (cstE (.str "name"))]) (seqS []), ifS (cmpE (subE (subE (varE 3) (varE 4)) (cstE (.int 0))) [.In] [(compE hot false (subE (varE 5) (cstE (.int 0))) (slcE false (varE 3) (cstE .none) (varE 4) (cstE .none)) (cstE (.bool true)))]) (seqS [retS (cstE (.str "twice"))]) (seqS []), ifS (ntE (callE (Φ hot) 51 [(subE (subE (varE 3) (varE 4)) (cstE (.int 1))), (cstE (.int 9))])) (seqS [retS (cstE (.str "count"))]) (seqS [])])
noncomputable def d05_l_shift_word (Φ : Bool → FT) (hot : Bool) : DS := (seqS [ifS (ntE (callE (Φ hot) 50 [(varE 1)])) (seqS [retS (cstE (.str "name"))]) (seqS []), ifS (bopE false [(ntE (callE (Φ hot) 53 [(varE 2)])), (cmpE (subE (varE 2) (cstE (.int 1))) [.Gt] [(binE false .Add (binE false .Mult (binE false .FloorDiv (subE (varE 2) (cstE (.int 0))) (cstE (.int 24))) (cstE (.int 24))) (cstE (.int 24)))])]) (seqS [retS (cstE (.str "stretch"))]) (seqS []), forS hot (.one 4) (biE hot .range [(biE hot .len [(varE 3)])]) (d05_l_shift_word_b1 Φ hot), retS (ifeE (cmpE (varE 1) [.In] [(subE (varE 0) (cstE (.str "shifts")))]) (cstE (.str "twice")) (cstE (.str "")))])
noncomputable def d05_l_word (Φ : Bool → FT) (hot : Bool) : DS := (seqS [assignS hot (.one 1) (binE false .Add (binE false .Mult (cstE (.str "bare")) (biE hot .int [(ntE (isiE gmC (varE 0) [.val]))])) (binE false .Mult (cstE (.str "line")) (biE hot .int [(isiE gmC (varE 0) [.exc 6])]))), assignS hot (.one 1) (binE false .Add (binE false .Add (varE 1) (binE false .Mult (cstE (.str "name")) (biE hot .int [(isiE gmC (varE 0) [.exc 1])]))) (binE false .Mult (cstE (.str "twice")) (biE hot .int [(isiE gmC (varE 0) [.exc 4])]))), assignS hot (.one 1) (binE false .Add (binE false .Add (varE 1) (binE false .Mult (cstE (.str "count")) (biE hot .int [(isiE gmC (varE 0) [.exc 3])]))) (binE false .Mult (cstE (.str "stretch")) (biE hot .int [(isiE gmC (varE 0) [.exc 2])]))), retS (binE false .Add (varE 1) (binE false .Mult (cstE (.str "missing")) (biE hot .int [(isiE gmC (varE 0) [.exc 5])])))])
noncomputable def d05_l_tried_b1 (Φ : Bool → FT) (hot : Bool) : DS := (seqS [ifS (cmpE (varE 1) [.Eq] [(cstE (.int 1))]) (seqS [exprS (moE gmC (Φ hot) 2 (varE 0) [(varE 2), (varE 3)])]) (seqS [exprS (moE gmC (Φ hot) 3 (varE 0) [(varE 2), (varE 3), (varE 4)])])])
noncomputable def d05_l_tried_b2 (Φ : Bool → FT) (hot : Bool) : DS := (seqS [ifS (cmpE (varE 1) [.Eq] [(cstE (.int 0))]) (seqS [exprS (moE gmC (Φ hot) 1 (varE 0) [(varE 2), (varE 3), (varE 4)])]) (d05_l_tried_b1 Φ hot)])
noncomputable def d05_l_tried (Φ : Bool → FT) (hot : Bool) : DS := (seqS [tryS hot gmC (d05_l_tried_b2 Φ hot) [(0, some 5, (seqS [retS (callE (Φ true) 56 [(varE 5)])]))], retS (cstE (.str ""))])
noncomputable def d05_l_caught (Φ : Bool → FT) (hot : Bool) : DS := (seqS [tryS hot gmC (seqS [retS (callE (Φ hot) 59 [(varE 0), (varE 1), (varE 2), (varE 3), (varE 4)])]) [(1, none, (seqS [retS (cstE (.str "name"))])), (4, none, (seqS [retS (cstE (.str "twice"))])), (3, none, (seqS [retS (cstE (.str "count"))])), (2, none, (seqS [retS (cstE (.str "stretch"))])), (5, none, (seqS [retS (cstE (.str "missing"))]))]])
noncomputable def d05_l_tried_bare_b1 (Φ : Bool → FT) (hot : Bool) : DS := (seqS [ifS (cmpE (varE 1) [.Eq] [(cstE (.int 1))]) (seqS [exprS (moE gmC (Φ hot) 2 (varE 0) [(varE 2), (varE 3)])]) (seqS [exprS (moE gmC (Φ hot) 3 (varE 0) [(varE 2), (varE 3), (varE 4)])])])
noncomputable def d05_l_tried_bare (Φ : Bool → FT) (hot : Bool) : DS := (seqS [ifS (cmpE (varE 1) [.Eq] [(cstE (.int 0))]) (seqS [exprS (moE gmC (Φ hot) 1 (varE 0) [(varE 2), (varE 3), (varE 4)])]) (d05_l_tried_bare_b1 Φ hot), retS (cstE (.str ""))])
noncomputable def d05_l_deed_b1 (Φ : Bool → FT) (hot : Bool) : DS := (seqS [setItemS (subE (varE 1) (cstE (.str "shifts"))) (varE 4) (lstE false [(varE 8), (varE 9)]), exprS (mbE .clear (subE (varE 11) (cstE (.int 1))) [])])
noncomputable def d05_l_deed_b2 (Φ : Bool → FT) (hot : Bool) : DS := (seqS [exprS (mbE .append (subE (subE (subE (varE 1) (cstE (.str "people"))) (varE 4)) (cstE (.int 2))) [(varE 8)])])
noncomputable def d05_l_deed_b3 (Φ : Bool → FT) (hot : Bool) : DS := (seqS [setItemS (subE (varE 1) (cstE (.str "people"))) (varE 4) (lstE false [(varE 5), (varE 7), (lstE true [])]), exprS (mbE .append (subE (varE 11) (cstE (.int 0))) [(cstE (.str "x"))])])
noncomputable def d05_l_deed_b4 (Φ : Bool → FT) (hot : Bool) : DS := (seqS [assignS hot (.one 12) (callE (Φ hot) 55 [(varE 1), (varE 4), (varE 8), (varE 9)])])
noncomputable def d05_l_deed_b5 (Φ : Bool → FT) (hot : Bool) : DS := (seqS [assignS hot (.one 12) (ifeE (cmpE (varE 4) [.NotIn] [(subE (varE 1) (cstE (.str "people")))]) (cstE (.str "missing")) (ifeE (callE (Φ hot) 53 [(varE 8)]) (cstE (.str "")) (cstE (.str "stretch"))))])
noncomputable def d05_l_deed (Φ : Bool → FT) (hot : Bool) : DS := (seqS [assignS hot (.one 4) (callE (Φ hot) 49 [(binE false .FloorDiv (varE 2) (cstE (.int 8)))]), assignS hot (.one 5) (compE hot false (callE (Φ hot) 49 [(binE false .FloorDiv (varE 3) (binE false .Add (cstE (.int 1)) (binE false .Mult (cstE (.int 11)) (varE 14))))]) (biE hot .range [(binE false .Mod (binE false .FloorDiv (varE 3) (cstE (.int 3))) (cstE (.int 4)))]) (cstE (.bool true))), assignS hot (.one 6) (subE (lstE false [(cstE (.int 0)), (cstE (.bool true)), (cstE .none), (cstE (.str "3")), (negE (cstE (.int 4))), (cstE (.bool false)), (binE false .Pow (cstE (.int 10)) (cstE (.int 30))), (tupE [(cstE (.int 1))])]) (binE false .Mod (binE false .FloorDiv (varE 3) (cstE (.int 119))) (cstE (.int 8)))), assignS hot (.one 7) (subE (lstE false [(binE false .Add (cstE (.int 1)) (binE false .Mod (binE false .FloorDiv (varE 3) (cstE (.int 13))) (cstE (.int 9)))), (binE false .Add (cstE (.int 1)) (binE false .Mod (binE false .FloorDiv (varE 3) (cstE (.int 13))) (cstE (.int 33)))), (varE 6)]) (subE (lstE false [(cstE (.int 0)), (cstE (.int 1)), (cstE (.int 0)), (cstE (.int 1)), (cstE (.int 0)), (cstE (.int 2)), (cstE (.int 2))]) (binE false .Mod (binE false .FloorDiv (varE 3) (cstE (.int 17))) (cstE (.int 7))))), assignS hot (.one 8) (callE (Φ hot) 52 [(binE false .FloorDiv (varE 2) (cstE (.int 64)))]), assignS hot (.one 9) (compE hot false (tupE [(subE (varE 5) (varE 14)), (subE (lstE false [(varE 7), (binE false .Add (cstE (.int 1)) (varE 14))]) (biE hot .int [(cmpE (varE 14) [.NotEq] [(binE false .Mod (varE 3) (cstE (.int 3)))])]))]) (biE hot .range [(biE hot .len [(varE 5)])]) (cstE (.bool true))), assignS hot (.one 10) (subE (lstE false [(cstE (.int 0)), (cstE (.int 0)), (cstE (.int 1)), (cstE (.int 2))]) (binE false .Mod (binE false .FloorDiv (varE 2) (cstE (.int 2))) (cstE (.int 4)))), assignS hot (.one 11) (subE (lstE false [(lstE false [(biE hot (.list true) [(varE 5)]), (varE 7)]), (lstE false [(varE 8), (cstE .none)]), (lstE false [(varE 8), (biE hot (.list true) [(varE 9)])])]) (varE 10)), assignS hot (.one 12) (callE (Φ hot) 54 [(varE 1), (varE 4), (varE 5), (varE 7)]), ifS (cmpE (varE 10) [.Eq] [(cstE (.int 1))]) (d05_l_deed_b5 Φ hot) (seqS []), ifS (cmpE (varE 10) [.Eq] [(cstE (.int 2))]) (d05_l_deed_b4 Φ hot) (seqS []), ifS (bopE true [(cmpE (varE 12) [.NotEq] [(cstE (.str ""))]), (cmpE (callE (Φ hot) 58 [(varE 0), (varE 10), (varE 4), (subE (varE 11) (cstE (.int 0))), (subE (varE 11) (cstE (.int 1)))]) [.NotEq] [(varE 12)])]) (seqS [retS (cstE (.bool false))]) (seqS []), assignS hot (.one 13) (callE (Φ hot) 57 [(varE 0), (varE 10), (varE 4), (subE (varE 11) (cstE (.int 0))), (subE (varE 11) (cstE (.int 1)))]), ifS (bopE false [(cmpE (varE 11) [.NotEq] [(subE (lstE false [(lstE false [(varE 5), (varE 7)]), (lstE false [(varE 8), (cstE .none)]), (lstE false [(varE 8), (varE 9)])]) (varE 10))]), (cmpE (varE 13) [.NotEq] [(varE 12)])]) (seqS [retS (cstE (.bool false))]) (seqS []), ifS (bopE true [(cmpE (varE 12) [.Eq] [(cstE (.str ""))]), (cmpE (varE 10) [.Eq] [(cstE (.int 0))])]) (d05_l_deed_b3 Φ hot) (seqS []), ifS (bopE true [(cmpE (varE 12) [.Eq] [(cstE (.str ""))]), (cmpE (varE 10) [.Eq] [(cstE (.int 1))])]) (d05_l_deed_b2 Φ hot) (seqS []), ifS (bopE true [(cmpE (varE 12) [.Eq] [(cstE (.str ""))]), (cmpE (varE 10) [.Eq] [(cstE (.int 2))])]) (d05_l_deed_b1 Φ hot) (seqS []), retS (cstE (.bool true))])
noncomputable def d05_l_lists_b1 (Φ : Bool → FT) (hot : Bool) : DS := (seqS [ifS (bopE false [(ntE (isiE gmC (subE (varE 2) (varE 4)) [.lst])), (cmpE (subE (varE 2) (varE 4)) [.NotEq] [(subE (varE 3) (varE 4))])]) (seqS [retS (cstE (.bool false))]) (seqS []), exprS (mbE .append (subE (varE 2) (varE 4)) [(cstE (.str "x"))])])
noncomputable def d05_l_lists (Φ : Bool → FT) (hot : Bool) : DS := (seqS [assignS hot (.one 2) (lstE false [(moE gmC (Φ hot) 6 (varE 0) []), (moE gmC (Φ hot) 7 (varE 0) []), (moE gmC (Φ hot) 8 (varE 0) [])]), assignS hot (.one 3) (lstE false [(biE hot (.list false) [(subE (varE 1) (cstE (.str "people")))]), (biE hot (.list false) [(subE (varE 1) (cstE (.str "shifts")))]), (callE (Φ hot) 45 [(varE 1)])]), ifS (bopE false [(ntE (isiE gmC (subE (varE 2) (cstE (.int 2))) [.lst])), (cmpE (compE hot false (varE 5) (subE (varE 2) (cstE (.int 2))) (ntE (isiE gmC (varE 5) [.tup]))) [.NotEq] [(lstE false [])])]) (seqS [retS (cstE (.bool false))]) (seqS []), forS hot (.one 4) (biE hot .range [(cstE (.int 3))]) (d05_l_lists_b1 Φ hot), retS (cstE (.bool true))])
noncomputable def d05_l_rows_b1 (Φ : Bool → FT) (hot : Bool) : DS := (seqS [ifS (bopE false [(ntE (callE (Φ hot) 51 [(moE gmC (Φ hot) 13 (varE 0) [(varE 5), (subE (varE 6) (cstE (.int 0)))]), (cstE (.int 9))])), (cmpE (moE gmC (Φ hot) 13 (varE 0) [(varE 5), (subE (varE 6) (cstE (.int 0)))]) [.NotEq] [(subE (varE 6) (cstE (.int 1)))])]) (seqS [retS (cstE (.bool false))]) (seqS [])])
noncomputable def d05_l_rows_b2 (Φ : Bool → FT) (hot : Bool) : DS := (seqS [ifS (cmpE (moE gmC (Φ hot) 12 (varE 0) [(varE 5)]) [.NotEq] [(subE (subE (subE (varE 1) (cstE (.str "shifts"))) (varE 5)) (cstE (.int 0)))]) (seqS [retS (cstE (.bool false))]) (seqS []), ifS (ntE (callE (Φ hot) 64 [(varE 0), (varE 5), (cstE (.str "never"))])) (seqS [retS (cstE (.bool false))]) (seqS []), forS hot (.one 6) (subE (subE (subE (varE 1) (cstE (.str "shifts"))) (varE 5)) (cstE (.int 1))) (d05_l_rows_b1 Φ hot)])
noncomputable def d05_l_rows_b3 (Φ : Bool → FT) (hot : Bool) : DS := (seqS [assignS hot (.one 3) (subE (subE (varE 1) (cstE (.str "people"))) (varE 2)), assignS hot (.one 4) (lstE false [(moE gmC (Φ hot) 9 (varE 0) [(varE 2)]), (moE gmC (Φ hot) 10 (varE 0) [(varE 2)])]), ifS (bopE false [(cmpE (varE 4) [.NotEq] [(lstE false [(subE (varE 3) (cstE (.int 0))), (subE (varE 3) (cstE (.int 2)))])]), (ntE (callE (Φ hot) 51 [(moE gmC (Φ hot) 11 (varE 0) [(varE 2)]), (cstE (.int 31))])), (cmpE (moE gmC (Φ hot) 11 (varE 0) [(varE 2)]) [.NotEq] [(subE (varE 3) (cstE (.int 1)))])]) (seqS [retS (cstE (.bool false))]) (seqS []), exprS (mbE .append (subE (varE 4) (cstE (.int 0))) [(cstE (.str "x"))]), exprS (mbE .clear (subE (varE 4) (cstE (.int 1))) []), ifS (cmpE (lstE false [(moE gmC (Φ hot) 9 (varE 0) [(varE 2)]), (moE gmC (Φ hot) 10 (varE 0) [(varE 2)])]) [.NotEq] [(lstE false [(subE (varE 3) (cstE (.int 0))), (subE (varE 3) (cstE (.int 2)))])]) (seqS [retS (cstE (.bool false))]) (seqS [])])
noncomputable def d05_l_rows (Φ : Bool → FT) (hot : Bool) : DS := (seqS [forS hot (.one 2) (subE (varE 1) (cstE (.str "people"))) (d05_l_rows_b3 Φ hot), forS hot (.one 5) (subE (varE 1) (cstE (.str "shifts"))) (d05_l_rows_b2 Φ hot), retS (cstE (.bool true))])
noncomputable def d05_l_beside_b1 (Φ : Bool → FT) (hot : Bool) : DS := (seqS [assignS hot (.one 3) (binE false .Add (varE 3) (lstE false [(moE gmC (Φ hot) 9 (varE 0) [(varE 5)]), (moE gmC (Φ hot) 10 (varE 0) [(varE 5)])])), assignS hot (.one 4) (binE false .Add (varE 4) (lstE false [(subE (subE (subE (varE 1) (cstE (.str "people"))) (varE 5)) (cstE (.int 0))), (subE (subE (subE (varE 1) (cstE (.str "people"))) (varE 5)) (cstE (.int 2)))]))])
noncomputable def d05_l_beside (Φ : Bool → FT) (hot : Bool) : DS := (seqS [assignS hot (.one 3) (lstE false [(moE gmC (Φ hot) 6 (varE 0) []), (moE gmC (Φ hot) 7 (varE 0) []), (moE gmC (Φ hot) 8 (varE 0) [])]), assignS hot (.one 4) (lstE false [(biE hot (.list false) [(subE (varE 1) (cstE (.str "people")))]), (biE hot (.list false) [(subE (varE 1) (cstE (.str "shifts")))]), (callE (Φ hot) 45 [(varE 1)])]), forS hot (.one 5) (subE (varE 1) (cstE (.str "people"))) (d05_l_beside_b1 Φ hot), ifS (cmpE (varE 3) [.NotEq] [(varE 4)]) (seqS [retS (cstE (.bool false))]) (seqS []), exprS (mbE .extend (varE 2) [(compE hot false (tupE [(varE 6), (biE hot (.list false) [(varE 6)])]) (varE 3) (cstE (.bool true)))]), retS (cstE (.bool true))])
noncomputable def d05_l_no_post (Φ : Bool → FT) (hot : Bool) : DS := (seqS [tryS hot gmC (seqS [exprS (moE gmC (Φ hot) 13 (varE 0) [(varE 1), (varE 2)])]) [(5, none, (seqS [retS (cstE (.bool true))]))], retS (cstE (.bool false))])
noncomputable def d05_l_all_missing_b1 (Φ : Bool → FT) (hot : Bool) : DS := (seqS [assignS true (.one 1) (binE false .Add (varE 1) (biE true .int [(cmpE (callE (Φ true) 56 [(varE 3)]) [.Eq] [(cstE (.str "missing"))])]))])
noncomputable def d05_l_all_missing_b2 (Φ : Bool → FT) (hot : Bool) : DS := (seqS [ifS (cmpE (varE 2) [.Eq] [(cstE (.int 3))]) (seqS [exprS (moE gmC (Φ hot) 12 (varE 0) [(cstE (.str "never"))])]) (seqS [exprS (moE gmC (Φ hot) 13 (varE 0) [(cstE (.str "never")), (cstE (.str "a"))])])])
noncomputable def d05_l_all_missing_b3 (Φ : Bool → FT) (hot : Bool) : DS := (seqS [ifS (cmpE (varE 2) [.Eq] [(cstE (.int 2))]) (seqS [exprS (moE gmC (Φ hot) 11 (varE 0) [(cstE (.str "nobody"))])]) (d05_l_all_missing_b2 Φ hot)])
noncomputable def d05_l_all_missing_b4 (Φ : Bool → FT) (hot : Bool) : DS := (seqS [ifS (cmpE (varE 2) [.Eq] [(cstE (.int 1))]) (seqS [exprS (moE gmC (Φ hot) 10 (varE 0) [(cstE (.str "nobody"))])]) (d05_l_all_missing_b3 Φ hot)])
noncomputable def d05_l_all_missing_b5 (Φ : Bool → FT) (hot : Bool) : DS := (seqS [ifS (cmpE (varE 2) [.Eq] [(cstE (.int 0))]) (seqS [exprS (moE gmC (Φ hot) 9 (varE 0) [(cstE (.str "nobody"))])]) (d05_l_all_missing_b4 Φ hot)])
noncomputable def d05_l_all_missing_b6 (Φ : Bool → FT) (hot : Bool) : DS := (seqS [tryS hot gmC (d05_l_all_missing_b5 Φ hot) [(0, some 3, (d05_l_all_missing_b1 Φ hot))]])
noncomputable def d05_l_all_missing (Φ : Bool → FT) (hot : Bool) : DS := (seqS [assignS hot (.one 1) (cstE (.int 0)), forS hot (.one 2) (biE hot .range [(cstE (.int 5))]) (d05_l_all_missing_b6 Φ hot), retS (cmpE (varE 1) [.Eq] [(cstE (.int 5))])])
noncomputable def d05_law_b1 (Φ : Bool → FT) (hot : Bool) : DS := (seqS [assignS hot (.one 6) (binE false .Mod (subE (varE 0) (binE false .Mult (cstE (.int 2)) (varE 5))) (cstE (.int 2))), ifS (ntE (callE (Φ hot) 60 [(subE (varE 1) (varE 6)), (subE (varE 3) (varE 6)), (subE (varE 0) (binE false .Mult (cstE (.int 2)) (varE 5))), (binE false .Add (subE (varE 0) (binE false .Add (binE false .Mult (cstE (.int 2)) (varE 5)) (cstE (.int 1)))) (binE false .Mult (cstE (.int 3)) (varE 5)))])) (seqS [retS (cstE (.bool false))]) (seqS []), ifS (bopE false [(ntE (callE (Φ hot) 61 [(subE (varE 1) (cstE (.int 0))), (subE (varE 3) (cstE (.int 0)))])), (ntE (callE (Φ hot) 61 [(subE (varE 1) (cstE (.int 1))), (subE (varE 3) (cstE (.int 1)))]))]) (seqS [retS (cstE (.bool false))]) (seqS []), ifS (ntE (callE (Φ hot) 62 [(subE (varE 1) (varE 6)), (subE (varE 3) (varE 6))])) (seqS [retS (cstE (.bool false))]) (seqS []), ifS (bopE true [(cmpE (binE false .Mod (subE (varE 0) (binE false .Add (binE false .Mult (cstE (.int 2)) (varE 5)) (cstE (.int 1)))) (cstE (.int 4))) [.Eq] [(cstE (.int 1))]), (ntE (callE (Φ hot) 63 [(subE (varE 1) (varE 6)), (subE (varE 3) (varE 6)), (varE 2)]))]) (seqS [retS (cstE (.bool false))]) (seqS [])])
noncomputable def d05_law (Φ : Bool → FT) (hot : Bool) : DS := (seqS [assignS hot (.one 1) (lstE false [(newE gmC (Φ hot) 2 []), (newE gmC (Φ hot) 2 [])]), assignS hot (.one 2) (lstE true []), assignS hot (.one 3) (lstE false [(dct2E (cstE (.str "people")) dct0E (cstE (.str "shifts")) dct0E), (dct2E (cstE (.str "people")) dct0E (cstE (.str "shifts")) dct0E)]), assignS hot (.one 4) (cstE (.int 20)), ifS (cmpE (biE hot .len [(varE 0)]) [.Gt] [(cstE (.int 63))]) (seqS [assignS hot (.one 4) (cstE (.int 60))]) (seqS []), forS hot (.one 5) (biE hot .range [(biE hot .min [(varE 4), (binE false .FloorDiv (biE hot .len [(varE 0)]) (cstE (.int 2)))])]) (d05_law_b1 Φ hot), ifS (cmpE (compE hot false (varE 7) (varE 2) (cmpE (subE (varE 7) (cstE (.int 0))) [.NotEq] [(subE (varE 7) (cstE (.int 1)))])) [.NotEq] [(lstE false [])]) (seqS [retS (cstE (.bool false))]) (seqS []), ifS (bopE false [(ntE (callE (Φ hot) 62 [(subE (varE 1) (cstE (.int 0))), (subE (varE 3) (cstE (.int 0)))])), (ntE (callE (Φ hot) 62 [(subE (varE 1) (cstE (.int 1))), (subE (varE 3) (cstE (.int 1)))]))]) (seqS [retS (cstE (.bool false))]) (seqS []), retS (callE (Φ hot) 65 [(subE (varE 1) (cstE (.int 0)))])])
theorem tab05 : tx05.tab = [some ⟨1, 1, dc_is_whole⟩, some ⟨1, 1, dc_is_stretch⟩, tx05.tab.getD 2 none, some ⟨1, 1, dc_day_of⟩, some ⟨1, 1, dc_in_one_day⟩, some ⟨1, 2, dc_is_name⟩, some ⟨1, 3, dc_checked_skills⟩, some ⟨1, 5, dc_checked_needs⟩, some ⟨2, 2, dc_l_cell⟩, some ⟨1, 3, dc_l_sign⟩, some ⟨3, 3, dc_Person_init⟩, some ⟨3, 3, dc_Shift_init⟩, some ⟨1, 1, dc_Book_init⟩, some ⟨4, 5, dc_Book_add_person⟩, some ⟨3, 4, dc_Book_add_rest⟩, some ⟨4, 5, dc_Book_add_shift⟩, some ⟨2, 2, dc_Book_person⟩, some ⟨2, 2, dc_Book_shift⟩, some ⟨1, 1, d05_Book_people⟩, some ⟨1, 1, d05_Book_shifts⟩, some ⟨1, 5, dc_Book_posts⟩, some ⟨2, 2, d05_Book_skills_of⟩, some ⟨2, 2, d05_Book_rests_of⟩, some ⟨2, 2, dc_Book_limit_of⟩, some ⟨2, 2, dc_Book_stretch_of⟩, some ⟨3, 5, dc_Book_count_of⟩, tx05.tab.getD 26 none, tx05.tab.getD 27 none, tx05.tab.getD 28 none, tx05.tab.getD 29 none, tx05.tab.getD 30 none, tx05.tab.getD 31 none, tx05.tab.getD 32 none, tx05.tab.getD 33 none, tx05.tab.getD 34 none, tx05.tab.getD 35 none, tx05.tab.getD 36 none, tx05.tab.getD 37 none, tx05.tab.getD 38 none, tx05.tab.getD 39 none, tx05.tab.getD 40 none, tx05.tab.getD 41 none, tx05.tab.getD 42 none, tx05.tab.getD 43 none, tx05.tab.getD 44 none, some ⟨1, 3, d05_l_posts⟩, tx05.tab.getD 46 none, tx05.tab.getD 47 none, tx05.tab.getD 48 none, some ⟨1, 3, d05_l_name_of⟩, some ⟨1, 1, d05_l_is_name⟩, some ⟨2, 2, d05_l_counted⟩, some ⟨1, 5, d05_l_stretch_of⟩, some ⟨1, 1, d05_l_good_stretch⟩, some ⟨4, 5, d05_l_person_word⟩, some ⟨4, 5, d05_l_shift_word⟩, some ⟨1, 2, d05_l_word⟩, some ⟨5, 6, d05_l_tried⟩, some ⟨5, 5, d05_l_caught⟩, some ⟨5, 5, d05_l_tried_bare⟩, some ⟨4, 14, d05_l_deed⟩, some ⟨2, 5, d05_l_lists⟩, some ⟨2, 7, d05_l_rows⟩, some ⟨3, 6, d05_l_beside⟩, some ⟨3, 3, d05_l_no_post⟩, some ⟨1, 4, d05_l_all_missing⟩, some ⟨1, 7, d05_law⟩] := by kernel_rfl
set_option maxHeartbeats 2000000
noncomputable def IsL (N : Nat) (H : AH) (a : AV) (ys : List AV) : Prop := a = .lst ys ∨ ∃ r, a = .ref r ∧ r < N ∧ H[r]? = some (.lst ys)
section
variable {N : Nat} {H H' H₁ : AH} {a : AV} {xs ys : List AV} {PG : OutS → Prop} {ρ : RE} {r : List DS} {b : DS}
theorem IsL.up (h : IsL N H a ys) (u : Up N H H') : IsL N H' a ys := by
  rcases h with h | ⟨r, e, hr, h⟩
  · exact .inl h
  · exact .inr ⟨r, e, hr, (u.2 r hr).trans h⟩
theorem IsL.ls (h : IsL N H a ys) : lsOf H a = some ys := by
  rcases h with rfl | ⟨r, rfl, hr, h⟩
  · rfl
  · exact ls_at h
theorem IsL.nd (h : IsL N H a ys) : dcOf H a = none := by
  rcases h with rfl | ⟨r, rfl, hr, h⟩
  · rfl
  · exact ndc_at h
theorem IsL.sub (h : IsL N H a ys) {i : Int} {v : AV} (h0 : 0 ≤ i) (hv : ys[i.toNat]? = some v) (hl : ys.length ≤ 1000000) : subA a (.int i) H = .ok v H := by
  rcases h with rfl | ⟨r, rfl, hr, h⟩
  · exact subL h0 hv hl
  · exact sub_ref h h0 hv hl
theorem IsL.len (h : IsL N H a ys) (hl : ys.length ≤ 1000000) : biA false .len [a] H = .ok (.int ys.length) H := by
  show orBad (lenA H a) (fun n => if n < 2 ^ 62 then Out.ok (AV.int (n : Nat)) H else .bad) = _
  have : lenA H a = some ys.length := by
    rcases h with rfl | ⟨r, rfl, hr, h⟩
    · rfl
    · exact lenA_at h
  rw [this]
  exact if_pos (lt_t ‹_› rfl)
theorem IsL.mono {N N' : Nat} {H : AH} {v : AV} {ys : List AV} (h : IsL N H v ys) (hn : N ≤ N') : IsL N' H v ys := by
  rcases h with h | ⟨r, e, hr, h⟩
  · exact .inl h
  · exact .inr ⟨r, e, Nat.lt_of_lt_of_le hr hn, h⟩
theorem IsL.list {mt : Bool} (h : IsL N H a ys) (hl : ys.length ≤ 1000) : biA false (.list mt) [a] H = newL mt ys H := by
  have hs : 1000 ≤ sizeLine := by decide
  show (match dcOf H a with | some (_, es) => _ | none => orBad (lsOf H a) _) = _
  rw [h.nd, h.ls]
  exact if_pos (le_t ‹_› rfl)
end
section
variable {ρ : RE} {H H₁ : AH} {e : DE} {a : AV}
theorem e_var {i : Nat} (h : ρ[i]? = some (some a)) : varE i ρ H = .ok a H := by
  show (match ρ[i]? with | some (some a) => Out.ok a H | _ => .bad) = _; rw [h]
theorem var_app {i : Nat} {a v : AV} (h : ρ[i]? = some (some a)) : varE i (ρ ++ [some v]) H = .ok a H := e_var (by rw [List.getElem?_append_left (List.getElem?_eq_some_iff.mp h).1, h])
theorem var_new {n : Nat} {v : AV} (hn : ρ.length = n) : varE n (ρ ++ [some v]) H = .ok v H := e_var (by rw [← hn, List.getElem?_append_right (Nat.le_refl _), Nat.sub_self]; rfl)
theorem e_clear {e : DE} {n : Nat} {xs : List AV} (h1 : e ρ H = .ok (.ref n) H₁) (h3 : H₁[n]? = some (.lst xs)) (hl : xs.length ≤ 1000000) : mbE .clear e [] ρ H = .ok .none (H₁.set n (.lst [])) := by
  have k1 : kindM (.ref n) H₁ = 2 := by show (match H₁[n]? with | some (.lst _) => 2 | some (.dict _) => 3 | _ => 0) = 2; rw [h3]
  unfold mbE
  rw [h1]
  show orBad (bmId (kindM (.ref n) H₁) .clear) _ = _
  rw [k1]
  show (if 2 = kindM (.ref n) H₁ then mbA .clear (.ref n) [] H₁ else .bad) = _
  rw [k1, if_pos rfl, mb_lst h3]
  exact if_pos hl
theorem ne_strs {w : Str} : cmpA H .NotEq (.str w) (.str w) = some false := by
  show some (!(PyData.eqv (.str w) (.str w))) = _
  rw [eqv_str]; simp
end
theorem take_snoc' {α β : Type} {f : α → β} {l : List α} {j : Nat} {x : α} (h : l[j]? = some x) : (l.take (j + 1)).map f = (l.take j).map f ++ [f x] := by
  rw [List.take_add_one, h, List.map_append]; rfl
section
variable {α : Type} {l : List α} {fx fy : α → AV} {p : α → Bool} {ρ : RE} {H H₁ : AH} {a : AV} {mt : Bool}
theorem e_compF {elt it cond : DE} {o : Out AV} (h : it ρ H = .ok a H₁) (hl : IsL H₁.length H₁ a (l.map fx)) (hn : l.length ≤ 1000000) (hT : ∀ x ∈ l, cond (ρ ++ [some (fx x)]) H₁ = .ok (.bool (p x)) H₁) (hE : ∀ x ∈ l, p x = true → elt (ρ ++ [some (fx x)]) H₁ = .ok (fy x) H₁)
    (ho : newL mt ((l.filter p).map fy) H₁ = o) : compE false mt elt it cond ρ H = o := by
  rcases hl with rfl | ⟨r, rfl, hr, hl⟩
  · exact e_compA (fx := fx) (src := .seq (l.map fx)) (n := (l.map fx).length) h rfl (fun _ => rfl) (List.length_map _) hn hT hE ho
  · exact e_compA (fx := fx) (src := .lref r) (n := (l.map fx).length) h ((srcOf_at hl).trans rfl) (fun _ => item_ref hl) (List.length_map _) hn hT hE ho
theorem e_mapF {elt it : DE} {o : Out AV} (h : it ρ H = .ok a H₁) (hl : IsL H₁.length H₁ a (l.map fx)) (hn : l.length ≤ 1000000) (hE : ∀ x ∈ l, elt (ρ ++ [some (fx x)]) H₁ = .ok (fy x) H₁) (ho : newL mt (l.map fy) H₁ = o) : compE false mt elt it (cstE (.bool true)) ρ H = o :=
  e_compF (p := fun _ => true) h hl hn (fun _ _ => rfl) (fun x hx _ => hE x hx) (by rw [List.filter_eq_self.mpr fun _ _ => rfl]; exact ho)
end
noncomputable def postAV (p : Str × Str) : AV := .tup [.str p.1, .str p.2]
noncomputable def postsS (s : Sm) : List (Str × Str) := s.needs.map fun n => (s.name, n.1)
noncomputable def postsM (ss : List Sm) : List (Str × Str) := ss.flatMap postsS
section
variable {PG : OutS → Prop} {ρ : RE} {H H₁ : AH} {r : List DS} {b : DS} {N : Nat} {a : AV} {xs : List AV}
theorem p_forD {i m : Nat} {it : DE} {es : List (Key × AV)} (h : it ρ H = .ok (.ref m) H₁) (hr : H₁[m]? = some (.dict es)) (Inv : Nat → RE → AH → Prop) (i0 : Inv 0 ρ (H₁.set m (.ldict es))) (hl : ∀ j ρ H, Inv j ρ H → H[m]? = some (.ldict es))
    (step : ∀ (J : RE → AH → Prop) (j : Nat) v ρ H, (es.map fun e => e.1.av)[j]? = some v → Inv j ρ H → (∀ ρ' H', Inv (j + 1) ρ' H' → J ρ' H') → Nx J (fun _ => False) (b (ρ.set i (some v)) H)) (fin : ∀ ρ H, Inv es.length ρ H → PG (seqS r ρ (H.set m (.dict es)))) : PG (seqS (forS false (.one i) it b :: r) ρ H) := by
  show PG ((forS false (.one i) it b ρ H).then _)
  unfold forS
  rw [h]
  have hs : srcOf H₁ (.ref m) = some (.seq (es.map fun e => e.1.av), es.length, some m) := by
    show (match H₁[m]? with | some (.lst xs) => some (Src.lref m, xs.length, none) | some (.dict es) => some (.seq (es.map fun e => e.1.av), es.length, some m) | _ => none : Option (Src × Nat × Option Nat)) = _
    rw [hr]
  have hk : lockH (some m) H₁ = H₁.set m (.ldict es) := by
    show (match H₁[m]? with | some (.dict es) => H₁.set m (.ldict es) | _ => H₁) = _
    rw [hr]
  show PG ((orBadS (srcOf H₁ (.ref m)) _).then _)
  rw [hs]
  show PG (((loopS (fun v ρ H => b (ρ.set i (some v)) H) (.seq (es.map fun e => e.1.av)) es.length 0 ρ (lockH (some m) H₁)).free (some m)).then _)
  rw [hk]
  refine loop_any (xs := es.map fun e => e.1.av) (P := fun o => PG ((o.free (some m)).then (seqS r))) Inv (fun j v ρ H e q => ?_) (fun ρ H q => ?_) es.length 0 _ _ (by simp) i0
  · rcases nx_cases (step (Inv (j + 1)) j v ρ H e q fun _ _ h => h) with h | ⟨_, _, _, h⟩ | ⟨_, _, _, _, h⟩
    · exact .inl h
    · exact h.elim
    · exact h.elim
  · rw [List.length_map] at q
    have : freeH (some m) H = H.set m (.dict es) := by
      show (match H[m]? with | some (.ldict es) => H.set m (.dict es) | _ => H) = _
      rw [hl _ _ _ q]
    show PG (seqS r ρ (freeH (some m) H))
    rw [this]
    exact fin ρ H q
theorem p_forML {is : List Nat} {it : DE} (h : it ρ H = .ok a H₁) (hl : IsL N H₁ a xs) (Inv : Nat → RE → AH → Prop) (i0 : Inv 0 ρ H₁) (hup : ∀ j ρ H', Inv j ρ H' → Up N H₁ H')
    (step : ∀ (J : RE → AH → Prop) (j : Nat) v ρ H, xs[j]? = some v → Inv j ρ H → (∀ ρ' H', Inv (j + 1) ρ' H' → J ρ' H') → ∃ ρ₁, bindT false (.many is) v ρ = some ρ₁ ∧ Nx J PG (b ρ₁ H)) (fin : ∀ ρ H, Inv xs.length ρ H → PG (seqS r ρ H)) : PG (seqS (forS false (.many is) it b :: r) ρ H) := by
  show PG ((forS false (.many is) it b ρ H).then _)
  have st : ∀ (j : Nat) v ρ H, xs[j]? = some v → Inv j ρ H → (∃ ρ' H', (orBadS (bindT false (.many is) v ρ) fun ρ₁ => b ρ₁ H) = .next ρ' H' ∧ Inv (j + 1) ρ' H') ∨ (∃ a H', (orBadS (bindT false (.many is) v ρ) fun ρ₁ => b ρ₁ H) = .ret a H' ∧ PG (OutS.then (.ret a H') (seqS r))) ∨ ∃ c ρ' H', (orBadS (bindT false (.many is) v ρ) fun ρ₁ => b ρ₁ H) = .exc c ρ' H' ∧ PG (OutS.then (.exc c ρ' H') (seqS r)) := by
    intro j v ρ H e q
    refine x1_2 (step (Inv (j + 1)) j v ρ H e q fun _ _ h => h) fun ρ₁ e1 n => ?_
    rw [e1]
    exact nx_cases n
  rcases hl with rfl | ⟨m, rfl, hm, hl⟩
  · rw [for_many h rfl]
    exact loop_any (P := fun o => PG (o.then (seqS r))) Inv st fin _ 0 ρ H₁ (by lia) i0
  · unfold forS
    rw [h]
    have hs : srcOf H₁ (.ref m) = some (.lref m, xs.length, none) := by
      show (match H₁[m]? with | some (.lst xs) => some (Src.lref m, xs.length, none) | some (.dict es) => some (.seq (es.map fun e => e.1.av), es.length, some m) | _ => none : Option (Src × Nat × Option Nat)) = _
      rw [hl]
    show PG ((orBadS (srcOf H₁ (.ref m)) _).then _)
    rw [hs]
    show PG ((OutS.free none (loopS _ (.lref m) xs.length 0 ρ H₁)).then _)
    rw [free_none]
    exact loop_ref (P := fun o => PG (o.then (seqS r))) Inv (fun j ρ H' q => ((hup j ρ H' q).2 m hm).trans hl) st fin _ 0 ρ H₁ (by lia) i0
theorem sub_keyL {n : Nat} {es : List (Key × AV)} {x : Str} {v : AV} (h : H[n]? = some (.ldict es)) (hx : es.lookup (.str x) = some v) : subA (.ref n) (.str x) H = .ok v H := by
  have : dcOf H (.ref n) = some (n, es) := by
    show (match H[n]? with | some (.dict es) => some (n, es) | some (.ldict es) => some (n, es) | _ => none) = _; rw [h]
  unfold subA
  rw [this]
  show orBad (es.lookup (.str x)) _ = _
  rw [hx]; rfl
end
section
variable {R : Nat → Bool → FT} {k : Nat} {H : AH} {N b fd wd : Nat} {prs : List PR} {srs : List SR} {ps : List Pm} {ss : List Sm} {PG : OutS → Prop}
theorem flat_take {α β : Type} {f : α → List β} {l : List α} {j : Nat} {x : α} (h : l[j]? = some x) : (l.take (j + 1)).flatMap f = (l.take j).flatMap f ++ f x := by
  rw [List.take_add_one, h]; simp
theorem posts_take (j : Nat) : (postsM ((srs.take j).map (·.2))).length ≤ (postsM (srs.map (·.2))).length := by
  unfold postsM
  rw [List.map_take]
  generalize srs.map (·.2) = l
  have e : l.flatMap postsS = (l.take j).flatMap postsS ++ (l.drop j).flatMap postsS := by rw [← List.flatMap_append, List.take_append_drop]
  rw [e, List.length_append]
  exact Nat.le_add_right _ _
theorem posts_P (A : BookAt H b fd wd prs srs) (hsn : (srs.map (·.2.name)).Nodup) (hnf : ∀ s ∈ srs, s.2.needs.length ≤ 1000) (hpf : (postsM (srs.map (·.2))).length ≤ 10000) (fin : PG (.ret (.ref H.length) (H ++ [.lst ((postsM (srs.map (·.2))).map postAV)]))) :
    PG (dc_Book_posts (R k) false (rho0 [.ref b] 5) H) := by
  refine p_asg (a := .ref H.length) (H₁ := H ++ [AO.lst []]) rfl ?_
  have hlt := A.lt
  have hwd : wd < H.length := hlt _ (.tail _ (.tail _ (.head _)))
  have hbl : b < H.length := hlt _ (.head _)
  have nd := A.nodup
  have hbw : b ≠ wd := by
    intro q
    unfold bRefs at nd
    rw [List.nodup_cons] at nd
    exact nd.1 (by rw [q]; exact .tail _ (.head _))
  have hsw : ∀ s ∈ srs, s.1.1 ≠ wd ∧ s.1.2 ≠ wd := by
    intro s hs
    unfold bRefs at nd
    rw [List.nodup_cons, List.nodup_cons, List.nodup_cons] at nd
    have hm : ∀ n ∈ sRefs s, n ∈ prs.flatMap pRefs ++ srs.flatMap sRefs := fun n hn => List.mem_append.mpr (.inr (List.mem_flatMap.mpr ⟨s, hs, hn⟩))
    exact ⟨fun q => nd.2.2.1 (q ▸ hm _ (.head _)), fun q => nd.2.2.1 (q ▸ hm _ (.tail _ (.head _)))⟩
  have hset : ∀ x : AO, (H ++ [x]).set wd (.ldict (workD srs)) = H.set wd (.ldict (workD srs)) ++ [x] := fun x => List.set_append_left _ _ hwd
  have hset2 : ∀ x : AO, (H.set wd (.ldict (workD srs)) ++ [x]).set wd (.dict (workD srs)) = H ++ [x] := fun x => by
    rw [List.set_append_left _ _ (by rw [List.length_set]; exact hwd), List.set_set]
    congr 1
    refine List.ext_getElem? fun j => ?_
    rw [List.getElem?_set]
    split
    · rename_i e
      subst e
      first
        | (rw [A.work]; simp [hwd]; done)
        | (rw [A.work]; done)
    · rfl
  have hget : ∀ (x : AO) n, n < H.length → n ≠ wd → (H.set wd (.ldict (workD srs)) ++ [x])[n]? = H[n]? := fun x n h1 h2 => by
    rw [List.getElem?_append_left (by rw [List.length_set]; exact h1), get_set_ne (Ne.symm h2)]
  have hwl : ∀ x : AO, (H.set wd (.ldict (workD srs)) ++ [x])[wd]? = some (.ldict (workD srs)) := fun x => by
    rw [List.getElem?_append_left (by rw [List.length_set]; exact hwd), get_set_eq hwd]
  have hlast : ∀ x : AO, (H.set wd (.ldict (workD srs)) ++ [x])[H.length]? = some x := fun x => by
    have := get_last (H := H.set wd (.ldict (workD srs))) (o := x)
    rw [List.length_set] at this
    exact this
  have hslast : ∀ x y : AO, (H.set wd (.ldict (workD srs)) ++ [x]).set H.length y = H.set wd (.ldict (workD srs)) ++ [y] := fun x y => by
    have := set_last (H := H.set wd (.ldict (workD srs))) (o := x) (o' := y)
    rw [List.length_set] at this
    exact this
  refine p_forD (m := wd) (es := workD srs) (H₁ := H ++ [AO.lst []]) (e_attr rfl ((List.getElem?_append_left hbl).trans A.book) rfl) ((List.getElem?_append_left hwd).trans A.work)
    (fun j ρ H' => A2 (H' = H.set wd (.ldict (workD srs)) ++ [AO.lst ((postsM ((srs.take j).map (·.2))).map postAV)]) (Ex3 fun a2 a3 a4 => ρ = [some (.ref b), some (.ref H.length), a2, a3, a4])) ⟨hset _, _, _, _, rfl⟩ (fun j ρ H' h => by rw [h.1]; exact hwl _) ?_ ?_
  · rintro J j v ρ H' hv hI hJ
    obtain ⟨rfl, a2, a3, a4, rfl⟩ := hI
    unfold workD at hv
    rw [List.map_map, List.getElem?_map] at hv
    refine x1_2 (Option.map_eq_some_iff.mp hv) fun s hj e2' => ?_; subst e2'
    have hs := List.mem_of_getElem? hj
    have S := A.sat s hs
    have g1 : ∀ x : AO, (H.set wd (.ldict (workD srs)) ++ [x])[s.1.1]? = some (.inst 1 (sfs s.2.hours s.1.2)) := fun x => (hget x _ (List.getElem?_eq_some_iff.mp S.ob).1 (hsw s hs).1).trans S.ob
    have g2 : ∀ x : AO, (H.set wd (.ldict (workD srs)) ++ [x])[s.1.2]? = some (.lst (s.2.needs.map needAV)) := fun x => (hget x _ (List.getElem?_eq_some_iff.mp S.nd).1 (hsw s hs).2).trans S.nd
    have l2 : s.1.2 < H.length := (List.getElem?_eq_some_iff.mp S.nd).1
    show Nx _ _ ((_ : DS) [some (.ref b), some (.ref H.length), some (.str s.2.name), a3, a4] _)
    refine p_forML (N := H.length) (a := .ref s.1.2) (xs := s.2.needs.map needAV) (e_attr (e_sub (e_attr rfl ((hget _ _ hbl hbw).trans A.book) rfl) rfl (sub_keyL (hwl _) (look_s hs hsn))) (g1 _) rfl) (.inr ⟨_, rfl, l2, g2 _⟩)
      (fun i ρ H' => A2 (H' = H.set wd (.ldict (workD srs)) ++ [AO.lst ((postsM ((srs.take j).map (·.2)) ++ (s.2.needs.take i).map fun n => (s.2.name, n.1)).map postAV)]) (Ex2 fun a3 a4 => ρ = [some (.ref b), some (.ref H.length), some (.str s.2.name), a3, a4])) ⟨by simp, _, _, rfl⟩ (fun i ρ H' h => ?_) ?_ ?_
    · rw [h.1]
      refine ⟨by simp, fun n hn => ?_⟩
      rw [List.getElem?_append_left (by rw [List.length_set]; exact hn), List.getElem?_append_left (by rw [List.length_set]; exact hn)]
    · rintro J i v ρ H' hv hI hJ
      obtain ⟨rfl, a3, a4, rfl⟩ := hI
      rw [List.getElem?_map] at hv
      refine x1_2 (Option.map_eq_some_iff.mp hv) fun n hi e2' => ?_; subst e2'
      refine ⟨[some (.ref b), some (.ref H.length), some (.str s.2.name), some (.str n.1), some (.int n.2)], rfl, ?_⟩
      have hil := (List.getElem?_eq_some_iff.mp hi).1
      refine p_expr (a := .none) (e_append rfl (hlast _) (l_one (e_tup (l_two rfl rfl) (by simp))) (hlast _) (by rw [List.length_map, List.length_append, List.length_map, List.length_take]; have := hnf s hs; have := hpf; have := posts_take (srs := srs) j; lia)) ?_
      · refine nx_next (hJ _ _ ⟨?_, _, _, rfl⟩)
        rw [hslast, List.take_add_one, hi]
        simp [postAV]
    · rintro ρ H' ⟨rfl, a3, a4, rfl⟩
      refine nx_next (hJ _ _ ⟨?_, _, _, _, rfl⟩)
      congr 4
      rw [List.length_map, List.take_length]
      unfold postsM
      rw [List.map_take, List.map_take, flat_take (x := s.2) (by rw [List.getElem?_map, hj]; rfl)]
      rfl
  · rintro ρ H' ⟨rfl, a2, a3, a4, rfl⟩
    rw [work_len, List.take_length]
    refine p_ret rfl ?_
    rw [hset2]
    exact fin
end
section
variable {ρ : RE} {H H₁ H₂ : AH} {l r e : DE} {o : Out AV} {a : AV} {G : Gm}
theorem e_bop {c : Bool} {rs : List DE} (h1 : l ρ H = .ok (.bool c) H₁) (h2 : bopE c (r :: rs) ρ H₁ = o) : bopE c (l :: r :: rs) ρ H = o := by
  show (l ρ H).bind _ = _
  rw [h1]
  show (if c = c then _ else _) = _
  rw [if_pos rfl]; exact h2
theorem e_stop {c : Bool} {rs : List DE} (h1 : l ρ H = .ok (.bool (!c)) H₁) : bopE c (l :: r :: rs) ρ H = .ok (.bool (!c)) H₁ := by
  show (l ρ H).bind _ = _
  rw [h1]
  show (if (!c) = c then _ else _) = _
  rw [if_neg (by cases c <;> decide)]
theorem e_isi {ts : List Ty} {b : Bool} (h : e ρ H = .ok a H₁) (q : isiAny G H₁ a ts = some b) : isiE G e ts ρ H = .ok (.bool b) H₁ := by
  unfold isiE
  rw [h]
  show orBad (isiAny G H₁ a ts) _ = _
  rw [q]; rfl
end
noncomputable def PlV (v : AV) : Prop := ∃ d, (∀ (H : AH) (n : Nat), den (n + 2) H v = some d) ∧ PyData.eqv d d = true
theorem plv_str {x : Str} : PlV (.str x) := ⟨.str x, fun _ _ => rfl, by rw [eqv_str]; simp⟩
theorem plv_int {i : Int} : PlV (.int i) := ⟨.int i, fun _ _ => rfl, by show (i == i) = true; simp⟩
theorem pl_st {x : Int × Int} : PlV (stAV x) := ⟨.tuple [.int x.1, .int x.2], fun _ _ => rfl, by show ((x.1 == x.1) && ((x.2 == x.2) && true)) = true; simp⟩
theorem pl_map {α : Type} {f : α → AV} {l : List α} (h : ∀ x, PlV (f x)) : ∀ v ∈ l.map f, PlV v := fun v hv => by
  refine x1_2 (List.mem_map.mp hv) fun x _ e => ?_
  rw [← e]; exact h x
theorem pls_den : ∀ {l : List AV}, (∀ v ∈ l, PlV v) → ∃ ds, (∀ (H : AH) (n : Nat), denL (den (n + 2) H) l = some ds) ∧ PyData.eqvAll ds ds = true
  | [], _ => ⟨[], fun _ _ => rfl, rfl⟩
  | v :: l, h => by
    obtain ⟨d, h1, h2⟩ := h v (.head _)
    obtain ⟨ds, h3, h4⟩ := pls_den fun x hx => h x (.tail _ hx)
    refine ⟨d :: ds, fun H n => ?_, ?_⟩
    · show ((den (n + 2) H v).bind fun d => (denL (den (n + 2) H) l).map (d :: ·)) = _
      rw [h1, h3]; rfl
    · show (PyData.eqv d d && PyData.eqvAll ds ds) = true
      rw [h2, h4]; rfl
theorem eq_strs {H : AH} {x y : Str} : cmpA H .Eq (.str x) (.str y) = some (decide (x = y)) := by
  show some (PyData.eqv (.str x) (.str y)) = _
  rw [eqv_str]
theorem eqv_post {x y : Str × Str} : PyData.eqv (.tuple [.str x.1, .str x.2]) (.tuple [.str y.1, .str y.2]) = decide (x = y) := by
  have : PyData.eqv (.tuple [.str x.1, .str x.2]) (.tuple [.str y.1, .str y.2]) = (PyData.eqv (.str x.1) (.str y.1) && (PyData.eqv (.str x.2) (.str y.2) && true)) := by
    simp [PyData.eqv, PyData.eqvAll]
  rw [this, eqv_str, eqv_str, Bool.and_true]
  obtain ⟨a, b⟩ := x
  obtain ⟨c, d⟩ := y
  by_cases h1 : a = c <;> by_cases h2 : b = d <;> simp [h1, h2]
theorem pl_post {x : Str × Str} : PlV (postAV x) := ⟨.tuple [.str x.1, .str x.2], fun _ _ => rfl, by rw [eqv_post]; simp⟩
section
variable {R : Nat → Bool → FT} {k : Nat} {H : AH} {N : Nat} {PG : OutS → Prop} {fA : AV} {l : List AV}
theorem IsL.dn {ds : List PyData} (h : IsL N H fA l) (hd : ∀ (H : AH) (n : Nat), denL (den (n + 2) H) l = some ds) {n : Nat} : den (n + 3) H fA = some (.list ds) := by
  rcases h with rfl | ⟨r, rfl, _, h⟩
  · show (denL (den (n + 2) H) l).map PyData.list = _
    rw [hd]; rfl
  · rw [den_at h]
    show (denL (den (n + 2) H) l).map PyData.list = _
    rw [hd]; rfl
theorem same_ne {M : Nat} {gA : AV} (hf : ∀ v ∈ l, PlV v) (h1 : IsL N H fA l) (h2 : IsL M H gA l) : cmpA H .NotEq fA gA = some false := by
  obtain ⟨ds, hd, he⟩ := pls_den hf
  show (eqA H fA gA).map (!·) = _
  unfold eqA
  rw [show den deep H fA = _ from h1.dn hd (n := 17), show den deep H gA = _ from h2.dn hd (n := 17)]
  show some (!(PyData.eqvAll ds ds)) = _
  rw [he]; rfl
end
structure Law05 (R : Nat → Bool → FT) : Prop where
  bk : BookR R
  people : RunAt R 18 1 1 d05_Book_people
  shifts : RunAt R 19 1 1 d05_Book_shifts
  posts : RunAt R 20 1 5 dc_Book_posts
  skills_of : RunAt R 21 2 2 d05_Book_skills_of
  rests_of : RunAt R 22 2 2 d05_Book_rests_of
  limit_of : RunAt R 23 2 2 dc_Book_limit_of
  stretch_of : RunAt R 24 2 2 dc_Book_stretch_of
  count_of : RunAt R 25 3 5 dc_Book_count_of
  l_posts : RunAt R 45 1 3 d05_l_posts
  l_name_of : RunAt R 49 1 3 d05_l_name_of
  l_is_name : RunAt R 50 1 1 d05_l_is_name
  l_counted : RunAt R 51 2 2 d05_l_counted
  l_stretch_of : RunAt R 52 1 5 d05_l_stretch_of
  l_good : RunAt R 53 1 1 d05_l_good_stretch
  l_pword : RunAt R 54 4 5 d05_l_person_word
  l_sword : RunAt R 55 4 5 d05_l_shift_word
  l_word : RunAt R 56 1 2 d05_l_word
  l_tried : RunAt R 57 5 6 d05_l_tried
  l_caught : RunAt R 58 5 5 d05_l_caught
  l_bare : RunAt R 59 5 5 d05_l_tried_bare
  l_deed : RunAt R 60 4 14 d05_l_deed
  l_lists : RunAt R 61 2 5 d05_l_lists
  l_rows : RunAt R 62 2 7 d05_l_rows
  l_beside : RunAt R 63 3 6 d05_l_beside
  l_no_post : RunAt R 64 3 3 d05_l_no_post
  l_missing : RunAt R 65 1 4 d05_l_all_missing
  law : RunAt R 66 1 7 d05_law
theorem law05R : Law05 tx05.run where
  bk := ⟨run_at tab05 rfl, run_at tab05 rfl, run_at tab05 rfl, run_at tab05 rfl, run_at tab05 rfl, run_at tab05 rfl, run_at tab05 rfl, run_at tab05 rfl, run_at tab05 rfl, run_at tab05 rfl, run_at tab05 rfl, run_at tab05 rfl, run_at tab05 rfl, run_at tab05 rfl, run_at tab05 rfl, run_at tab05 rfl, run_at tab05 rfl⟩
  people := run_at tab05 rfl
  shifts := run_at tab05 rfl
  posts := run_at tab05 rfl
  skills_of := run_at tab05 rfl
  rests_of := run_at tab05 rfl
  limit_of := run_at tab05 rfl
  stretch_of := run_at tab05 rfl
  count_of := run_at tab05 rfl
  l_posts := run_at tab05 rfl
  l_name_of := run_at tab05 rfl
  l_is_name := run_at tab05 rfl
  l_counted := run_at tab05 rfl
  l_stretch_of := run_at tab05 rfl
  l_good := run_at tab05 rfl
  l_pword := run_at tab05 rfl
  l_sword := run_at tab05 rfl
  l_word := run_at tab05 rfl
  l_tried := run_at tab05 rfl
  l_caught := run_at tab05 rfl
  l_bare := run_at tab05 rfl
  l_deed := run_at tab05 rfl
  l_lists := run_at tab05 rfl
  l_rows := run_at tab05 rfl
  l_beside := run_at tab05 rfl
  l_no_post := run_at tab05 rfl
  l_missing := run_at tab05 rfl
  law := run_at tab05 rfl
structure Good (n : Nat) (ps : List Pm) (ss : List Sm) : Prop where
  pn : (ps.map (·.name)).Nodup
  sn : (ss.map (·.name)).Nodup
  nf : ∀ s ∈ ss, s.needs.length ≤ 6
  nn : ∀ s ∈ ss, (s.needs.map (·.1)).Nodup
  le : n ≤ 100
  pf : ps.length ≤ n
  sf : ss.length ≤ n
  rf : ∀ p ∈ ps, p.rests.length ≤ n
  kf : ∀ p ∈ ps, p.skills.length ≤ 6
  lm : ∀ p ∈ ps, 1 ≤ p.limit ∧ p.limit ≤ 31
  cn : ∀ s ∈ ss, ∀ n ∈ s.needs, 1 ≤ n.2 ∧ n.2 ≤ 9
  nob : ("nobody" : Str) ∉ ps.map (·.name)
  nev : ("never" : Str) ∉ ss.map (·.name)
  nsk : ∀ s ∈ ss, ("never" : Str) ∉ s.needs.map (·.1)
section
variable {R : Nat → Bool → FT} {k n : Nat} {hot : Bool} {H : AH} {N b : Nat} {ps : List Pm} {ss : List Sm} {PG : OutS → Prop}
theorem posts_len {l : List Sm} (h : ∀ s ∈ l, s.needs.length ≤ 6) : (postsM l).length ≤ 6 * l.length := by
  induction l with
  | nil => simp [postsM]
  | cons s r ih =>
    have := ih fun x hx => h x (.tail _ hx)
    have h1 := h s (.head _)
    unfold postsM at this ⊢
    rw [List.flatMap_cons, List.length_append, List.length_cons]
    have : (postsS s).length = s.needs.length := by unfold postsS; simp
    lia
theorem posts_of (W : Law05 R) (B : BookOf N H b ps ss) (G : Good n ps ss) : R (k + 1) false 20 [.ref b] H = .ok (.ref H.length) (H ++ [.lst ((postsM ss).map postAV)]) := by
  rw [W.posts _ _ _ _ rfl]
  have := posts_len G.nf
  have := G.sf
  have := G.le
  have gn := G.sn
  have gf := G.nf
  refine x4_4 (B.ex) fun fd wd prs srs A e5' e6' hN => ?_; subst e5'; subst e6'
  exact posts_P (PG := fun o => o.done = .ok (.ref H.length) (H ++ [.lst ((postsM (srs.map (·.2))).map postAV)])) A (by simpa [Function.comp_def] using gn) (fun s hs => Nat.le_trans (gf s.2 (List.mem_map_of_mem hs)) (by decide)) (by lia -abstractProof) rfl
theorem list_dc {m : Nat} {es : List (Key × AV)} {mt : Bool} (h : dcOf H (.ref m) = some (m, es)) (hl : es.length ≤ 1000) : biA false (.list mt) [.ref m] H = newL mt (es.map fun e => e.1.av) H := by
  show (match dcOf H (.ref m) with
      | some (_, es) => if !false && decide (es.length ≤ 1000000) then newL mt (es.map fun (e : Key × AV) => e.1.av) H else .bad
      | none => orBad (lsOf H (.ref m)) fun xs => if xs.length ≤ sizeLine then newL mt xs H else .bad) = _
  rw [h]
  show (if (!false && decide (es.length ≤ 1000000)) = true then _ else _) = _
  rw [if_pos (by simp; lia)]
theorem people_of (W : Law05 R) (B : BookOf N H b ps ss) : R (k + 1) false 18 [.ref b] H = .ok (.ref H.length) (H ++ [.lst (ps.map fun p => .str p.name)]) := by
  rw [W.people _ _ _ _ rfl]
  refine x4_4 (B.ex) fun fd wd prs srs A e5' e6' hN => ?_; subst e5'; subst e6'
  suffices q : d05_Book_people (R k) false (rho0 [.ref b] 1) H = .ret (.ref H.length) (H ++ [.lst ((prs.map (·.2)).map fun p => .str p.name)]) by rw [q]; rfl
  refine s_ret (e_bi (l_one (e_attr rfl A.book rfl)) ((list_dc (dc_at A.folk) (by rw [folk_len]; have := A.few; lia)).trans ?_))
  show Out.ok (AV.ref H.length) (H ++ [.lst ((folkD prs).map fun e => e.1.av)]) = _
  unfold folkD
  rw [List.map_map, List.map_map]
  rfl
theorem shifts_of (W : Law05 R) (B : BookOf N H b ps ss) : R (k + 1) false 19 [.ref b] H = .ok (.ref H.length) (H ++ [.lst (ss.map fun p => .str p.name)]) := by
  rw [W.shifts _ _ _ _ rfl]
  refine x4_4 (B.ex) fun fd wd prs srs A e5' e6' hN => ?_; subst e5'; subst e6'
  suffices q : d05_Book_shifts (R k) false (rho0 [.ref b] 1) H = .ret (.ref H.length) (H ++ [.lst ((srs.map (·.2)).map fun p => .str p.name)]) by rw [q]; rfl
  refine s_ret (e_bi (l_one (e_attr rfl A.book rfl)) ((list_dc (dc_at A.work) (by rw [work_len]; have := A.few; lia)).trans ?_))
  show Out.ok (AV.ref H.length) (H ++ [.lst ((workD srs).map fun e => e.1.av)]) = _
  unfold workD
  rw [List.map_map, List.map_map]
  rfl
theorem limit_of (W : Law05 R) (B : BookOf N H b ps ss) (hn : (ps.map (·.name)).Nodup) {p : Pm} (hp : p ∈ ps) : R (k + 2) hot 23 [.ref b, .str p.name] H = .ok (.int p.limit) H := by
  rw [W.limit_of _ _ _ _ rfl]
  refine x4_4 (B.ex) fun fd wd prs srs A e5' e6' hN => ?_; subst e5'; subst e6'
  refine x1_2 (List.mem_map.mp hp) fun q hq e2' => ?_; subst e2'
  suffices z : dc_Book_limit_of (R (k + 1)) hot (rho0 [.ref b, .str q.2.name] 2) H = .ret (.int q.2.limit) H by rw [z]; rfl
  exact s_ret (e_attr (e_mo rfl A.book (i := 16) rfl (l_one rfl) (person_run W.bk A (by simpa [Function.comp_def] using hn) hq)) (A.pat q hq).ob rfl)
theorem stretch_of (W : Law05 R) (B : BookOf N H b ps ss) (hn : (ss.map (·.name)).Nodup) {s : Sm} (hs : s ∈ ss) : R (k + 2) hot 24 [.ref b, .str s.name] H = .ok (stAV s.hours) H := by
  rw [W.stretch_of _ _ _ _ rfl]
  refine x4_4 (B.ex) fun fd wd prs srs A e5' e6' hN => ?_; subst e5'; subst e6'
  refine x1_2 (List.mem_map.mp hs) fun q hq e2' => ?_; subst e2'
  suffices z : dc_Book_stretch_of (R (k + 1)) hot (rho0 [.ref b, .str q.2.name] 2) H = .ret (stAV q.2.hours) H by rw [z]; rfl
  exact s_ret (e_attr (e_mo rfl A.book (i := 17) rfl (l_one rfl) (shift_run W.bk A (by simpa [Function.comp_def] using hn) hq)) (A.sat q hq).ob rfl)
theorem skills_of (W : Law05 R) (B : BookOf N H b ps ss) (G : Good n ps ss) {p : Pm} (hp : p ∈ ps) : R (k + 2) false 21 [.ref b, .str p.name] H = .ok (.ref H.length) (H ++ [.lst (p.skills.map .str)]) := by
  rw [W.skills_of _ _ _ _ rfl]
  have hn := G.pn
  have hl := G.kf p hp
  have := G.le
  refine x4_4 (B.ex) fun fd wd prs srs A e5' e6' hN => ?_; subst e5'; subst e6'
  refine x1_2 (List.mem_map.mp hp) fun q hq e2' => ?_; subst e2'
  have Z := A.pat q hq
  suffices z : d05_Book_skills_of (R (k + 1)) false (rho0 [.ref b, .str q.2.name] 2) H = .ret (.ref H.length) (H ++ [.lst (q.2.skills.map .str)]) by rw [z]; rfl
  exact s_ret (e_bi (l_one (e_attr (e_mo rfl A.book (i := 16) rfl (l_one rfl) (person_run W.bk A (by simpa [Function.comp_def] using hn) hq)) Z.ob rfl)) (IsL.list (N := H.length) (.inr ⟨_, rfl, (List.getElem?_eq_some_iff.mp Z.sk).1, Z.sk⟩) (by rw [List.length_map]; lia)))
theorem rests_of (W : Law05 R) (B : BookOf N H b ps ss) (G : Good n ps ss) {p : Pm} (hp : p ∈ ps) : R (k + 2) false 22 [.ref b, .str p.name] H = .ok (.ref H.length) (H ++ [.lst (p.rests.map stAV)]) := by
  rw [W.rests_of _ _ _ _ rfl]
  have hn := G.pn
  have hl := G.rf p hp
  have := G.le
  refine x4_4 (B.ex) fun fd wd prs srs A e5' e6' hN => ?_; subst e5'; subst e6'
  refine x1_2 (List.mem_map.mp hp) fun q hq e2' => ?_; subst e2'
  have Z := A.pat q hq
  suffices z : d05_Book_rests_of (R (k + 1)) false (rho0 [.ref b, .str q.2.name] 2) H = .ret (.ref H.length) (H ++ [.lst (q.2.rests.map stAV)]) by rw [z]; rfl
  exact s_ret (e_bi (l_one (e_attr (e_mo rfl A.book (i := 16) rfl (l_one rfl) (person_run W.bk A (by simpa [Function.comp_def] using hn) hq)) Z.ob rfl)) (IsL.list (N := H.length) (.inr ⟨_, rfl, (List.getElem?_eq_some_iff.mp Z.aw).1, Z.aw⟩) (by rw [List.length_map]; lia)))
theorem count_P {n0 : Nat} (C : BookR R) (B : BookOf N H b ps ss) (G : Good n0 ps ss) {s : Sm} (hs : s ∈ ss) {n : Str × Int} (hn : n ∈ s.needs) (fin : PG (.ret (.int n.2) H)) : PG (dc_Book_count_of (R (k + 1)) false (rho0 [.ref b, .str s.name, .str n.1] 5) H) := by
  have g1 := G.sn
  have g2 := G.nn s hs
  have g3 := G.nf s hs
  refine x4_4 (B.ex) fun fd wd prs srs A e5' e6' hN => ?_; subst e5'; subst e6'
  refine x1_2 (List.mem_map.mp hs) fun q hq e2' => ?_; subst e2'
  have S := A.sat q hq
  refine p_forML (N := H.length) (a := .ref q.1.2) (H₁ := H) (xs := q.2.needs.map needAV) (e_attr (e_mo rfl A.book (i := 17) rfl (l_one rfl) (shift_run C A (by simpa [Function.comp_def] using g1) hq)) S.ob rfl) (.inr ⟨_, rfl, (List.getElem?_eq_some_iff.mp S.nd).1, S.nd⟩)
    (fun j ρ H' => A3 (H' = H) (n.1 ∉ (q.2.needs.take j).map (·.1)) (Ex2 fun a3 a4 => ρ = [some (.ref b), some (.str q.2.name), some (.str n.1), a3, a4])) ⟨rfl, by simp, _, _, rfl⟩ (fun j ρ H' h => by rw [h.1]; exact Up.refl) ?_ ?_
  · rintro J j v ρ H' hv hI hJ
    obtain ⟨rfl, hno, a3, a4, rfl⟩ := hI
    rw [List.getElem?_map] at hv
    refine x1_2 (Option.map_eq_some_iff.mp hv) fun m hj e2' => ?_; subst e2'
    refine ⟨[some (.ref b), some (.str q.2.name), some (.str n.1), some (.str m.1), some (.int m.2)], rfl, ?_⟩
    refine p_if (x := decide (m.1 = n.1)) (H₁ := H') (e_cmp rfl rfl eq_strs) (fun h => ?_) fun h => ?_
    · have h : m.1 = n.1 := by simpa using h
      have : m = n := by
        obtain ⟨i, hi, e⟩ := List.mem_iff_getElem.mp hn
        have hjl := (List.getElem?_eq_some_iff.mp hj).1
        have e2 : (q.2.needs.map (·.1))[i]'(by simpa using hi) = (q.2.needs.map (·.1))[j]'(by simpa using hjl) := by
          rw [List.getElem_map, List.getElem_map, e, (List.getElem?_eq_some_iff.mp hj).2, h]
        have := (List.getElem_inj g2).mp e2
        subst this
        rw [← e, (List.getElem?_eq_some_iff.mp hj).2]
      subst this
      exact p_ret (P := Th _ _) rfl fin
    · have h : ¬ m.1 = n.1 := by simpa using h
      refine th_next (hJ _ _ ⟨rfl, ?_, _, _, rfl⟩)
      rw [take_snoc' (f := fun n : Str × Int => n.1) hj]
      simp only [List.mem_append, List.mem_singleton, not_or]
      exact ⟨hno, fun e => h e.symm⟩
  · rintro ρ H' ⟨rfl, hno, a3, a4, rfl⟩
    rw [List.length_map, List.take_length] at hno
    exact absurd (List.mem_map_of_mem hn) hno
theorem count_of {n0 : Nat} (W : Law05 R) (B : BookOf N H b ps ss) (G : Good n0 ps ss) {s : Sm} (hs : s ∈ ss) {n : Str × Int} (hn : n ∈ s.needs) : R (k + 2) false 25 [.ref b, .str s.name, .str n.1] H = .ok (.int n.2) H := by
  rw [W.count_of _ _ _ _ rfl]
  exact count_P (PG := fun o => o.done = .ok (.int n.2) H) W.bk B G hs hn rfl
theorem no_count (W : Law05 R) (B : BookOf N H b ps ss) (G : Good n ps ss) {s : Sm} (hs : s ∈ ss) {x : Str} (hx : x ∉ s.needs.map (·.1)) : R (k + 2) false 25 [.ref b, .str s.name, .str x] H = .exc 5 H := by
  rw [W.count_of _ _ _ _ rfl]
  suffices key : ∀ PG : OutS → Prop, (∀ ρ, PG (.exc 5 ρ H)) → PG (dc_Book_count_of (R (k + 1)) false (rho0 [.ref b, .str s.name, .str x] 5) H) from key (fun o => o.done = .exc 5 H) fun _ => rfl
  intro PG fin
  have g1 := G.sn
  refine x4_4 (B.ex) fun fd wd prs srs A e5' e6' hN => ?_; subst e5'; subst e6'
  refine x1_2 (List.mem_map.mp hs) fun q hq e2' => ?_; subst e2'
  have S := A.sat q hq
  refine p_forML (N := H.length) (a := .ref q.1.2) (H₁ := H) (xs := q.2.needs.map needAV) (e_attr (e_mo rfl A.book (i := 17) rfl (l_one rfl) (shift_run W.bk A (by simpa [Function.comp_def] using g1) hq)) S.ob rfl) (.inr ⟨_, rfl, (List.getElem?_eq_some_iff.mp S.nd).1, S.nd⟩)
    (fun j ρ H' => A2 (H' = H) (Ex2 fun a3 a4 => ρ = [some (.ref b), some (.str q.2.name), some (.str x), a3, a4])) ⟨rfl, _, _, rfl⟩ (fun j ρ H' h => by rw [h.1]; exact Up.refl) ?_ ?_
  · rintro J j v ρ H' hv hI hJ
    obtain ⟨rfl, a3, a4, rfl⟩ := hI
    rw [List.getElem?_map] at hv
    refine x1_2 (Option.map_eq_some_iff.mp hv) fun m hj e2' => ?_; subst e2'
    refine ⟨[some (.ref b), some (.str q.2.name), some (.str x), some (.str m.1), some (.int m.2)], rfl, ?_⟩
    have hne : ¬ m.1 = x := fun e => hx (List.mem_map.mpr ⟨m, List.mem_of_getElem? hj, e⟩)
    exact p_skip (H₁ := H') (e_cmp rfl rfl (eq_strs.trans (by rw [decide_eq_false hne]))) (nx_next (hJ _ _ ⟨rfl, _, _, rfl⟩))
  · rintro ρ H' ⟨rfl, a3, a4, rfl⟩
    exact fin _
end
noncomputable def tailW (t : Nat) : List Nat := match t with
  | 0 => []
  | 1 => [108, 108, 108, 108, 108, 108]
  | 2 => [108, 111, 108, 111, 108, 111, 108, 111, 108, 111, 108, 111]
  | _ => [76, 111, 76, 111, 76, 111, 76, 111, 76, 111, 76, 111]
noncomputable def signW (a : Nat) : Nat := match a with
  | 0 => 65
  | 1 => 97
  | 2 => 33
  | 3 => 39
  | 4 => 78
  | _ => 110
noncomputable def nameW (a t u : Nat) : Str := ⟨((tailW t).take u ++ [signW a] ++ (tailW t).drop u).toArray⟩
noncomputable def badW (j : Nat) : Str := match j with
  | 0 => ""
  | 1 => " "
  | 2 => "a b"
  | 3 => "a\n"
  | 4 => "aaaaaaaaaaaaaaaaaaaaa"
  | _ => "\t"
noncomputable def nameF (c : Int) : Str := if c % 7 = 6 then badW (c / 7 % 6).toNat else nameW (c % 7).toNat (c / 7 % 4).toNat (c / 28 % ((tailW (c / 7 % 4).toNat).length + 1)).toNat
noncomputable def blankc (c : Nat) : Bool := decide (c ∈ [32, 10, 9])
noncomputable def lawOK (x : Str) : Bool := decide (1 ≤ x.length) && decide (x.length ≤ 20) && x.cps.toList.all fun c => !blankc c
noncomputable def nmG (x : Str) : Bool := (lawOK x == nameOK x) && decide (x.length ≤ 21) && decide (x ≠ "never") && decide (x ≠ "nobody")
theorem nameW_good : ∀ a < 6, ∀ t < 4, ∀ u < 13, nmG (nameW a t u) = true := by decide +kernel
theorem badW_good : ∀ j < 6, nmG (badW j) = true := by decide +kernel
theorem tail_len (t : Nat) : (tailW t).length ≤ 12 := by
  unfold tailW
  split <;> decide
theorem nameF_good (c : Int) : nmG (nameF c) = true := by
  unfold nameF
  split
  · exact badW_good _ (by lia)
  · have := tail_len (c / 7 % 4).toNat
    refine nameW_good _ (by lia) _ (by lia) _ ?_
    generalize (tailW (c / 7 % 4).toNat).length = L at *
    have h1 : c / 28 % ((L : Int) + 1) < L + 1 := Int.emod_lt_of_pos _ (by lia)
    have h2 : 0 ≤ c / 28 % ((L : Int) + 1) := Int.emod_nonneg _ (by lia)
    lia
theorem nmG_ok {x : Str} (h : nmG x = true) : lawOK x = nameOK x ∧ x.length ≤ 100 ∧ x ≠ "never" ∧ x ≠ "nobody" := by
  unfold nmG at h
  simp only [Bool.and_eq_true, decide_eq_true_eq, beq_iff_eq] at h
  exact ⟨h.1.1.1, by lia, h.1.2, h.2⟩
section
variable {R : Nat → Bool → FT} {k : Nat} {hot : Bool} {H : AH}
theorem bad_at : ∀ i < 6, ([.str "", .str " ", .str "a b", .str "a\n", .str "aaaaaaaaaaaaaaaaaaaaa", .str "\t"] : List AV)[i]? = some (.str (badW i))
  | 0, _ => rfl
  | 1, _ => rfl
  | 2, _ => rfl
  | 3, _ => rfl
  | 4, _ => rfl
  | 5, _ => rfl
noncomputable def tailS (t : Nat) : Str := match t with
  | 0 => ""
  | 1 => "l"
  | 2 => "lo"
  | _ => "Lo"
theorem tail_at : ∀ i < 4, ([.str "", .str "l", .str "lo", .str "Lo"] : List AV)[i]? = some (.str (tailS i))
  | 0, _ => rfl
  | 1, _ => rfl
  | 2, _ => rfl
  | 3, _ => rfl
theorem tail_rep : ∀ i < 4, strRep (tailS i) 6 = ⟨(tailW i).toArray⟩ ∧ (tailS i).length < 1000 := by decide +kernel
theorem sgn_at : ∀ i < 6, ("Aa!'Nn" : Str).cps[i]? = some (signW i) := by decide +kernel
theorem slcS_to {l : List Nat} {u : Int} (h0 : 0 ≤ u) (h1 : u ≤ l.length) (hl : l.length ≤ 1000) : slcA false (.str ⟨l.toArray⟩) .none (.int u) .none H = .ok (.str ⟨(l.take u.toNat).toArray⟩) H := by
  have s1 : optI (.int u) = some (some u) := if_pos (sm_ok h0 (Int.le_trans h1 (Int.ofNat_le.mpr (le_t hl rfl))))
  have hs : 1000 ≤ sizeLine := by decide
  have e : (⟨l.toArray⟩ : Str).cps.toList = l := by simp
  have e2 : (⟨l.toArray⟩ : Str).length = l.length := by rw [str_len, e]
  unfold slcA
  rw [s1]
  show (if (⟨l.toArray⟩ : Str).length ≤ sizeLine then Out.ok (AV.str ⟨(cut (⟨l.toArray⟩ : Str).cps.toList none (some u)).toArray⟩) H else .bad) = _
  rw [e2, if_pos (le_t ‹_› rfl), e]
  unfold cut
  rw [clip_in h0 h1]
  rfl
theorem slcS_from {l : List Nat} {u : Int} (h0 : 0 ≤ u) (h1 : u ≤ l.length) (hl : l.length ≤ 1000) : slcA false (.str ⟨l.toArray⟩) (.int u) .none .none H = .ok (.str ⟨(l.drop u.toNat).toArray⟩) H := by
  have s1 : optI (.int u) = some (some u) := if_pos (sm_ok h0 (Int.le_trans h1 (Int.ofNat_le.mpr (le_t hl rfl))))
  have hs : 1000 ≤ sizeLine := by decide
  have e : (⟨l.toArray⟩ : Str).cps.toList = l := by simp
  have e2 : (⟨l.toArray⟩ : Str).length = l.length := by rw [str_len, e]
  unfold slcA
  rw [s1]
  show (if (⟨l.toArray⟩ : Str).length ≤ sizeLine then Out.ok (AV.str ⟨(cut (⟨l.toArray⟩ : Str).cps.toList (some u) none).toArray⟩) H else .bad) = _
  rw [e2, if_pos (le_t ‹_› rfl), e]
  unfold cut
  rw [clip_in h0 h1]
  show Out.ok (AV.str ⟨((l.drop u.toNat).take (l.length - u.toNat)).toArray⟩) H = _
  rw [List.take_of_length_le (by simp)]
theorem mulS {x : Str} (h : x.length < 1000) : binA false .Mult (.str x) (.int 6) H = .ok (.str (strRep x 6)) H := by
  show (if -1000 < (6 : Int) ∧ (6 : Int) < 1000 ∧ x.length < 1000 then _ else _) = _
  exact if_pos ⟨by decide, by decide, h⟩
theorem name_run (W : Law05 R) {c : Int} : R (k + 1) false 49 [.int c] H = .ok (.str (nameF c)) H := by
  rw [W.l_name_of _ _ _ _ rfl]
  suffices key : ∀ PG : OutS → Prop, PG (.ret (.str (nameF c)) H) → PG (d05_l_name_of (R k) false (rho0 [.int c] 3) H) from key (fun o => o.done = .ok (.str (nameF c)) H) rfl
  intro PG fin
  have hz : 1000 ≤ sizeLine := by decide
  refine p_if (x := decide (c % 7 = 6)) (H₁ := H) (e_cmp (e_bin rfl rfl (mod_ok (by decide))) rfl ceq_int) (fun h => ?_) fun h => ?_
  · have h : c % 7 = 6 := by simpa using h
    unfold nameF at fin
    rw [if_pos h] at fin
    exact p_ret (P := Th _ _) (e_sub (e_lst rfl (by decide) rfl) (e_bin (e_bin rfl rfl (div_ok (by decide))) rfl (mod_ok (by decide))) (subL (by lia) (bad_at _ (by lia)) (by decide))) fin
  · have h : ¬ c % 7 = 6 := by simpa using h
    unfold nameF at fin
    rw [if_neg h] at fin
    unfold nameW at fin
    have ht : (c / 7 % 4).toNat < 4 := by lia
    have hs := sgn_at (c % 7).toNat (by lia)
    have tl := tail_len (c / 7 % 4).toNat
    refine th_nil ?_
    refine p_asg (a := .str ⟨(tailW (c / 7 % 4).toNat).toArray⟩) (H₁ := H) (e_bin (e_sub (e_lst rfl (by decide) rfl) (e_bin (e_bin rfl rfl (div_ok (by decide))) rfl (mod_ok (by decide))) (subL (by lia) (tail_at _ ht) (by decide))) rfl ((mulS (tail_rep _ ht).2).trans (by rw [(tail_rep _ ht).1]))) ?_
    generalize tailW (c / 7 % 4).toNat = l at *
    have e : (⟨l.toArray⟩ : Str).length = l.length := by rw [str_len]
    have g1 : c / 28 % ((l.length : Int) + 1) < l.length + 1 := Int.emod_lt_of_pos _ (by lia)
    have g2 : 0 ≤ c / 28 % ((l.length : Int) + 1) := Int.emod_nonneg _ (by lia)
    refine p_asg (a := .int (c / 28 % ((l.length : Int) + 1))) (H₁ := H) (e_bin (e_bin rfl rfl (div_ok (by decide))) (e_bin (e_bi (l_one rfl) (show _ = Out.ok (.int l.length) H from ?_)) rfl addI) (mod_ok (by lia))) ?_
    · show (if (⟨l.toArray⟩ : Str).length < 2 ^ 62 then Out.ok (AV.int ((⟨l.toArray⟩ : Str).length : Nat)) H else .bad) = _
      rw [e, if_pos (by lia)]
    generalize hu : c / 28 % ((l.length : Int) + 1) = u at *
    refine p_ret (e_bin (e_bin (e_slc rfl rfl rfl rfl (slcS_to g2 (by lia) (by lia))) (e_sub rfl (e_bin rfl rfl (mod_ok (by decide))) (subS (by lia) hs (by decide))) (addS ?_)) (e_slc rfl rfl rfl rfl (slcS_from g2 (by lia) (by lia))) ((addS ?_).trans (congrArg (fun x => Out.ok (AV.str x) H) (a₂ := ⟨(l.take u.toNat ++ [signW (c % 7).toNat] ++ l.drop u.toNat).toArray⟩) (str_ext ?_)))) fin
    · show (l.take u.toNat).toArray.size + 1 ≤ sizeLine
      simp; lia
    · rw [str_len, app_list, str_len]
      simp; lia
    · rw [app_list, app_list]
theorem has_sign (x : Str) (c : Nat) : Txt.contains x ⟨#[c]⟩ = decide (c ∈ x.cps.toList) := by
  show (!(_ : List Nat).isEmpty) = _
  rw [StrLaws.found_one]
theorem via {d : OutS} {v : AV} (key : ∀ PG : OutS → Prop, PG (.ret v H) → PG d) : d.done = .ok v H := key (fun o => o.done = .ok v H) rfl
theorem e_last {ρ : RE} {e : DE} {o : Out AV} {c : Bool} (h : e ρ H = o) : bopE c [e] ρ H = o := h
theorem lname_run (W : Law05 R) {x : Str} (hx : x.length ≤ 1000) : R (k + 1) false 50 [.str x] H = .ok (.bool (lawOK x)) H := by
  rw [W.l_is_name _ _ _ _ rfl]
  refine via fun PG fin => ?_
  have hl : biA false .len [.str x] H = .ok (.int x.length) H := by
    show (if x.length < 2 ^ 62 then _ else _) = _
    exact if_pos (lt_t hx rfl)
  have e : decide ((1 : Int) ≤ x.length) = decide (1 ≤ x.length) := by congr 1; exact propext (by lia)
  have e' : decide ((x.length : Int) ≤ 20) = decide (x.length ≤ 20) := by congr 1; exact propext (by lia)
  have c1 : cmpE (cstE (.int 1)) [.LtE, .LtE] [biE false .len [varE 0], cstE (.int 20)] [some (.str x)] H = .ok (.bool (decide (1 ≤ x.length) && decide (x.length ≤ 20))) H := (e_cmp2 (c := .int 20) (x := decide ((1 : Int) ≤ x.length)) (y := decide ((x.length : Int) ≤ 20)) rfl (e_bi (l_one rfl) hl) rfl rfl rfl).trans (by rw [e, e'])
  have c3 : compE false false (cstE (.int 1)) (varE 0) (cmpE (varE 1) [.In] [(cstE (.str " \n\t"))]) [some (.str x)] H = .ok (.lst ((x.cps.toList.filter blankc).map fun _ => .int 1)) H := by
    refine e_compA (a := .str x) (H₁ := H) (l := x.cps.toList) (fx := one) (fy := fun _ => .int 1) (p := blankc) (src := .seq (signs x)) (n := x.length) rfl rfl (fun _ => rfl) rfl (by rw [← str_len]; exact le_t hx rfl) (fun c _ => ?_) (fun _ _ _ => rfl) rfl
    refine e_cmp (a := one c) (b := .str " \n\t") (H₂ := H) rfl rfl ?_
    show some (Txt.contains (" \n\t" : Str) ⟨#[c]⟩) = _
    rw [has_sign]; rfl
  have c2 : cmpE (compE false false (cstE (.int 1)) (varE 0) (cmpE (varE 1) [.In] [(cstE (.str " \n\t"))])) [.Eq] [(lstE false [])] [some (.str x)] H = .ok (.bool (x.cps.toList.all fun c => !blankc c)) H := by
    refine e_cmp c3 (b := .lst []) (H₂ := H) rfl ?_
    refine x1_2 (pls_den (pl_map (f := fun _ : Nat => AV.int 1) (l := x.cps.toList.filter blankc) fun _ => plv_int)) fun ds h _ => ?_
    refine (eq_nil (h H 17)).trans (congrArg some ?_)
    rw [Bool.eq_iff_iff]
    clear c3 h
    generalize x.cps.toList = l
    simp
  exact p_ret (e_and2 c1 c2) fin
inductive Sc : AV → Prop
  | int (i : Int) : Sc (.int i)
  | bool (b : Bool) : Sc (.bool b)
  | none : Sc .none
  | str (x : Str) : Sc (.str x)
  | tup : Sc (.tup [.int 1])
noncomputable def isInt : AV → Bool
  | .int _ => true
  | _ => false
noncomputable def numOK (v : AV) (m : Int) : Bool := match v with
  | .int i => decide (1 ≤ i) && decide (i ≤ m)
  | _ => false
theorem Sc.pl {v : AV} (h : Sc v) : PlV v := by
  cases h with
  | int i => exact plv_int
  | bool b => exact ⟨.bool b, fun _ _ => rfl, by cases b <;> rfl⟩
  | none => exact ⟨.none, fun _ _ => rfl, rfl⟩
  | str x => exact plv_str
  | tup => exact ⟨.tuple [.int 1], fun _ _ => rfl, rfl⟩
theorem Sc.isi {v : AV} (h : Sc v) : ∃ b, isiAny gmC H v [.int] = some b ∧ isInt v = (b && !(isiAny gmC H v [.bool] == some true)) ∧ ∃ c, isiAny gmC H v [.bool] = some c := by
  cases h with
  | int i => exact ⟨_, rfl, rfl, _, rfl⟩
  | bool b => exact ⟨_, rfl, rfl, _, rfl⟩
  | none => exact ⟨_, rfl, rfl, _, rfl⟩
  | str x => exact ⟨_, rfl, rfl, _, rfl⟩
  | tup => exact ⟨_, rfl, rfl, _, rfl⟩
theorem e_whole {v : AV} (h : Sc v) {ρ : RE} {e : DE} (he : e ρ H = .ok v H) : bopE true [isiE gmC e [.int], ntE (isiE gmC e [.bool])] ρ H = .ok (.bool (isInt v)) H := by
  obtain ⟨b, h1, h2, c, h3⟩ := h.isi (H := H)
  rw [h2, h3]
  refine (e_and2 (e_isi he h1) (e_nt (e_isi he h3))).trans ?_
  cases b <;> cases c <;> rfl
theorem whole_any (C : BookR R) {v : AV} (h : Sc v) : R (k + 1) hot 0 [v] H = .ok (.bool (isInt v)) H := by
  rw [C.is_whole _ _ _ _ rfl]
  exact congrArg OutS.done (s_ret (e_whole h rfl))
theorem num_int {v : AV} {m : Int} (h : isInt v = true) : ∃ i, v = .int i := by
  cases v with
  | int i => exact ⟨i, rfl⟩
  | _ => cases h
theorem num_no {v : AV} {m : Int} (h : isInt v = false) : numOK v m = false := by
  cases v with
  | int i => cases h
  | _ => rfl
theorem counted_run (W : Law05 R) {v : AV} {m : Int} (h : Sc v) : R (k + 1) hot 51 [v, .int m] H = .ok (.bool (numOK v m)) H := by
  rw [W.l_counted _ _ _ _ rfl]
  refine via fun PG fin => p_ret ?_ fin
  cases h with
  | int i => exact e_bop (e_isi rfl rfl) (e_bop (c := true) (e_nt (x := false) (e_isi rfl rfl)) (e_last <| e_cmp2 (c := .int m) (x := decide (1 ≤ i)) (y := decide (i ≤ m)) rfl rfl rfl rfl rfl))
  | bool b => exact e_bop (e_isi rfl rfl) (e_stop (c := true) (e_nt (x := true) (e_isi rfl rfl)))
  | none => exact e_stop (c := true) (e_isi rfl rfl)
  | str x => exact e_stop (c := true) (e_isi rfl rfl)
  | tup => exact e_stop (c := true) (e_isi rfl rfl)
theorem e_count (C : BookR R) {v : AV} {m : Int} (h : Sc v) {ρ : RE} {e : DE} (he : e ρ H = .ok v H) : bopE false [ntE (callE (R (k + 1) hot) 0 [e]), ntE (cmpE (cstE (.int 1)) [.LtE, .LtE] [e, cstE (.int m)])] ρ H = .ok (.bool (!numOK v m)) H := by
  cases hi : isInt v with
  | false => rw [num_no hi]; exact e_stop (c := false) (e_nt (x := false) (e_call (l_one he) ((whole_any C h).trans (by rw [hi]))))
  | true =>
    obtain ⟨i, rfl⟩ := num_int (m := m) hi
    exact e_bop (c := false) (e_nt (x := true) (e_call (l_one he) (whole_any C h))) (e_nt (e_cmp2 (c := .int m) (x := decide (1 ≤ i)) (y := decide (i ≤ m)) rfl he rfl rfl rfl))
inductive Sv : AV → Prop
  | two {x y : AV} (hx : Sc x) (hy : Sc y) : Sv (.tup [x, y])
  | not {xs : List AV} (hp : ∀ x ∈ xs, Sc x) (hl : xs.length ≠ 2) (hs : xs.length ≤ 10) : Sv (.tup xs)
noncomputable def goodV (v : AV) : Bool := match v with
  | .tup [.int a, .int b] => stOK (a, b)
  | _ => false
theorem good_no {x y : AV} (h : isInt x = false ∨ isInt y = false) : goodV (.tup [x, y]) = false := by
  rcases h with h | h
  · cases x with
    | int i => cases h
    | _ => rfl
  · cases x with
    | int i =>
      cases y with
      | int i => cases h
      | _ => rfl
    | _ => rfl
theorem good_not {xs : List AV} (h : xs.length ≠ 2) : goodV (.tup xs) = false := by
  match xs, h with
  | [], _ => rfl
  | [a], _ => cases a <;> rfl
  | [a, b], h => exact absurd rfl h
  | a :: b :: c :: r, _ => cases a <;> cases b <;> rfl
theorem good_st {v : AV} (h : goodV v = true) : ∃ st, v = stAV st ∧ stOK st = true := by
  match v, h with
  | .tup [.int a, .int b], h => exact ⟨(a, b), rfl, h⟩
theorem len_ne {xs : List AV} (h : xs.length ≠ 2) (hs : xs.length ≤ 10) {ρ : RE} {e : DE} (he : e ρ H = .ok (.tup xs) H) : cmpE (biE hot .len [e]) [.NotEq] [cstE (.int 2)] ρ H = .ok (.bool true) H := by
  have q : biA hot .len [.tup xs] H = .ok (.int xs.length) H := by
    show (if xs.length < 2 ^ 62 then Out.ok (AV.int xs.length) H else .bad) = _
    exact if_pos (by lia)
  refine e_cmp (e_bi (l_one he) q) rfl ?_
  show some (!((xs.length : Int) == 2)) = _
  congr 1
  simp
  lia
theorem stretch_any (C : BookR R) {v : AV} (h : Sv v) : R (k + 2) hot 1 [v] H = .ok (.bool (goodV v)) H := by
  rw [C.is_stretch _ _ _ _ rfl]
  refine via fun PG fin => ?_
  cases h with
  | not hp hl hs =>
    rw [good_not hl] at fin
    exact p_if (x := true) (H₁ := H) (e_stop (c := false) (len_ne hl hs rfl)) (fun _ => p_ret (P := Th _ _) rfl fin) fun q => nomatch q
  | @two x y hx hy =>
    cases ix : isInt x with
    | false =>
      rw [good_no (.inl ix)] at fin
      exact p_if (x := true) (H₁ := H) (e_bop (c := false) (e_cmp (e_bi (l_one rfl) rfl) rfl rfl) (e_stop (c := false) (e_nt (x := false) (e_call (l_one (e_sub rfl rfl sub2_0)) ((whole_any C hx).trans (by rw [ix])))))) (fun _ => p_ret (P := Th _ _) rfl fin) fun q => nomatch q
    | true =>
      cases iy : isInt y with
      | false =>
        rw [good_no (.inr iy)] at fin
        exact p_if (x := true) (H₁ := H) (e_bop (c := false) (e_cmp (e_bi (l_one rfl) rfl) rfl rfl) (e_bop (c := false) (e_nt (x := true) (e_call (l_one (e_sub rfl rfl sub2_0)) ((whole_any C hx).trans (by rw [ix])))) (e_last <| e_nt (x := false) (e_call (l_one (e_sub rfl rfl sub2_1)) ((whole_any C hy).trans (by rw [iy])))))) (fun _ => p_ret (P := Th _ _) rfl fin) fun q => nomatch q
      | true =>
        obtain ⟨a, rfl⟩ := num_int (m := 0) ix
        obtain ⟨b, rfl⟩ := num_int (m := 0) iy
        refine p_skip (H₁ := H) (e_or3 (x := false) (y := false) (z := false) (e_cmp (e_bi (l_one rfl) rfl) rfl rfl) (e_nt (e_call (l_one (e_sub rfl rfl sub2_0)) (whole_run C))) (e_nt (e_call (l_one (e_sub rfl rfl sub2_1)) (whole_run C)))) (p_ret ?_ fin)
        exact e_cmp3 rfl (e_sub rfl rfl sub2_0) rfl (e_sub rfl rfl sub2_1) rfl rfl rfl
theorem good_run (W : Law05 R) {v : AV} (h : Sv v) : R (k + 2) hot 53 [v] H = .ok (.bool (goodV v)) H := by
  rw [W.l_good _ _ _ _ rfl]
  refine via fun PG fin => ?_
  cases h with
  | not hp hl hs =>
    rw [good_not hl] at fin
    exact p_if (x := true) (H₁ := H) (e_stop (c := false) (len_ne hl hs rfl)) (fun _ => p_ret (P := Th _ _) rfl fin) fun q => nomatch q
  | @two x y hx hy =>
    have c0 : cmpE (biE hot .len [varE 0]) [.NotEq] [cstE (.int 2)] [some (.tup [x, y])] H = .ok (.bool false) H := e_cmp (e_bi (l_one rfl) rfl) rfl rfl
    have c1 : ntE (callE (R (k + 1) hot) 51 [subE (varE 0) (cstE (.int 1)), cstE (.int 1000000)]) [some (.tup [x, y])] H = .ok (.bool (!numOK y 1000000)) H := e_nt (e_call (l_two (e_sub rfl rfl sub2_1) rfl) (counted_run W hy))
    have c2 : ntE (callE (R (k + 1) hot) 51 [subE (varE 0) (cstE (.int 0)), cstE (.int 999999)]) [some (.tup [x, y])] H = .ok (.bool (!numOK x 999999)) H := e_nt (e_call (l_two (e_sub rfl rfl sub2_0) rfl) (counted_run W hx))
    cases ny : numOK y 1000000 with
    | false =>
      rw [ny] at c1
      have e : goodV (.tup [x, y]) = false := by
        cases x with
        | int a =>
          cases y with
          | int b =>
            simp only [numOK, Bool.and_eq_false_iff, decide_eq_false_iff_not] at ny
            show (decide (0 ≤ a) && (decide (a < b) && decide (b ≤ 1000000))) = false
            simp only [Bool.and_eq_false_iff, decide_eq_false_iff_not]
            lia
          | _ => rfl
        | _ => rfl
      rw [e] at fin
      exact p_if (x := true) (H₁ := H) (e_bop (c := false) c0 (e_stop (c := false) c1)) (fun _ => p_ret (P := Th _ _) rfl fin) fun q => nomatch q
    | true =>
      rw [ny] at c1
      obtain ⟨b, rfl⟩ : ∃ b, y = .int b := by
        cases y with
        | int b => exact ⟨b, rfl⟩
        | _ => cases ny
      simp only [numOK, Bool.and_eq_true, decide_eq_true_eq] at ny
      have no : numOK x 999999 = false → cmpA H .NotEq x (.int 0) = some true → goodV (.tup [x, .int b]) = false → PG (d05_l_good_stretch (R (k + 1)) hot (rho0 [.tup [x, .int b]] 1) H) := by
        intro n0 n1 n2
        rw [n0] at c2
        rw [n2] at fin
        have c3 : cmpE (subE (varE 0) (cstE (.int 0))) [.NotEq] [(cstE (.int 0))] [some (.tup [x, .int b])] H = .ok (.bool true) H := e_cmp (e_sub rfl rfl sub2_0) rfl n1
        exact p_if (x := true) (H₁ := H) (e_bop (c := false) c0 (e_bop (c := false) c1 (e_last (e_bop (c := true) c2 (e_last c3))))) (fun _ => p_ret (P := Th _ _) rfl fin) fun q => nomatch q
      have yes : ∀ z, bopE true [(ntE (callE (R (k + 1) hot) 51 [(subE (varE 0) (cstE (.int 0))), (cstE (.int 999999))])), (cmpE (subE (varE 0) (cstE (.int 0))) [.NotEq] [(cstE (.int 0))])] [some (.tup [x, .int b])] H = .ok (.bool false) H → bopE true [(cmpE (subE (varE 0) (cstE (.int 0))) [.IsNot] [(cstE (.bool false))]), (cmpE (subE (varE 0) (cstE (.int 0))) [.Lt] [(subE (varE 0) (cstE (.int 1)))])] [some (.tup [x, .int b])] H = .ok (.bool z) H → goodV (.tup [x, .int b]) = z → PG (d05_l_good_stretch (R (k + 1)) hot (rho0 [.tup [x, .int b]] 1) H) := by
        intro z n1 n2 n3
        rw [n3] at fin
        exact p_skip (H₁ := H) (e_bop (c := false) c0 (e_bop (c := false) c1 (e_last n1))) (p_ret n2 fin)
      cases hx with
      | int a =>
        cases na : numOK (.int a) 999999 with
        | true =>
          rw [na] at c2
          simp only [numOK, Bool.and_eq_true, decide_eq_true_eq] at na
          refine yes (decide (a < b)) (e_stop (c := true) c2) (e_and2 (x := true) (y := decide (a < b)) (e_cmp (e_sub rfl rfl sub2_0) rfl rfl) (e_cmp (e_sub rfl rfl sub2_0) (e_sub rfl rfl sub2_1) rfl)) ?_
          show (decide (0 ≤ a) && (decide (a < b) && decide (b ≤ 1000000))) = _
          rw [decide_eq_true (show 0 ≤ a by lia), decide_eq_true ny.2, Bool.and_true]; rfl
        | false =>
          by_cases a0 : a = 0
          · subst a0
            refine yes (decide (0 < b)) (e_bop (c := true) c2 (e_last (e_cmp (e_sub rfl rfl sub2_0) rfl rfl))) (e_and2 (x := true) (y := decide (0 < b)) (e_cmp (e_sub rfl rfl sub2_0) rfl rfl) (e_cmp (e_sub rfl rfl sub2_0) (e_sub rfl rfl sub2_1) rfl)) ?_
            show (decide ((0 : Int) ≤ 0) && (decide (0 < b) && decide (b ≤ 1000000))) = _
            rw [decide_eq_true ny.2, Bool.and_true]; rfl
          · refine no na ?_ ?_
            · show some (!(a == 0)) = _
              congr 1
              simp [a0]
            · simp only [numOK, Bool.and_eq_false_iff, decide_eq_false_iff_not] at na
              show (decide (0 ≤ a) && (decide (a < b) && decide (b ≤ 1000000))) = false
              simp only [Bool.and_eq_false_iff, decide_eq_false_iff_not]
              lia
      | bool t =>
        cases t with
        | true => exact no rfl rfl rfl
        | false => exact yes false (e_bop (c := true) c2 (e_last (e_cmp (e_sub rfl rfl sub2_0) rfl rfl))) (e_stop (c := true) (e_cmp (e_sub rfl rfl sub2_0) rfl rfl)) rfl
      | none => exact no rfl rfl rfl
      | str z => exact no rfl rfl rfl
      | tup => exact no rfl rfl rfl
end
section
variable {R : Nat → Bool → FT} {k : Nat} {hot : Bool} {H : AH}
theorem far_at : ∀ i < 3, ∃ f, ([.int 0, .int 0, .int 999960] : List AV)[i]? = some (.int f)
  | 0, _ => ⟨_, rfl⟩
  | 1, _ => ⟨_, rfl⟩
  | 2, _ => ⟨_, rfl⟩
theorem size_at {s : Int} : ∀ i < 4, ∃ f, ([.int s, .int 0, .int (-1), .int 30] : List AV)[i]? = some (.int f)
  | 0, _ => ⟨_, rfl⟩
  | 1, _ => ⟨_, rfl⟩
  | 2, _ => ⟨_, rfl⟩
  | 3, _ => ⟨_, rfl⟩
theorem kind_at : ∀ i < 8, ∃ f : Int, 0 ≤ f ∧ f.toNat < 4 ∧ ([.int 0, .int 0, .int 0, .int 0, .int 0, .int 1, .int 2, .int 3] : List AV)[i]? = some (.int f)
  | 0, _ => ⟨_, by decide, by decide, rfl⟩
  | 1, _ => ⟨_, by decide, by decide, rfl⟩
  | 2, _ => ⟨_, by decide, by decide, rfl⟩
  | 3, _ => ⟨_, by decide, by decide, rfl⟩
  | 4, _ => ⟨_, by decide, by decide, rfl⟩
  | 5, _ => ⟨_, by decide, by decide, rfl⟩
  | 6, _ => ⟨_, by decide, by decide, rfl⟩
  | 7, _ => ⟨_, by decide, by decide, rfl⟩
noncomputable def oddL : List AV := [.tup [.int 1], .tup [], .tup [.int 0, .int 5, .int 9], .tup [.bool true, .int 5], .tup [.int 0, .bool true], .tup [.none, .int 5], .tup [.str "0", .int 5], .tup [.int (-20), .int (-12)], .tup [.int (-1), .int 3], .tup [.int 0, .none]]
theorem odd_at : ∀ i < 10, ∃ v, oddL[i]? = some v ∧ Sv v
  | 0, _ => ⟨_, rfl, .not (fun x h => by cases List.mem_singleton.mp h; exact .int _) (by decide) (by decide)⟩
  | 1, _ => ⟨_, rfl, .not (fun x h => nomatch h) (by decide) (by decide)⟩
  | 2, _ => ⟨_, rfl, .not (fun x h => by simp at h; rcases h with rfl | rfl | rfl <;> exact .int _) (by decide) (by decide)⟩
  | 3, _ => ⟨_, rfl, .two (.bool _) (.int _)⟩
  | 4, _ => ⟨_, rfl, .two (.int _) (.bool _)⟩
  | 5, _ => ⟨_, rfl, .two .none (.int _)⟩
  | 6, _ => ⟨_, rfl, .two (.str _) (.int _)⟩
  | 7, _ => ⟨_, rfl, .two (.int _) (.int _)⟩
  | 8, _ => ⟨_, rfl, .two (.int _) (.int _)⟩
  | 9, _ => ⟨_, rfl, .two (.int _) .none⟩
theorem sof_run (W : Law05 R) {c : Int} : ∃ v, R (k + 1) false 52 [.int c] H = .ok v H ∧ Sv v := by
  obtain ⟨f, hf⟩ := far_at (c / 120 % 3).toNat (by lia)
  obtain ⟨j, j0, j4, hj⟩ := kind_at (c / 8640 % 8).toNat (by lia)
  obtain ⟨s, hs⟩ := size_at (s := 1 + c / 360 % 24) j.toNat j4
  obtain ⟨o, ho, hv⟩ := odd_at (c / 276480 % 10).toNat (by lia)
  rw [W.l_stretch_of _ _ _ _ rfl]
  suffices key : ∀ PG : OutS → Prop, (∀ v, Sv v → PG (.ret v H)) → PG (d05_l_stretch_of (R k) false (rho0 [.int c] 5) H) from key (fun o => ∃ v, o.done = .ok v H ∧ Sv v) fun v h => ⟨v, rfl, h⟩
  intro PG fin
  refine p_asg (a := .int (24 * (c % 5) + c / 5 % 24)) (H₁ := H) (e_bin (e_bin rfl (e_bin rfl rfl (mod_ok (by decide))) (mulI (.inl (by decide)))) (e_bin (e_bin rfl rfl (div_ok (by decide))) rfl (mod_ok (by decide))) addI) ?_
  refine p_asg (a := .int f) (H₁ := H) (e_sub (e_lst rfl (by decide) rfl) (e_bin (e_bin rfl rfl (div_ok (by decide))) rfl (mod_ok (by decide))) (subL (by lia) hf (by decide))) ?_
  refine p_asg (a := .int s) (H₁ := H) (e_sub (e_lst (l_cons (e_bin rfl (e_bin (e_bin rfl rfl (div_ok (by decide))) rfl (mod_ok (by decide))) addI) rfl) (by simp) rfl) (e_sub (e_lst rfl (by decide) rfl) (e_bin (e_bin rfl rfl (div_ok (by decide))) rfl (mod_ok (by decide))) (subL (by lia) hj (by decide))) (subL j0 hs (by simp))) ?_
  refine p_asg (a := .lst oddL) (H₁ := H) (e_lst rfl (by decide) rfl) ?_
  refine p_if (x := decide (c / 69120 % 4 = 1)) (H₁ := H) (e_cmp (e_bin (e_bin rfl rfl (div_ok (by decide))) rfl (mod_ok (by decide))) rfl ceq_int) (fun h => ?_) fun h => ?_
  · exact p_ret (P := Th _ _) (e_sub rfl (e_bin (e_bin rfl rfl (div_ok (by decide))) rfl (mod_ok (by decide))) (subL (by lia) ho (by decide))) (fin _ hv)
  · exact th_nil (p_ret (e_tup (l_two (e_bin rfl rfl addI) (e_bin (e_bin rfl rfl addI) rfl addI)) (by simp)) (fin _ (.two (.int _) (.int _))))
noncomputable def word (w : Nat) : Str := match w with
  | 0 => ""
  | 1 => "name"
  | 2 => "stretch"
  | 3 => "count"
  | 4 => "twice"
  | _ => "missing"
theorem word_run (W : Law05 R) : ∀ w, w ≠ 0 → w ≤ 5 → R (k + 1) true 56 [.exc w] H = .ok (.str (word w)) H
  | 0, h, _ => absurd rfl h
  | 1, _, _ => by rw [W.l_word _ _ _ _ rfl]; kernel_rfl
  | 2, _, _ => by rw [W.l_word _ _ _ _ rfl]; kernel_rfl
  | 3, _, _ => by rw [W.l_word _ _ _ _ rfl]; kernel_rfl
  | 4, _, _ => by rw [W.l_word _ _ _ _ rfl]; kernel_rfl
  | 5, _, _ => by rw [W.l_word _ _ _ _ rfl]; kernel_rfl
noncomputable def skW (seen : List Str) : List Str → Nat
  | [] => 0
  | x :: r => if nameOK x = false then 1 else if x ∈ seen then 4 else skW (seen ++ [x]) r
theorem skW_le : ∀ (xs seen : List Str), skW seen xs ≤ 5
  | [], _ => Nat.zero_le _
  | x :: r, seen => by
    unfold skW
    split
    · decide
    · split
      · decide
      · exact skW_le r _
theorem sk_step {xs : List Str} {j : Nat} {x : Str} (h : xs[j]? = some x) : skW (xs.take j) (xs.drop j) = if nameOK x = false then 1 else if x ∈ xs.take j then 4 else skW (xs.take (j + 1)) (xs.drop (j + 1)) := by
  obtain ⟨hl, e⟩ := List.getElem?_eq_some_iff.mp h
  rw [List.drop_eq_getElem_cons hl, e, List.take_add_one, h]
  rfl
noncomputable def Res (w : Nat) (v : AV) (H : AH) (K : AH → Prop) (o : Out AV) : Prop := (w = 0 → ∃ H', o = .ok v H' ∧ K H') ∧ (w ≠ 0 → ∃ H', o = .exc w H' ∧ Up H.length H H')
theorem skills_any (C : BookR R) {xs : List Str} {r : Nat} (hr : H[r]? = some (.lst (xs.map .str))) (hx : ∀ x ∈ xs, x.length ≤ 100) (hl : xs.length ≤ 1000) :
    Res (skW [] xs) (.ref H.length) H (fun H' => H' = H ++ [.lst (xs.map .str)]) (R (k + 2) false 6 [.ref r] H) := by
  rw [C.checked_skills _ _ _ _ rfl]
  suffices key : ∀ PG : OutS → Prop, (skW [] xs = 0 → PG (.ret (.ref H.length) (H ++ [.lst (xs.map .str)]))) → (∀ ρ H', skW [] xs ≠ 0 → Up H.length H H' → PG (.exc (skW [] xs) ρ H')) → PG (dc_checked_skills (R (k + 1)) false (rho0 [.ref r] 3) H) from
    key (fun o => Res _ _ _ _ o.done) (fun h => ⟨fun _ => ⟨_, rfl, rfl⟩, fun q => absurd h q⟩) fun ρ H' h u => ⟨fun q => absurd q h, fun _ => ⟨_, rfl, u⟩⟩
  intro PG f0 f1
  have rl : r < H.length := (List.getElem?_eq_some_iff.mp hr).1
  refine p_asg (a := .ref H.length) (H₁ := H ++ [.lst []]) rfl ?_
  refine p_forR (m := r) (xs := xs.map .str) (H₁ := H ++ [.lst []]) rfl ((get_ap rl).trans hr)
    (fun j ρ H' => A3 (H' = H ++ [.lst ((xs.take j).map .str)]) (skW [] xs = skW (xs.take j) (xs.drop j)) (∃ o, ρ = [some (.ref r), some (.ref H.length), o])) ⟨rfl, rfl, _, rfl⟩ (fun j ρ H' h => by rw [h.1]; exact (get_ap rl).trans hr) ?_ ?_
  · rintro J j v ρ H' hv ⟨rfl, hw, o, rfl⟩ hJ
    rw [List.getElem?_map] at hv
    refine x1_2 (Option.map_eq_some_iff.mp hv) fun x hj e2' => ?_; subst e2'
    have hm := List.mem_of_getElem? hj
    rw [sk_step hj] at hw
    show Nx _ _ ((_ : DS) [some (.ref r), some (.ref H.length), some (.str x)] _)
    refine p_if (x := !nameOK x) (H₁ := H ++ [.lst ((xs.take j).map .str)]) (e_nt (e_call (l_one rfl) (isname_run C (le_t (hx x hm) rfl)))) (fun h => ?_) fun h => th_nil ?_
    · have h : nameOK x = false := by simpa using h
      rw [if_pos h] at hw
      rw [hw] at f1
      exact f1 _ _ (by decide) Up.app
    have h : nameOK x = true := by simpa using h
    rw [if_neg (by rw [h]; decide)] at hw
    refine p_if (x := decide (x ∈ xs.take j)) (H₁ := H ++ [.lst ((xs.take j).map .str)]) (e_cmp rfl rfl (in_strs (ndc_at get_last) (ls_at get_last))) (fun h => ?_) fun h => th_nil ?_
    · have h : x ∈ xs.take j := by simpa using h
      rw [if_pos h] at hw
      rw [hw] at f1
      exact f1 _ _ (by decide) Up.app
    have h : ¬ x ∈ xs.take j := by simpa using h
    rw [if_neg h] at hw
    refine p_expr (e_append rfl get_last (l_one rfl) get_last (by simp; exact Nat.le_trans (Nat.min_le_right _ _) (le_t hl rfl))) (nx_next (hJ _ _ ⟨?_, hw, _, rfl⟩))
    rw [set_last, take_snoc (f := AV.str) hj]
  · rintro ρ H' ⟨rfl, hw, o, rfl⟩
    rw [List.length_map, List.take_length, List.drop_length] at hw
    rw [List.length_map, List.take_length]
    exact p_ret rfl (f0 hw)
noncomputable def ndAV (n : Str × AV) : AV := .tup [.str n.1, n.2]
noncomputable def ndW (seen : List Str) : List (Str × AV) → Nat
  | [] => 0
  | n :: r => if nameOK n.1 = false then 1 else if n.1 ∈ seen then 4 else if numOK n.2 9 = false then 3 else ndW (seen ++ [n.1]) r
theorem ndW_le : ∀ (xs : List (Str × AV)) (seen : List Str), ndW seen xs ≤ 5
  | [], _ => Nat.zero_le _
  | x :: r, seen => by
    unfold ndW
    split
    · decide
    · split
      · decide
      · split
        · decide
        · exact ndW_le r _
theorem nd_step {xs : List (Str × AV)} {j : Nat} {x : Str × AV} (h : xs[j]? = some x) : ndW ((xs.map (·.1)).take j) (xs.drop j) = if nameOK x.1 = false then 1 else if x.1 ∈ (xs.map (·.1)).take j then 4 else if numOK x.2 9 = false then 3 else ndW ((xs.map (·.1)).take (j + 1)) (xs.drop (j + 1)) := by
  obtain ⟨hl, e⟩ := List.getElem?_eq_some_iff.mp h
  rw [List.drop_eq_getElem_cons hl, e, List.take_add_one, List.getElem?_map, h]
  rfl
noncomputable def intN (n : Str × Int) : Str × AV := (n.1, .int n.2)
theorem nd_zero : ∀ {xs : List (Str × AV)} {seen : List Str}, ndW seen xs = 0 → ∃ ns : List (Str × Int), xs = ns.map intN ∧ (∀ n ∈ ns, nameOK n.1 = true ∧ n.1 ∉ seen ∧ 1 ≤ n.2 ∧ n.2 ≤ 9) ∧ (ns.map (·.1)).Nodup
  | [], _, _ => ⟨[], rfl, (fun x h => nomatch h), List.nodup_nil⟩
  | (x, v) :: r, seen, h => by
    unfold ndW at h
    split at h
    · cases h
    · rename_i h1
      split at h
      · cases h
      · rename_i h2
        split at h
        · cases h
        · rename_i h3
          obtain ⟨ns, e, a, b⟩ := nd_zero h
          obtain ⟨i, rfl⟩ : ∃ i, v = .int i := by
            cases v with
            | int i => exact ⟨i, rfl⟩
            | _ => exact absurd rfl h3
          have h3 : numOK (.int i) 9 = true := by simpa using h3
          simp only [numOK, Bool.and_eq_true, decide_eq_true_eq] at h3
          refine ⟨(x, i) :: ns, by rw [e]; rfl, fun y hy => ?_, ?_⟩
          · rcases List.mem_cons.mp hy with rfl | hy
            · exact ⟨by simpa using h1, h2, h3⟩
            · exact ⟨(a y hy).1, fun q => (a y hy).2.1 (List.mem_append.mpr (.inl q)), (a y hy).2.2⟩
          · rw [List.map_cons, List.nodup_cons]
            refine ⟨fun hx => ?_, b⟩
            obtain ⟨y, hy, e⟩ := List.mem_map.mp hx
            exact (a y hy).2.1 (List.mem_append.mpr (.inr (by rw [e]; simp)))
theorem needs_any (C : BookR R) {xs : List (Str × AV)} {r : Nat} (hr : H[r]? = some (.lst (xs.map ndAV))) (hx : ∀ x ∈ xs, x.1.length ≤ 100 ∧ Sc x.2) (hl : xs.length ≤ 1000) :
    Res (ndW [] xs) (.ref (H.length + 1)) H (fun H' => H' = H ++ [.lst ((xs.map (·.1)).map .str), .lst (xs.map ndAV)]) (R (k + 2) false 7 [.ref r] H) := by
  rw [C.checked_needs _ _ _ _ rfl]
  suffices key : ∀ PG : OutS → Prop, (ndW [] xs = 0 → PG (.ret (.ref (H.length + 1)) (H ++ [.lst ((xs.map (·.1)).map .str), .lst (xs.map ndAV)]))) → (∀ ρ H', ndW [] xs ≠ 0 → Up H.length H H' → PG (.exc (ndW [] xs) ρ H')) → PG (dc_checked_needs (R (k + 1)) false (rho0 [.ref r] 5) H) from
    key (fun o => Res _ _ _ _ o.done) (fun h => ⟨fun _ => ⟨_, rfl, rfl⟩, fun q => absurd h q⟩) fun ρ H' h u => ⟨fun q => absurd q h, fun _ => ⟨_, rfl, u⟩⟩
  intro PG f0 f1
  have rl : r < H.length := (List.getElem?_eq_some_iff.mp hr).1
  refine p_asg (a := .ref H.length) (H₁ := H ++ [.lst []]) rfl ?_
  refine p_asg (a := .ref (H.length + 1)) (H₁ := H ++ [.lst [], .lst []]) ?_ ?_
  · refine (e_lst l_nil (by decide) rfl).trans ?_
    show Out.ok (AV.ref (H ++ [AO.lst []]).length) ((H ++ [AO.lst []]) ++ [AO.lst []]) = _
    rw [List.length_append, List.append_assoc]; rfl
  refine p_forML (N := H.length) (a := .ref r) (xs := xs.map ndAV) (H₁ := H ++ [.lst [], .lst []]) rfl (.inr ⟨r, rfl, rl, (get_ap rl).trans hr⟩)
    (fun j ρ H' => A3 (H' = H ++ [.lst (((xs.map (·.1)).take j).map .str), .lst ((xs.take j).map ndAV)]) (ndW [] xs = ndW ((xs.map (·.1)).take j) (xs.drop j)) (Ex2 fun o o' => ρ = [some (.ref r), some (.ref H.length), some (.ref (H.length + 1)), o, o'])) ⟨rfl, rfl, _, _, rfl⟩ (fun j ρ H' h => by rw [h.1]; exact ⟨by simp, fun n hn => by rw [get_ap hn, get_ap hn]⟩) ?_ ?_
  · rintro J j v ρ H' hv ⟨rfl, hw, o, o', rfl⟩ hJ
    rw [List.getElem?_map] at hv
    obtain ⟨⟨x, c⟩, hj, rfl⟩ := Option.map_eq_some_iff.mp hv
    have hm := List.mem_of_getElem? hj
    have hj1 : (xs.map (·.1))[j]? = some x := by rw [List.getElem?_map, hj]; rfl
    rw [nd_step hj] at hw
    refine ⟨[some (.ref r), some (.ref H.length), some (.ref (H.length + 1)), some (.str x), some c], rfl, ?_⟩
    refine p_if (x := !nameOK x) (H₁ := H ++ [.lst (((xs.map (·.1)).take j).map .str), .lst ((xs.take j).map ndAV)]) (e_nt (e_call (l_one rfl) (isname_run C (le_t (hx _ hm).1 rfl)))) (fun h => ?_) fun h => th_nil ?_
    · have h : nameOK x = false := by simpa using h
      rw [if_pos h] at hw
      rw [hw] at f1
      exact f1 _ _ (by decide) Up.app
    have h : nameOK x = true := by simpa using h
    rw [if_neg (by rw [h]; decide)] at hw
    refine p_if (x := decide (x ∈ (xs.map (·.1)).take j)) (H₁ := H ++ [.lst (((xs.map (·.1)).take j).map .str), .lst ((xs.take j).map ndAV)]) (e_cmp rfl rfl (in_strs (ndc_at get_l0) (ls_at get_l0))) (fun h => ?_) fun h => th_nil ?_
    · have h : x ∈ (xs.map (·.1)).take j := by simpa using h
      rw [if_pos h] at hw
      rw [hw] at f1
      exact f1 _ _ (by decide) Up.app
    have h : ¬ x ∈ (xs.map (·.1)).take j := by simpa using h
    rw [if_neg h] at hw
    refine p_if (x := !numOK c 9) (H₁ := H ++ [.lst (((xs.map (·.1)).take j).map .str), .lst ((xs.take j).map ndAV)]) (e_count C (hx _ hm).2 rfl) (fun h => ?_) fun h => th_nil ?_
    · have h : numOK c 9 = false := by simpa using h
      rw [if_pos h] at hw
      rw [hw] at f1
      exact f1 _ _ (by decide) Up.app
    have h : numOK c 9 = true := by simpa using h
    rw [if_neg (by rw [h]; decide)] at hw
    refine p_expr (e_append rfl get_l0 (l_one rfl) get_l0 (by simp; exact Nat.le_trans (Nat.min_le_right _ _) (le_t hl rfl))) ?_
    rw [set_l0, take_snoc (f := AV.str) hj1]
    refine p_expr (e_append rfl get_l1 (l_one (e_tup (l_two rfl rfl) (by simp))) get_l1 (by simp; exact Nat.le_trans (Nat.min_le_right _ _) (le_t hl rfl))) (nx_next (hJ _ _ ⟨?_, hw, _, _, rfl⟩))
    rw [set_l1, ← take_snoc (f := ndAV) hj]; rfl
  · rintro ρ H' ⟨rfl, hw, o, o', rfl⟩
    have e1 : (xs.map (·.1)).take xs.length = xs.map (·.1) := List.take_of_length_le (by simp)
    rw [List.length_map, e1, List.drop_length] at hw
    rw [List.length_map, List.take_length, e1]
    exact p_ret rfl (f0 hw)
end
section
variable {P : OutS → Prop} {ρ : RE} {H H₁ : AH} {e : DE} {r : List DS} {hot : Bool} {c : Nat} {t : Tg}
theorem p_asgX (h : e ρ H = .exc c H₁) (q : P (.exc c ρ H₁)) : P (seqS (assignS hot t e :: r) ρ H) := by
  show P ((assignS hot t e ρ H).then _); unfold assignS; rw [h]; exact q
theorem p_exprX (h : e ρ H = .exc c H₁) (q : P (.exc c ρ H₁)) : P (seqS (exprS e :: r) ρ H) := by
  show P ((exprS e ρ H).then _); unfold exprS; rw [h]; exact q
end
noncomputable def persW (ns : List Str) (nm : Str) (sk : List Str) (lim : AV) : Nat := if nameOK nm = false then 1 else if skW [] sk ≠ 0 then skW [] sk else if numOK lim 31 = false then 3 else if nm ∈ ns then 4 else 0
noncomputable def restW (ns : List Str) (nm : Str) (v : AV) : Nat := if nm ∈ ns then (if goodV v = false then 2 else 0) else 5
noncomputable def dayV (v : AV) : Bool := match v with
  | .tup [.int a, .int b] => dayOK (a, b)
  | _ => false
noncomputable def shifW (ns : List Str) (nm : Str) (v : AV) (nd : List (Str × AV)) : Nat := if nameOK nm = false then 1 else if (goodV v && dayV v) = false then 2 else if ndW [] nd ≠ 0 then ndW [] nd else if nm ∈ ns then 4 else 0
section
variable {R : Nat → Bool → FT} {k : Nat} {H : AH} {b : Nat} {Q : Nat → Prop} {ps : List Pm} {ss : List Sm}
theorem add_person_any (C : BookR R) (B : BookQ Q H b ps ss) (hQ : ∀ n, H.length ≤ n → Q n) {nm : Str} {sk : List Str} {lim : AV} {r : Nat} (hr : H[r]? = some (.lst (sk.map .str))) (hn : nm.length ≤ 100) (hx : ∀ x ∈ sk, x.length ≤ 100) (hl : sk.length ≤ 1000) (hs : Sc lim) (hf : ps.length + ss.length < 1000) :
    Res (persW (ps.map (·.name)) nm sk lim) .none H (fun H' => ∃ l, lim = .int l ∧ BookQ Q H' b (ps ++ [⟨nm, sk, l, []⟩]) ss ∧ UpQ Q H H') (R (k + 3) false 13 [.ref b, .str nm, .ref r, lim] H) := by
  rw [C.add_person _ _ _ _ rfl]
  refine x4_4 (B.ex) fun fd wd prs srs A e5' e6' hN => ?_; subst e5'; subst e6'
  have en : (prs.map (·.2)).map (·.name) = prs.map (·.2.name) := by rw [List.map_map]; rfl
  rw [en]
  suffices key : ∀ PG : OutS → Prop, (persW (prs.map (·.2.name)) nm sk lim = 0 → ∀ ρ l, lim = .int l → PG (.next ρ (addP H fd prs nm sk l))) → (∀ w ρ H', w ≠ 0 → persW (prs.map (·.2.name)) nm sk lim = w → Up H.length H H' → PG (.exc w ρ H')) → PG (dc_Book_add_person (R (k + 2)) false (rho0 [.ref b, .str nm, .ref r, lim] 5) H) by
    refine key (fun o => Res _ _ _ _ o.done) (fun h ρ l hl => ⟨fun _ => ⟨_, rfl, l, hl, ⟨fd, wd, _, srs, A.addP (by simpa using hf), by simp, rfl, ?_⟩, ?_, ?_⟩, fun q => absurd h q⟩) fun w ρ H' h e u => ⟨fun q => absurd (e.symm.trans q) h, fun _ => by rw [e]; exact ⟨_, rfl, u⟩⟩
    · intro n hn
      simp only [bRefs, List.flatMap_append, List.mem_cons, List.mem_append, List.flatMap_cons, List.flatMap_nil, List.append_nil, pRefs, List.not_mem_nil, or_false] at hn
      have hh : n ∈ bRefs b fd wd prs srs ∨ n = H.length + 1 ∨ n = H.length ∨ n = H.length + 2 := by
        simp only [bRefs, List.mem_cons, List.mem_append]
        grind
      rcases hh with q | q | q | q
      · exact hN n q
      all_goals exact hQ n (by lia)
    · unfold addP; simp
    · intro n hn q
      exact addP_keep hn fun e => q (e ▸ hN fd (.tail _ (.head _)))
  intro PG f0 f1
  unfold persW at f0 f1
  refine p_if (x := !nameOK nm) (H₁ := H) (e_nt (e_call (l_one rfl) (isname_run C (le_t hn rfl)))) (fun h => ?_) fun h => th_nil ?_
  · have h : nameOK nm = false := by simpa using h
    rw [if_pos h] at f1
    exact f1 1 _ _ (by decide) rfl Up.refl
  have h : nameOK nm = true := by simpa using h
  rw [if_neg (by rw [h]; decide)] at f0 f1
  have S := skills_any (k := k) C hr hx hl
  by_cases hw : skW [] sk = 0
  case neg =>
    rw [if_pos hw] at f1
    obtain ⟨H', e, u⟩ := S.2 hw
    exact p_asgX (e_call (l_one rfl) e) (f1 _ _ _ hw rfl u)
  rw [if_neg (fun q => q hw)] at f0 f1
  obtain ⟨H', e, rfl⟩ := S.1 hw
  refine p_asg (e_call (l_one rfl) e) ?_
  have B1 : BookAt (H ++ [.lst (sk.map .str)]) b fd wd prs srs := A.grow
  refine p_if (x := !numOK lim 31) (H₁ := H ++ [.lst (sk.map .str)]) (e_count C hs rfl) (fun h => ?_) fun h => th_nil ?_
  · have h : numOK lim 31 = false := by simpa using h
    rw [if_pos h] at f1
    exact f1 3 _ _ (by decide) rfl Up.app
  have h : numOK lim 31 = true := by simpa using h
  rw [if_neg (by rw [h]; decide)] at f0 f1
  have hin : ((folkD prs).any fun e => decide (e.1 = Key.str nm)) = decide (nm ∈ prs.map (·.2.name)) := by
    unfold folkD; rw [in_keys]
  refine p_if (x := decide (nm ∈ prs.map (·.2.name))) (H₁ := H ++ [.lst (sk.map .str)]) (e_cmp rfl (e_attr rfl B1.book rfl) (in_dict B1.folk hin)) (fun h => ?_) fun h => th_nil ?_
  · have h : nm ∈ prs.map (·.2.name) := of_decide_eq_true h
    rw [if_pos h] at f1
    exact f1 4 _ _ (by decide) rfl Up.app
  have hno := h
  have h : ¬ nm ∈ prs.map (·.2.name) := of_decide_eq_false h
  rw [if_neg h] at f0
  obtain ⟨l, rfl⟩ : ∃ l, lim = .int l := by
    cases hs with
    | int i => exact ⟨i, rfl⟩
    | _ => cases ‹numOK _ 31 = true›
  rw [hno] at hin
  have B2 : BookAt ((H ++ [.lst (sk.map .str)]) ++ [.inst 0 (pfs H.length ((H ++ [AO.lst (sk.map .str)]).length + 1) l), .lst []]) b fd wd prs srs := B1.grow
  refine p_item (person_new C (l_two rfl rfl)) (e_attr rfl B2.book rfl) rfl (set_key B2.folk (by rw [folk_len]; have := A.few; lia) hin) (p_nil ?_)
  have := f0 rfl [some (.ref b), some (.str nm), some (.ref r), some (.int l), some (.ref H.length)] l rfl
  unfold addP at this
  rw [List.append_assoc, List.length_append]
  exact this
theorem add_rest_any (C : BookR R) (B : BookQ Q H b ps ss) (hnd : (ps.map (·.name)).Nodup) (hrl : ∀ p ∈ ps, p.rests.length ≤ 1000000) {nm : Str} {v : AV} (hs : Sv v) :
    Res (restW (ps.map (·.name)) nm v) .none H (fun H' => ∃ st i p, v = stAV st ∧ ps[i]? = some p ∧ p.name = nm ∧ BookQ Q H' b (ps.set i { p with rests := p.rests ++ [st] }) ss ∧ UpQ Q H H') (R (k + 3) false 14 [.ref b, .str nm, v] H) := by
  by_cases hm : nm ∈ ps.map (·.name)
  case neg =>
    have e : restW (ps.map (·.name)) nm v = 5 := if_neg hm
    rw [e]
    refine ⟨fun q => (by cases q), fun _ => ⟨H, ?_, Up.refl⟩⟩
    rw [C.add_rest _ _ _ _ rfl]
    refine x4_4 (B.ex) fun fd wd prs srs A e5' e6' hN => ?_; subst e5'; subst e6'
    have en : (prs.map (·.2)).map (·.name) = prs.map (·.2.name) := by rw [List.map_map]; rfl
    rw [en] at hm
    suffices key : ∀ PG : OutS → Prop, (∀ ρ, PG (.exc 5 ρ H)) → PG (dc_Book_add_rest (R (k + 2)) false (rho0 [.ref b, .str nm, v] 4) H) from key (fun o => o.done = .exc 5 H) fun _ => rfl
    intro PG fin
    exact p_asgX (e_mo rfl A.book (i := 16) rfl (l_one rfl) (no_person_run (k := k + 1) C A hm)) (fin _)
  obtain ⟨p, hp, rfl⟩ := List.mem_map.mp hm
  have e : restW (ps.map (·.name)) p.name v = if goodV v = false then 2 else 0 := if_pos hm
  rw [e]
  cases hg : goodV v with
  | false =>
    rw [if_pos rfl]
    refine ⟨fun q => (by cases q), fun _ => ⟨H, ?_, Up.refl⟩⟩
    rw [C.add_rest _ _ _ _ rfl]
    refine x4_4 (B.ex) fun fd wd prs srs A e5' e6' hN => ?_; subst e5'; subst e6'
    refine x1_2 (List.mem_map.mp hp) fun q hq e2' => ?_; subst e2'
    suffices key : ∀ PG : OutS → Prop, (∀ ρ, PG (.exc 2 ρ H)) → PG (dc_Book_add_rest (R (k + 2)) false (rho0 [.ref b, .str q.2.name, v] 4) H) from key (fun o => o.done = .exc 2 H) fun _ => rfl
    intro PG fin
    refine p_asg (e_mo rfl A.book (i := 16) rfl (l_one rfl) (person_run (k := k + 1) C A (by simpa [Function.comp_def] using hnd) hq)) ?_
    exact p_if (x := true) (H₁ := H) (e_nt (x := false) (e_call (l_one rfl) ((stretch_any C hs).trans (by rw [hg])))) (fun _ => fin _) fun q => nomatch q
  | true =>
    rw [if_neg (by decide)]
    obtain ⟨st, rfl, ok⟩ := good_st hg
    obtain ⟨i, hi⟩ := List.mem_iff_getElem?.mp hp
    obtain ⟨H', run, B', u, _⟩ := add_rest_q (k := k) C B hnd hi ok (hrl p hp)
    exact ⟨fun _ => ⟨H', run, st, i, p, rfl, hi, rfl, B', u⟩, fun q => absurd rfl q⟩
theorem add_shift_any (C : BookR R) (B : BookQ Q H b ps ss) (hQ : ∀ n, H.length ≤ n → Q n) {nm : Str} {v : AV} {nd : List (Str × AV)} {r : Nat} (hr : H[r]? = some (.lst (nd.map ndAV))) (hn : nm.length ≤ 100) (hx : ∀ x ∈ nd, x.1.length ≤ 100 ∧ Sc x.2) (hl : nd.length ≤ 1000) (hs : Sv v) (hf : ps.length + ss.length < 1000) :
    Res (shifW (ss.map (·.name)) nm v nd) .none H (fun H' => ∃ st ns, v = stAV st ∧ nd = ns.map intN ∧ BookQ Q H' b ps (ss ++ [⟨nm, st, ns⟩]) ∧ UpQ Q H H') (R (k + 3) false 15 [.ref b, .str nm, v, .ref r] H) := by
  rw [C.add_shift _ _ _ _ rfl]
  refine x4_4 (B.ex) fun fd wd prs srs A e5' e6' hN => ?_; subst e5'; subst e6'
  have en : (srs.map (·.2)).map (·.name) = srs.map (·.2.name) := by rw [List.map_map]; rfl
  rw [en]
  suffices key : ∀ PG : OutS → Prop, (shifW (srs.map (·.2.name)) nm v nd = 0 → ∀ ρ st ns, v = stAV st → nd = ns.map intN → PG (.next ρ (addS' H wd srs nm st ns))) → (∀ w ρ H', w ≠ 0 → shifW (srs.map (·.2.name)) nm v nd = w → Up H.length H H' → PG (.exc w ρ H')) → PG (dc_Book_add_shift (R (k + 2)) false (rho0 [.ref b, .str nm, v, .ref r] 5) H) by
    refine key (fun o => Res _ _ _ _ o.done) (fun h ρ st ns e1 e2 => ⟨fun _ => ⟨_, rfl, st, ns, e1, e2, ⟨fd, wd, prs, _, A.addS (by simpa using hf), rfl, by simp, ?_⟩, ?_, ?_⟩, fun q => absurd h q⟩) fun w ρ H' h e u => ⟨fun q => absurd (e.symm.trans q) h, fun _ => by rw [e]; exact ⟨_, rfl, u⟩⟩
    · intro n hn
      simp only [bRefs, List.flatMap_append, List.mem_cons, List.mem_append, List.flatMap_cons, List.flatMap_nil, List.append_nil, sRefs, List.not_mem_nil, or_false] at hn
      have hh : n ∈ bRefs b fd wd prs srs ∨ n = H.length + 2 ∨ n = H.length + 1 := by
        simp only [bRefs, List.mem_cons, List.mem_append]
        grind
      rcases hh with q | q | q
      · exact hN n q
      all_goals exact hQ n (by lia)
    · unfold addS'; simp
    · intro n hn q
      exact addS_keep hn fun e => q (e ▸ hN wd (.tail _ (.tail _ (.head _))))
  intro PG f0 f1
  unfold shifW at f0 f1
  refine p_if (x := !nameOK nm) (H₁ := H) (e_nt (e_call (l_one rfl) (isname_run C (le_t hn rfl)))) (fun h => ?_) fun h => th_nil ?_
  · have h : nameOK nm = false := by simpa using h
    rw [if_pos h] at f1
    exact f1 1 _ _ (by decide) rfl Up.refl
  have h : nameOK nm = true := by simpa using h
  rw [if_neg (by rw [h]; decide)] at f0 f1
  have ct : bopE false [(ntE (callE (R (k + 2) false) 1 [(varE 2)])), (ntE (callE (R (k + 2) false) 4 [(varE 2)]))] [some (.ref b), some (.str nm), some v, some (.ref r), none] H = .ok (.bool (!(goodV v && dayV v))) H := by
    cases hg : goodV v with
    | false => exact e_stop (c := false) (e_nt (x := false) (e_call (l_one rfl) ((stretch_any C hs).trans (by rw [hg]))))
    | true =>
      obtain ⟨st, rfl, ok⟩ := good_st hg
      exact e_bop (c := false) (e_nt (x := true) (e_call (l_one rfl) ((stretch_any C hs).trans (by rw [hg])))) (e_last (e_nt (e_call (l_one rfl) (one_day_run C))))
  refine p_if (x := !(goodV v && dayV v)) (H₁ := H) ct (fun h => ?_) fun h => th_nil ?_
  · have h : (goodV v && dayV v) = false := (Bool.not_eq_true' _).mp h
    rw [if_pos h] at f1
    exact f1 2 _ _ (by decide) rfl Up.refl
  have h : (goodV v && dayV v) = true := (Bool.not_eq_false' _).mp h
  rw [if_neg (by rw [h]; decide)] at f0 f1
  have hg : goodV v = true := by rw [Bool.and_eq_true] at h; exact h.1
  obtain ⟨st, rfl, ok⟩ := good_st hg
  have S := needs_any (k := k) C hr hx hl
  by_cases hw : ndW [] nd = 0
  case neg =>
    rw [if_pos hw] at f1
    obtain ⟨H', e, u⟩ := S.2 hw
    exact p_asgX (e_call (l_one rfl) e) (f1 _ _ _ hw rfl u)
  rw [if_neg (fun q => q hw)] at f0 f1
  obtain ⟨ns, rfl, _, _⟩ := nd_zero hw
  obtain ⟨H', e, rfl⟩ := S.1 hw
  have e1 : (ns.map intN).map (·.1) = ns.map (·.1) := by rw [List.map_map]; rfl
  have e2 : (ns.map intN).map ndAV = ns.map needAV := by rw [List.map_map]; rfl
  rw [e1, e2] at e
  refine p_asg (e_call (l_one rfl) e) ?_
  have B1 : BookAt (H ++ [.lst ((ns.map (·.1)).map .str), .lst (ns.map needAV)]) b fd wd prs srs := A.grow
  have hin : ((workD srs).any fun e => decide (e.1 = Key.str nm)) = decide (nm ∈ srs.map (·.2.name)) := by
    unfold workD; rw [in_keys]
  refine p_if (x := decide (nm ∈ srs.map (·.2.name))) (H₁ := H ++ [.lst ((ns.map (·.1)).map .str), .lst (ns.map needAV)]) (e_cmp rfl (e_attr rfl B1.book rfl) (in_dict B1.work hin)) (fun h => ?_) fun h => th_nil ?_
  · have h : nm ∈ srs.map (·.2.name) := of_decide_eq_true h
    rw [if_pos h] at f1
    exact f1 4 _ _ (by decide) rfl Up.app
  have hno := h
  have h : ¬ nm ∈ srs.map (·.2.name) := of_decide_eq_false h
  rw [if_neg h] at f0
  rw [hno] at hin
  have B2 : BookAt ((H ++ [.lst ((ns.map (·.1)).map .str), .lst (ns.map needAV)]) ++ [.inst 1 (sfs st (H.length + 1))]) b fd wd prs srs := B1.grow
  refine p_item (shift_new C (l_two rfl rfl)) (e_attr rfl B2.book rfl) rfl (set_key B2.work (by rw [work_len]; have := A.few; lia) hin) (p_nil ?_)
  have := f0 rfl [some (.ref b), some (.str nm), some (stAV st), some (.ref r), some (.ref (H.length + 1))] st ns rfl rfl
  unfold addS' at this
  rw [List.append_assoc, List.length_append]
  exact this
end
noncomputable def kpV (p : Nat × Pm) : AV := .lst [.lst (p.2.skills.map .str), .int p.2.limit, .ref p.1]
noncomputable def ksV (s : Sm) : AV := .lst [stAV s.hours, .lst (s.needs.map needAV)]
noncomputable def kpD (prs : List (Nat × Pm)) : List (Key × AV) := prs.map fun p => (Key.str p.2.name, kpV p)
noncomputable def ksD (ss : List Sm) : List (Key × AV) := ss.map fun s => (Key.str s.name, ksV s)
noncomputable def topD (kp ks : Nat) : List (Key × AV) := [(.str "people", .ref kp), (.str "shifts", .ref ks)]
structure KR (H : AH) (kk kp ks : Nat) (prs : List (Nat × Pm)) (ss : List Sm) : Prop where
  top : H[kk]? = some (.dict (topD kp ks))
  pd : dcOf H (.ref kp) = some (kp, kpD prs)
  sd : dcOf H (.ref ks) = some (ks, ksD ss)
  rs : ∀ p ∈ prs, H[p.1]? = some (.lst (p.2.rests.map stAV))
section
variable {R : Nat → Bool → FT} {k : Nat} {H : AH} {kk kp ks : Nat} {prs : List (Nat × Pm)} {ss : List Sm} {ρ : RE} {e : DE}
theorem sub_dc {m : Nat} {es : List (Key × AV)} {x : Str} {v : AV} (h : dcOf H (.ref m) = some (m, es)) (hx : es.lookup (.str x) = some v) : subA (.ref m) (.str x) H = .ok v H := by
  unfold subA
  rw [h]
  show orBad (es.lookup (.str x)) _ = _
  rw [hx]; rfl
theorem in_dc {n : Nat} {es : List (Key × AV)} {x : Str} {y : Bool} (h : dcOf H (.ref n) = some (n, es)) (hy : (es.any fun e => decide (e.1 = Key.str x)) = y) : cmpA H .In (.str x) (.ref n) = some y := by
  show inA H (.str x) (.ref n) = _
  unfold inA
  rw [h]
  exact congrArg some hy
theorem nin_dc {n : Nat} {es : List (Key × AV)} {x : Str} {y : Bool} (h : dcOf H (.ref n) = some (n, es)) (hy : (es.any fun e => decide (e.1 = Key.str x)) = y) : cmpA H .NotIn (.str x) (.ref n) = some (!y) := by
  show (inA H (.str x) (.ref n)).map (!·) = _
  rw [show inA H (.str x) (.ref n) = some y from in_dc h hy]; rfl
theorem any_keys {α : Type} {f : α → Str} {g : α → AV} {l : List α} {x : Str} : ((l.map fun p => ((Key.str (f p), g p) : Key × AV)).any fun e => decide (e.1 = Key.str x)) = decide (x ∈ l.map f) := by
  rw [Bool.eq_iff_iff]
  simp only [List.any_eq_true, List.mem_map, decide_eq_true_eq]
  constructor
  · rintro ⟨_, ⟨p, hp, rfl⟩, e⟩
    exact ⟨p, hp, by simpa using e⟩
  · rintro ⟨p, hp, rfl⟩
    exact ⟨_, ⟨p, hp, rfl⟩, rfl⟩
theorem look_keys {α : Type} {f : α → Str} {g : α → AV} {l : List α} {p : α} (hp : p ∈ l) (hn : (l.map f).Nodup) : (l.map fun p => ((Key.str (f p), g p) : Key × AV)).lookup (.str (f p)) = some (g p) := by
  induction l with
  | nil => cases hp
  | cons q r ih =>
    rw [List.map_cons, List.lookup_cons]
    rw [List.map_cons, List.nodup_cons] at hn
    cases hp with
    | head => simp
    | tail _ hp =>
      have : (Key.str (f p) == Key.str (f q)) = false := by
        rw [beq_eq_false_iff_ne]
        intro e
        exact hn.1 (List.mem_map.mpr ⟨p, hp, by simpa using e⟩)
      rw [this]
      exact ih hp hn.2
theorem kp_any {x : Str} : ((kpD prs).any fun e => decide (e.1 = Key.str x)) = decide (x ∈ prs.map (·.2.name)) := any_keys (f := fun p : Nat × Pm => p.2.name) (g := kpV)
theorem ks_any {x : Str} : ((ksD ss).any fun e => decide (e.1 = Key.str x)) = decide (x ∈ ss.map (·.name)) := any_keys (f := fun s : Sm => s.name) (g := ksV)
theorem KR.people (K : KR H kk kp ks prs ss) (he : e ρ H = .ok (.ref kk) H) : subE e (cstE (.str "people")) ρ H = .ok (.ref kp) H := e_sub he rfl (sub_key K.top rfl)
theorem KR.shifts (K : KR H kk kp ks prs ss) (he : e ρ H = .ok (.ref kk) H) : subE e (cstE (.str "shifts")) ρ H = .ok (.ref ks) H := e_sub he rfl (sub_key K.top rfl)
theorem spanD {x : Int} {j : Nat} {v : AV} (h : (span 0 x)[j]? = some v) : ∃ D : Int, v = .int D ∧ 0 ≤ D ∧ D.toNat = j ∧ D < x := by
  unfold span at h
  obtain ⟨hl, e⟩ := List.getElem?_eq_some_iff.mp h
  rw [List.getElem_map, List.getElem_range] at e
  rw [List.length_map, List.length_range] at hl
  exact ⟨0 + (j : Int), e.symm, by lia, by lia, by lia⟩
theorem span_l {x : Int} : (span 0 x).length = x.toNat := by unfold span; simp
theorem e_if {t a b : DE} {x : Bool} {o : Out AV} (h : t ρ H = .ok (.bool x) H) (h1 : x = true → a ρ H = o) (h2 : x = false → b ρ H = o) : ifeE t a b ρ H = o := by
  unfold ifeE
  rw [h]
  cases x with
  | true => exact h1 rfl
  | false => exact h2 rfl
theorem pword_run (W : Law05 R) (K : KR H kk kp ks prs ss) {nm : Str} {sk : List Str} {lim : AV} (hn : nmG nm = true) (hx : ∀ x ∈ sk, nmG x = true) (hl : sk.length ≤ 100) (hs : Sc lim) :
    R (k + 2) false 54 [.ref kk, .str nm, .lst (sk.map .str), lim] H = .ok (.str (word (persW (prs.map (·.2.name)) nm sk lim))) H := by
  rw [W.l_pword _ _ _ _ rfl]
  refine via fun PG fin => ?_
  unfold persW at fin
  obtain ⟨n1, n2, _⟩ := nmG_ok hn
  refine p_if (x := !nameOK nm) (H₁ := H) (e_nt (e_call (l_one rfl) ((lname_run W (le_t n2 rfl)).trans (by rw [n1])))) (fun h => ?_) fun h => th_nil ?_
  · have h : nameOK nm = false := by simpa using h
    rw [if_pos h] at fin
    exact p_ret (P := Th _ _) rfl fin
  have h : nameOK nm = true := by simpa using h
  rw [if_neg (by rw [h]; decide)] at fin
  have hlen : biA false .len [.lst (sk.map .str)] H = .ok (.int sk.length) H := by
    have := IsL.len (N := 0) (H := H) (a := .lst (sk.map .str)) (.inl rfl) (by rw [List.length_map]; lia)
    rw [List.length_map] at this; exact this
  generalize hL : (sk.length : Int) = L at hlen
  refine p_for (a := .rng 0 L) (H₁ := H) (xs := span 0 L) (n := L.toNat) (e_bi (l_one (e_bi (l_one rfl) hlen)) rfl) (range_src (by lia) (by lia)) span_l.symm
    (fun j ρ H' => A3 (H' = H) (skW [] sk = skW (sk.take j) (sk.drop j)) (∃ o, ρ = [some (.ref kk), some (.str nm), some (.lst (sk.map .str)), some lim, o])) ⟨rfl, rfl, _, rfl⟩ ?_ ?_
  · rintro J j v ρ H' hv ⟨rfl, hw, o, rfl⟩ hJ
    obtain ⟨D, rfl, d0, dj, dL⟩ := spanD hv
    have hjl : j < sk.length := by lia
    have hj : sk[j]? = some sk[j] := List.getElem?_eq_getElem hjl
    have hm : sk[j] ∈ sk := List.getElem_mem _
    generalize sk[j] = x at hj hm
    rw [sk_step hj] at hw
    obtain ⟨x1, x2, _⟩ := nmG_ok (hx x hm)
    have hD : (sk.map AV.str)[D.toNat]? = some (.str x) := by rw [dj, List.getElem?_map, hj]; rfl
    have get : subA (.lst (sk.map .str)) (.int D) H' = .ok (.str x) H' := subL d0 hD (by rw [List.length_map]; lia)
    show Nx _ _ ((_ : DS) [some (.ref kk), some (.str nm), some (.lst (sk.map .str)), some lim, some (.int D)] _)
    refine p_if (x := !nameOK x) (H₁ := H') (e_nt (e_call (l_one (e_sub rfl rfl get)) ((lname_run W (le_t x2 rfl)).trans (by rw [x1])))) (fun h => ?_) fun h => th_nil ?_
    · have h : nameOK x = false := by simpa using h
      rw [if_pos h] at hw
      rw [hw] at fin
      exact p_ret (P := Th _ _) rfl fin
    have h : nameOK x = true := by simpa using h
    rw [if_neg (by rw [h]; decide)] at hw
    have cutD : slcA false (.lst (sk.map .str)) .none (.int D) .none H' = .ok (.lst ((sk.take j).map .str)) H' := by
      rw [slc_to d0 (by rw [List.length_map]; lia) (by rw [List.length_map]; lia), dj, List.map_take]
    refine p_if (x := decide (x ∈ sk.take j)) (H₁ := H') (e_cmp (e_sub rfl rfl get) (e_slc rfl rfl rfl rfl cutD) (in_strs rfl rfl)) (fun h => ?_) fun h => th_next ?_
    · have h : x ∈ sk.take j := by simpa using h
      rw [if_pos h] at hw
      rw [hw] at fin
      exact p_ret (P := Th _ _) rfl fin
    have h : ¬ x ∈ sk.take j := by simpa using h
    rw [if_neg h] at hw
    exact hJ _ _ ⟨rfl, hw, _, rfl⟩
  · rintro ρ H' ⟨rfl, hw, o, rfl⟩
    rw [span_l, show L.toNat = sk.length by lia, List.take_length, List.drop_length] at hw
    rw [show skW [] sk = 0 from hw, if_neg (fun q => q rfl)] at fin
    refine p_if (x := !numOK lim 31) (H₁ := H') (e_nt (e_call (l_two rfl rfl) (counted_run W hs))) (fun h => ?_) fun h => th_nil ?_
    · have h : numOK lim 31 = false := by simpa using h
      rw [if_pos h] at fin
      exact p_ret (P := Th _ _) rfl fin
    have h : numOK lim 31 = true := by simpa using h
    rw [if_neg (by rw [h]; decide)] at fin
    refine p_ret (a := .str (word (if nm ∈ prs.map (·.2.name) then 4 else 0))) (H₁ := H') (e_if (x := decide (nm ∈ prs.map (·.2.name))) (e_cmp rfl (K.people rfl) (in_dc K.pd kp_any)) (fun h => ?_) fun h => ?_) fin
    · rw [if_pos (of_decide_eq_true h)]; rfl
    · rw [if_neg (of_decide_eq_false h)]; rfl
theorem day_eq {st : Int × Int} (h : stOK st = true) : decide (st.1 / 24 * 24 + 24 < st.2) = !dayOK st := by
  unfold stOK at h
  simp only [Bool.and_eq_true, decide_eq_true_eq] at h
  unfold dayOK
  rw [← decide_not]
  congr 1
  exact propext (by lia)
theorem sword_run (W : Law05 R) (K : KR H kk kp ks prs ss) {nm : Str} {v : AV} {nd : List (Str × AV)} (hn : nmG nm = true) (hx : ∀ x ∈ nd, nmG x.1 = true ∧ Sc x.2) (hl : nd.length ≤ 100) (hs : Sv v) :
    R (k + 3) false 55 [.ref kk, .str nm, v, .lst (nd.map ndAV)] H = .ok (.str (word (shifW (ss.map (·.name)) nm v nd))) H := by
  rw [W.l_sword _ _ _ _ rfl]
  refine via fun PG fin => ?_
  unfold shifW at fin
  obtain ⟨n1, n2, _⟩ := nmG_ok hn
  refine p_if (x := !nameOK nm) (H₁ := H) (e_nt (e_call (l_one rfl) ((lname_run W (le_t n2 rfl)).trans (by rw [n1])))) (fun h => ?_) fun h => th_nil ?_
  · have h : nameOK nm = false := by simpa using h
    rw [if_pos h] at fin
    exact p_ret (P := Th _ _) rfl fin
  have h : nameOK nm = true := by simpa using h
  rw [if_neg (by rw [h]; decide)] at fin
  have ct : bopE false [(ntE (callE (R (k + 2) false) 53 [(varE 2)])), (cmpE (subE (varE 2) (cstE (.int 1))) [.Gt] [(binE false .Add (binE false .Mult (binE false .FloorDiv (subE (varE 2) (cstE (.int 0))) (cstE (.int 24))) (cstE (.int 24))) (cstE (.int 24)))])] [some (.ref kk), some (.str nm), some v, some (.lst (nd.map ndAV)), none] H = .ok (.bool (!(goodV v && dayV v))) H := by
    cases hg : goodV v with
    | false => exact e_stop (c := false) (e_nt (x := false) (e_call (l_one rfl) ((good_run W hs).trans (by rw [hg]))))
    | true =>
      obtain ⟨st, rfl, ok⟩ := good_st hg
      refine e_bop (c := false) (e_nt (x := true) (e_call (l_one rfl) ((good_run W hs).trans (by rw [hg])))) (e_last ((e_cmp (x := decide (st.1 / 24 * 24 + 24 < st.2)) (e_sub rfl rfl sub2_1) (e_bin (e_bin (e_bin (e_sub rfl rfl sub2_0) rfl (div_ok (by decide))) rfl (mulI (.inr (by decide)))) rfl addI) rfl).trans ?_))
      rw [day_eq ok]; rfl
  refine p_if (x := !(goodV v && dayV v)) (H₁ := H) ct (fun h => ?_) fun h => th_nil ?_
  · have h : (goodV v && dayV v) = false := (Bool.not_eq_true' _).mp h
    rw [if_pos h] at fin
    exact p_ret (P := Th _ _) rfl fin
  have h : (goodV v && dayV v) = true := (Bool.not_eq_false' _).mp h
  rw [if_neg (by rw [h]; decide)] at fin
  have hlen : biA false .len [.lst (nd.map ndAV)] H = .ok (.int nd.length) H := by
    have := IsL.len (N := 0) (H := H) (a := .lst (nd.map ndAV)) (.inl rfl) (by rw [List.length_map]; lia)
    rw [List.length_map] at this; exact this
  generalize hL : (nd.length : Int) = L at hlen
  refine p_for (a := .rng 0 L) (H₁ := H) (xs := span 0 L) (n := L.toNat) (e_bi (l_one (e_bi (l_one rfl) hlen)) rfl) (range_src (by lia) (by lia)) span_l.symm
    (fun j ρ H' => A3 (H' = H) (ndW [] nd = ndW ((nd.map (·.1)).take j) (nd.drop j)) (∃ o, ρ = [some (.ref kk), some (.str nm), some v, some (.lst (nd.map ndAV)), o])) ⟨rfl, rfl, _, rfl⟩ ?_ ?_
  · rintro J j u ρ H' hv ⟨rfl, hw, o, rfl⟩ hJ
    obtain ⟨D, rfl, d0, dj, dL⟩ := spanD hv
    have hjl : j < nd.length := by lia
    have hj : nd[j]? = some nd[j] := List.getElem?_eq_getElem hjl
    have hm : nd[j] ∈ nd := List.getElem_mem _
    generalize nd[j] = x at hj hm
    rw [nd_step hj] at hw
    obtain ⟨x1, x2, _⟩ := nmG_ok (hx x hm).1
    have hD : (nd.map ndAV)[D.toNat]? = some (ndAV x) := by rw [dj, List.getElem?_map, hj]; rfl
    have get : subA (.lst (nd.map ndAV)) (.int D) H' = .ok (ndAV x) H' := subL d0 hD (by rw [List.length_map]; lia)
    show Nx _ _ ((_ : DS) [some (.ref kk), some (.str nm), some v, some (.lst (nd.map ndAV)), some (.int D)] _)
    refine p_if (x := !nameOK x.1) (H₁ := H') (e_nt (e_call (l_one (e_sub (e_sub rfl rfl get) rfl sub2_0)) ((lname_run W (le_t x2 rfl)).trans (by rw [x1])))) (fun h => ?_) fun h => th_nil ?_
    · have h : nameOK x.1 = false := by simpa using h
      rw [if_pos h] at hw
      rw [hw] at fin
      exact p_ret (P := Th _ _) rfl fin
    have h : nameOK x.1 = true := by simpa using h
    rw [if_neg (by rw [h]; decide)] at hw
    have cutD : slcA false (.lst (nd.map ndAV)) .none (.int D) .none H' = .ok (.lst ((nd.take j).map ndAV)) H' := by
      rw [slc_to d0 (by rw [List.length_map]; lia) (by rw [List.length_map]; lia), dj, List.map_take]
    refine p_if (x := decide (x.1 ∈ (nd.map (·.1)).take j)) (H₁ := H') (e_cmp (e_sub (e_sub rfl rfl get) rfl sub2_0) (e_mapF (l := nd.take j) (fx := ndAV) (fy := fun n => .str n.1) (e_slc rfl rfl rfl rfl cutD) (.inl rfl) (by rw [List.length_take]; lia) (fun y _ => e_sub (var_new rfl) rfl sub2_0) rfl) (in_strs rfl (by rw [← List.map_take, List.map_map]; rfl))) (fun h => ?_) fun h => th_nil ?_
    · have h : x.1 ∈ (nd.map (·.1)).take j := of_decide_eq_true h
      rw [if_pos h] at hw
      rw [hw] at fin
      exact p_ret (P := Th _ _) rfl fin
    have h : ¬ x.1 ∈ (nd.map (·.1)).take j := of_decide_eq_false h
    rw [if_neg h] at hw
    refine p_if (x := !numOK x.2 9) (H₁ := H') (e_nt (e_call (l_two (e_sub (e_sub rfl rfl get) rfl sub2_1) rfl) (counted_run W (hx x hm).2))) (fun h => ?_) fun h => th_next ?_
    · have h : numOK x.2 9 = false := by simpa using h
      rw [if_pos h] at hw
      rw [hw] at fin
      exact p_ret (P := Th _ _) rfl fin
    have h : numOK x.2 9 = true := by simpa using h
    rw [if_neg (by rw [h]; decide)] at hw
    exact hJ _ _ ⟨rfl, hw, _, rfl⟩
  · rintro ρ H' ⟨rfl, hw, o, rfl⟩
    rw [span_l, show L.toNat = nd.length by lia, List.drop_length] at hw
    rw [show ndW [] nd = 0 from hw, if_neg (fun q => q rfl)] at fin
    refine p_ret (a := .str (word (if nm ∈ ss.map (·.name) then 4 else 0))) (H₁ := H') (e_if (x := decide (nm ∈ ss.map (·.name))) (e_cmp rfl (K.shifts rfl) (in_dc K.sd ks_any)) (fun h => ?_) fun h => ?_) fin
    · rw [if_pos (of_decide_eq_true h)]; rfl
    · rw [if_neg (of_decide_eq_false h)]; rfl
end
noncomputable def mthN (way : Int) : Nat := if way = 0 then 13 else if way = 1 then 14 else 15
noncomputable def mthA (way : Int) (b : Nat) (nm : Str) (one two : AV) : List AV := if way = 1 then [.ref b, .str nm, one] else [.ref b, .str nm, one, two]
section
variable {R : Nat → Bool → FT} {k b w : Nat} {H : AH} {way : Int} {nm : Str} {one two : AV} {K : AH → Prop} {ρ : RE} {r : List DS} {PG : OutS → Prop}
theorem body_P {fs : List (Option AV)} (hb : H[b]? = some (.inst 2 fs)) (hw : way = 0 ∨ way = 1 ∨ way = 2) (S : Res w .none H K (R k false (mthN way) (mthA way b nm one two) H))
    (h0 : ρ[0]? = some (some (.ref b))) (h1 : ρ[1]? = some (some (.int way))) (h2 : ρ[2]? = some (some (.str nm))) (h3 : ρ[3]? = some (some one)) (h4 : ρ[4]? = some (some two))
    (f0 : ∀ H', w = 0 → K H' → PG (seqS r ρ H')) (f1 : ∀ H', w ≠ 0 → Up H.length H H' → PG (.exc w ρ H')) :
    PG (seqS (ifS (cmpE (varE 1) [.Eq] [(cstE (.int 0))]) (seqS [exprS (moE gmC (R k false) 1 (varE 0) [(varE 2), (varE 3), (varE 4)])]) (d05_l_tried_b1 (R k) false) :: r) ρ H) := by
  by_cases hz : w = 0
  · obtain ⟨H', e, q⟩ := S.1 hz
    rcases hw with rfl | rfl | rfl
    · exact p_if (x := true) (H₁ := H) (e_cmp (e_var h1) rfl rfl) (fun _ => p_expr (P := Th _ _) (e_mo (e_var h0) hb (i := 13) rfl (l_three (e_var h2) (e_var h3) (e_var h4)) e) (th_nil (f0 _ hz q))) fun q => nomatch q
    · refine p_if (x := false) (H₁ := H) (e_cmp (e_var h1) rfl rfl) (fun q => nomatch q) fun _ => ?_
      exact p_if (P := Th _ _) (x := true) (H₁ := H) (e_cmp (e_var h1) rfl rfl) (fun _ => p_expr (P := Th _ _) (e_mo (e_var h0) hb (i := 14) rfl (l_two (e_var h2) (e_var h3)) e) (th_nil (th_nil (f0 _ hz q)))) fun q => nomatch q
    · refine p_if (x := false) (H₁ := H) (e_cmp (e_var h1) rfl rfl) (fun q => nomatch q) fun _ => ?_
      exact p_if (P := Th _ _) (x := false) (H₁ := H) (e_cmp (e_var h1) rfl rfl) (fun q => nomatch q) fun _ => p_expr (P := Th _ _) (e_mo (e_var h0) hb (i := 15) rfl (l_three (e_var h2) (e_var h3) (e_var h4)) e) (th_nil (th_nil (f0 _ hz q)))
  · obtain ⟨H', e, q⟩ := S.2 hz
    rcases hw with rfl | rfl | rfl
    · exact p_if (x := true) (H₁ := H) (e_cmp (e_var h1) rfl rfl) (fun _ => p_exprX (P := Th _ _) (e_mo (e_var h0) hb (i := 13) rfl (l_three (e_var h2) (e_var h3) (e_var h4)) e) (f1 _ hz q)) fun q => nomatch q
    · refine p_if (x := false) (H₁ := H) (e_cmp (e_var h1) rfl rfl) (fun q => nomatch q) fun _ => ?_
      exact p_if (P := Th _ _) (x := true) (H₁ := H) (e_cmp (e_var h1) rfl rfl) (fun _ => p_exprX (P := Th _ _) (e_mo (e_var h0) hb (i := 14) rfl (l_two (e_var h2) (e_var h3)) e) (f1 _ hz q)) fun q => nomatch q
    · refine p_if (x := false) (H₁ := H) (e_cmp (e_var h1) rfl rfl) (fun q => nomatch q) fun _ => ?_
      exact p_if (P := Th _ _) (x := false) (H₁ := H) (e_cmp (e_var h1) rfl rfl) (fun q => nomatch q) fun _ => p_exprX (P := Th _ _) (e_mo (e_var h0) hb (i := 15) rfl (l_three (e_var h2) (e_var h3) (e_var h4)) e) (f1 _ hz q)
theorem p_try {bd : DS} {hs : List DH} (q : ∀ P : OutS → Prop, (∀ ρ' H', PG ((OutS.next ρ' H').then (seqS r)) → P (.next ρ' H')) → (∀ a H', PG (.ret a H') → P (.ret a H')) → (∀ c ρ' H', PG ((handS gmC hs c ρ' H').then (seqS r)) → P (.exc c ρ' H')) → P (bd ρ H)) : PG (seqS (tryS false gmC bd hs :: r) ρ H) := by
  show PG ((tryS false gmC bd hs ρ H).then (seqS r))
  unfold tryS
  rw [if_neg (by decide)]
  exact q (fun o => PG ((match o with | .exc c ρ₁ H₁ => handS gmC hs c ρ₁ H₁ | o => o).then (seqS r))) (fun _ _ h => h) (fun _ _ h => h) fun _ _ _ h => h
theorem tried_run (W : Law05 R) {fs : List (Option AV)} (hb : H[b]? = some (.inst 2 fs)) (hw : way = 0 ∨ way = 1 ∨ way = 2) (h5 : w ≤ 5) (S : Res w .none H K (R (k + 1) false (mthN way) (mthA way b nm one two) H)) :
    (w = 0 → ∃ H', R (k + 2) false 57 [.ref b, .int way, .str nm, one, two] H = .ok (.str "") H' ∧ K H') ∧ (w ≠ 0 → ∃ H', R (k + 2) false 57 [.ref b, .int way, .str nm, one, two] H = .ok (.str (word w)) H' ∧ Up H.length H H') := by
  rw [W.l_tried _ _ _ _ rfl]
  suffices key : ∀ PG : OutS → Prop, (∀ H', w = 0 → K H' → PG (.ret (.str "") H')) → (∀ H', w ≠ 0 → Up H.length H H' → PG (.ret (.str (word w)) H')) → PG (d05_l_tried (R (k + 1)) false (rho0 [.ref b, .int way, .str nm, one, two] 6) H) by
    refine key (fun o => (w = 0 → ∃ H', o.done = .ok (.str "") H' ∧ K H') ∧ (w ≠ 0 → ∃ H', o.done = .ok (.str (word w)) H' ∧ Up H.length H H')) (fun H' h q => ⟨fun _ => ⟨H', rfl, q⟩, fun z => absurd h z⟩) fun H' h q => ⟨fun z => absurd z h, fun _ => ⟨H', rfl, q⟩⟩
  intro PG f0 f1
  refine p_try (r := [retS (cstE (.str ""))]) fun P n1 n2 n3 => ?_
  refine body_P (r := []) (ρ := [some (.ref b), some (.int way), some (.str nm), some one, some two, none]) (k := k + 1) hb hw S rfl rfl rfl rfl rfl (fun H' h q => n1 _ _ (f0 H' h q)) fun H' h u => n3 _ _ _ ?_
  have e := word_run (k := k) (H := H') W w h h5
  have q := f1 H' h u
  have e2 : (handS gmC [(0, some 5, (seqS [retS (callE (R (k + 1) true) 56 [(varE 5)])]))] w [some (.ref b), some (.int way), some (.str nm), some one, some two, none] H') = .ret (.str (word w)) H' := by
    have e3 : (seqS [retS (callE (R (k + 1) true) 56 [(varE 5)])]) [some (.ref b), some (.int way), some (.str nm), some one, some two, some (.exc w)] H' = .ret (.str (word w)) H' := s_ret (e_call (l_one rfl) e)
    have up : ∃ l, gmC.up[w]? = some l ∧ (l.any fun x => decide (x = 0)) = true := by
      match w, h5 with
      | 0, _ => exact ⟨_, rfl, rfl⟩
      | 1, _ => exact ⟨_, rfl, rfl⟩
      | 2, _ => exact ⟨_, rfl, rfl⟩
      | 3, _ => exact ⟨_, rfl, rfl⟩
      | 4, _ => exact ⟨_, rfl, rfl⟩
      | 5, _ => exact ⟨_, rfl, rfl⟩
    obtain ⟨l, u1, u2⟩ := up
    show orBadS (gmC.up[w]?) _ = _
    rw [u1]
    show (if (l.any fun x => decide (x = 0)) = true then dropJ (some 5) ((seqS [retS (callE (R (k + 1) true) 56 [(varE 5)])]) [some (.ref b), some (.int way), some (.str nm), some one, some two, some (.exc w)] H') else _) = _
    rw [if_pos u2, e3]; rfl
  show PG (OutS.then (handS _ _ _ _ _) _)
  rw [e2]
  exact q
theorem bare_run (W : Law05 R) {fs : List (Option AV)} (hb : H[b]? = some (.inst 2 fs)) (hw : way = 0 ∨ way = 1 ∨ way = 2) (S : Res w .none H K (R (k + 1) false (mthN way) (mthA way b nm one two) H)) :
    Res w (.str "") H K (R (k + 2) false 59 [.ref b, .int way, .str nm, one, two] H) := by
  rw [W.l_bare _ _ _ _ rfl]
  suffices key : ∀ PG : OutS → Prop, (∀ H', w = 0 → K H' → PG (.ret (.str "") H')) → (∀ ρ H', w ≠ 0 → Up H.length H H' → PG (.exc w ρ H')) → PG (d05_l_tried_bare (R (k + 1)) false (rho0 [.ref b, .int way, .str nm, one, two] 5) H) by
    refine key (fun o => Res _ _ _ _ o.done) (fun H' h q => ⟨fun _ => ⟨H', rfl, q⟩, fun z => absurd h z⟩) fun ρ H' h q => ⟨fun z => absurd z h, fun _ => ⟨H', rfl, q⟩⟩
  intro PG f0 f1
  exact body_P (r := [retS (cstE (.str ""))]) (ρ := [some (.ref b), some (.int way), some (.str nm), some one, some two]) (k := k + 1) hb hw S rfl rfl rfl rfl rfl (fun H' h q => p_ret rfl (f0 H' h q)) fun H' h u => f1 _ _ h u
theorem caught_run (W : Law05 R) {fs : List (Option AV)} (hb : H[b]? = some (.inst 2 fs)) (hw : way = 0 ∨ way = 1 ∨ way = 2) (h0 : w ≠ 0) (h5 : w ≤ 5) (S : Res w .none H K (R (k + 1) false (mthN way) (mthA way b nm one two) H)) :
    ∃ H', R (k + 3) false 58 [.ref b, .int way, .str nm, one, two] H = .ok (.str (word w)) H' ∧ Up H.length H H' := by
  rw [W.l_caught _ _ _ _ rfl]
  obtain ⟨H', e, u⟩ := (bare_run (k := k) W hb hw S).2 h0
  refine ⟨H', ?_, u⟩
  refine via fun PG fin => ?_
  refine p_try (r := []) fun P n1 n2 n3 => ?_
  have e1 : (seqS [retS (callE (R (k + 2) false) 59 [(varE 0), (varE 1), (varE 2), (varE 3), (varE 4)])]) [some (.ref b), some (.int way), some (.str nm), some one, some two] H = .exc w [some (.ref b), some (.int way), some (.str nm), some one, some two] H' := by
    show ((retS _ _ _).then _) = _
    unfold retS
    rw [e_call (o := .exc w H') (l_cons rfl (l_cons rfl (l_three rfl rfl rfl))) e]; rfl
  show P ((_ : DS) [some (.ref b), some (.int way), some (.str nm), some one, some two] H)
  rw [e1]
  refine n3 _ _ _ ?_
  clear e1 e S
  match w, h0, h5 with
  | 0, h0, _ => exact absurd rfl h0
  | 1, _, _ => exact fin
  | 2, _, _ => exact fin
  | 3, _, _ => exact fin
  | 4, _, _ => exact fin
  | 5, _, _ => exact fin
end
section
variable {n : Nat} {ps : List Pm} {ss : List Sm}
theorem persW_zero {ns : List Str} {nm : Str} {sk : List Str} {lim : AV} (h : persW ns nm sk lim = 0) : numOK lim 31 = true ∧ nm ∉ ns := by
  unfold persW at h
  split at h
  · cases h
  · split at h
    · exact absurd h ‹_›
    · split at h
      · cases h
      · split at h
        · cases h
        · exact ⟨by simpa using ‹¬ numOK lim 31 = false›, ‹_›⟩
theorem shifW_zero {ns : List Str} {nm : Str} {v : AV} {nd : List (Str × AV)} (h : shifW ns nm v nd = 0) : ndW [] nd = 0 ∧ nm ∉ ns := by
  unfold shifW at h
  split at h
  · cases h
  · split at h
    · cases h
    · split at h
      · exact absurd h ‹_›
      · split at h
        · cases h
        · exact ⟨by simpa using ‹¬ ndW [] nd ≠ 0›, ‹_›⟩
theorem persW_le (ns : List Str) (nm : Str) (sk : List Str) (lim : AV) : persW ns nm sk lim ≤ 5 := by
  unfold persW
  have := skW_le sk []
  split
  · decide
  · split
    · exact this
    · split
      · decide
      · split <;> decide
theorem shifW_le (ns : List Str) (nm : Str) (v : AV) (nd : List (Str × AV)) : shifW ns nm v nd ≤ 5 := by
  unfold shifW
  have := ndW_le nd []
  split
  · decide
  · split
    · decide
    · split
      · exact this
      · split <;> decide
theorem restW_le (ns : List Str) (nm : Str) (v : AV) : restW ns nm v ≤ 5 := by
  unfold restW
  split
  · split <;> decide
  · decide
theorem Good.more (G : Good n ps ss) (h : n < 100) : Good (n + 1) ps ss :=
  ⟨G.pn, G.sn, G.nf, G.nn, h, Nat.le_succ_of_le G.pf, Nat.le_succ_of_le G.sf, fun p hp => Nat.le_succ_of_le (G.rf p hp), G.kf, G.lm, G.cn, G.nob, G.nev, G.nsk⟩
theorem mem_snoc {α : Type} {l : List α} {x y : α} : y ∈ l ++ [x] ↔ y ∈ l ∨ y = x := by simp
theorem nodup_snoc {l : List Str} {x : Str} (h : l.Nodup) (hx : x ∉ l) : (l ++ [x]).Nodup := by
  rw [List.nodup_append]
  refine ⟨h, by simp, fun a ha b hb e => hx ?_⟩
  rw [List.mem_singleton] at hb
  rw [← hb, ← e]; exact ha
theorem Good.addP (G : Good n ps ss) (h : n < 100) {nm : Str} {sk : List Str} {l : Int} (hw : persW (ps.map (·.name)) nm sk (.int l) = 0) (hn : nmG nm = true) (hk : sk.length ≤ 6) : Good (n + 1) (ps ++ [⟨nm, sk, l, []⟩]) ss := by
  obtain ⟨h1, h2⟩ := persW_zero hw
  simp only [numOK, Bool.and_eq_true, decide_eq_true_eq] at h1
  refine ⟨by rw [List.map_append]; exact nodup_snoc G.pn h2, G.sn, G.nf, G.nn, h, by rw [List.length_append]; exact Nat.succ_le_succ G.pf, Nat.le_succ_of_le G.sf, fun p hp => ?_, fun p hp => ?_, fun p hp => ?_, G.cn, ?_, G.nev, G.nsk⟩
  · rcases mem_snoc.mp hp with hp | rfl
    · exact Nat.le_succ_of_le (G.rf p hp)
    · exact Nat.zero_le _
  · rcases mem_snoc.mp hp with hp | rfl
    · exact G.kf p hp
    · exact hk
  · rcases mem_snoc.mp hp with hp | rfl
    · exact G.lm p hp
    · exact h1
  · rw [List.map_append]
    intro q
    rcases mem_snoc.mp q with q | q
    · exact G.nob q
    · exact (nmG_ok hn).2.2.2 q.symm
theorem Good.addS (G : Good n ps ss) (h : n < 100) {nm : Str} {st : Int × Int} {v : AV} {ns : List (Str × Int)} (hw : shifW (ss.map (·.name)) nm v (ns.map intN) = 0) (hn : nmG nm = true) (hx : ∀ x ∈ ns.map intN, nmG x.1 = true ∧ Sc x.2) (hk : ns.length ≤ 6) : Good (n + 1) ps (ss ++ [⟨nm, st, ns⟩]) := by
  obtain ⟨h1, h2⟩ := shifW_zero hw
  obtain ⟨ns0, e, h3, h4⟩ := nd_zero h1
  have : ns = ns0 := by
    refine (List.map_inj_right (f := intN) ?_).mp e
    rintro ⟨a, b⟩ ⟨c, d⟩ q
    unfold intN at q
    cases q; rfl
  subst this
  refine ⟨G.pn, by rw [List.map_append]; exact nodup_snoc G.sn h2, fun s hs => ?_, fun s hs => ?_, h, Nat.le_succ_of_le G.pf, by rw [List.length_append]; exact Nat.succ_le_succ G.sf, fun p hp => Nat.le_succ_of_le (G.rf p hp), G.kf, G.lm, fun s hs => ?_, G.nob, ?_, fun s hs => ?_⟩
  · rcases mem_snoc.mp hs with hs | rfl
    · exact G.nf s hs
    · exact hk
  · rcases mem_snoc.mp hs with hs | rfl
    · exact G.nn s hs
    · exact h4
  · rcases mem_snoc.mp hs with hs | rfl
    · exact G.cn s hs
    · exact fun m hm => (h3 m hm).2.2
  · rw [List.map_append]
    intro q
    rcases mem_snoc.mp q with q | q
    · exact G.nev q
    · exact (nmG_ok hn).2.2.1 q.symm
  · rcases mem_snoc.mp hs with hs | rfl
    · exact G.nsk s hs
    · intro q
      refine x1_2 (List.mem_map.mp q) fun m hm e => ?_
      exact (nmG_ok (hx (intN m) (List.mem_map_of_mem hm)).1).2.2.1 e
theorem mem_set' {α : Type} {l : List α} {i : Nat} {x y : α} (h : y ∈ l.set i x) : y ∈ l ∨ y = x := List.mem_or_eq_of_mem_set h
theorem Good.rest (G : Good n ps ss) (h : n < 100) {i : Nat} {p : Pm} {st : Int × Int} (hi : ps[i]? = some p) : Good (n + 1) (ps.set i { p with rests := p.rests ++ [st] }) ss := by
  have hp := List.mem_of_getElem? hi
  have e : (ps.set i { p with rests := p.rests ++ [st] }).map (·.name) = ps.map (·.name) := map_set_same hi rfl
  refine ⟨by rw [e]; exact G.pn, G.sn, G.nf, G.nn, h, by rw [List.length_set]; exact Nat.le_succ_of_le G.pf, Nat.le_succ_of_le G.sf, fun q hq => ?_, fun q hq => ?_, fun q hq => ?_, G.cn, by rw [e]; exact G.nob, G.nev, G.nsk⟩
  · rcases mem_set' hq with hq | rfl
    · exact Nat.le_succ_of_le (G.rf q hq)
    · show (p.rests ++ [st]).length ≤ _
      rw [List.length_append]; exact Nat.succ_le_succ (G.rf p hp)
  · rcases mem_set' hq with hq | rfl
    · exact G.kf q hq
    · exact G.kf p hp
  · rcases mem_set' hq with hq | rfl
    · exact G.lm q hq
    · exact G.lm p hp
end
structure KeptAt (H : AH) (kk kp ks : Nat) (prs : List (Nat × Pm)) (ss : List Sm) : Prop where
  top : H[kk]? = some (.dict (topD kp ks))
  pd : H[kp]? = some (.dict (kpD prs))
  sd : H[ks]? = some (.dict (ksD ss))
  rs : ∀ p ∈ prs, H[p.1]? = some (.lst (p.2.rests.map stAV))
  nodup : (kk :: kp :: ks :: prs.map (·.1)).Nodup
structure KeptQ (Q : Nat → Prop) (H : AH) (kk : Nat) (ps : List Pm) (ss : List Sm) : Prop where
  ex : ∃ kp ks prs, KeptAt H kk kp ks prs ss ∧ prs.map (·.2) = ps ∧ ∀ n ∈ kk :: kp :: ks :: prs.map (·.1), Q n
section
variable {H H' : AH} {kk kp ks b : Nat} {prs : List (Nat × Pm)} {ps : List Pm} {ss : List Sm} {Q Q' : Nat → Prop} {ρ : RE} {PG : OutS → Prop} {r : List DS}
theorem KeptAt.kr (K : KeptAt H kk kp ks prs ss) : KR H kk kp ks prs ss := ⟨K.top, dc_at K.pd, dc_at K.sd, K.rs⟩
theorem KeptAt.lt (K : KeptAt H kk kp ks prs ss) : ∀ n ∈ kk :: kp :: ks :: prs.map (·.1), n < H.length := by
  have g : ∀ {n : Nat} {o : AO}, H[n]? = some o → n < H.length := fun h => (List.getElem?_eq_some_iff.mp h).1
  intro n hn
  rcases List.mem_cons.mp hn with rfl | hn
  · exact g K.top
  rcases List.mem_cons.mp hn with rfl | hn
  · exact g K.pd
  rcases List.mem_cons.mp hn with rfl | hn
  · exact g K.sd
  refine x1_2 (List.mem_map.mp hn) fun p hp e => ?_
  rw [← e]; exact g (K.rs p hp)
theorem KeptAt.frame (K : KeptAt H kk kp ks prs ss) (h : ∀ n ∈ kk :: kp :: ks :: prs.map (·.1), H'[n]? = H[n]?) : KeptAt H' kk kp ks prs ss :=
  ⟨(h _ (.head _)).trans K.top, (h _ (.tail _ (.head _))).trans K.pd, (h _ (.tail _ (.tail _ (.head _)))).trans K.sd, fun p hp => (h _ (.tail _ (.tail _ (.tail _ (List.mem_map_of_mem hp))))).trans (K.rs p hp), K.nodup⟩
theorem KeptQ.frame (K : KeptQ Q H kk ps ss) (h : ∀ n, Q n → n < H.length → H'[n]? = H[n]?) : KeptQ Q H' kk ps ss := by
  refine x3_3 (K.ex) fun kp ks prs A e hQ => ?_
  exact ⟨kp, ks, prs, A.frame fun n hn => h n (hQ n hn) (A.lt n hn), e, hQ⟩
theorem KeptQ.up (K : KeptQ Q H kk ps ss) (h : Up H.length H H') : KeptQ Q H' kk ps ss := K.frame fun n _ hn => h.2 n hn
theorem KeptQ.recol (K : KeptQ Q H kk ps ss) (h : ∀ n < H.length, Q n → Q' n) : KeptQ Q' H kk ps ss := by
  refine x3_3 (K.ex) fun kp ks prs A e hQ => ?_
  exact ⟨kp, ks, prs, A, e, fun n hn => h n (A.lt n hn) (hQ n hn)⟩
theorem BookQ.recol (B : BookQ Q H b ps ss) (h : ∀ n < H.length, Q n → Q' n) : BookQ Q' H b ps ss := by
  refine x4_4 (B.ex) fun fd wd prs srs A e1 e2 hN => ?_
  exact ⟨fd, wd, prs, srs, A, e1, e2, fun n hn => h n (A.lt n hn) (hN n hn)⟩
theorem kept_person (K : KeptQ Q H kk ps ss) (hQ : Q H.length) (hf : ps.length ≤ 1000) {nm : Str} {sk : List Str} {l : Int} (hx : nm ∉ ps.map (·.name)) (h1 : ρ[1]? = some (some (.ref kk))) (h4 : ρ[4]? = some (some (.str nm))) (h5 : ρ[5]? = some (some (.lst (sk.map .str)))) (h7 : ρ[7]? = some (some (.int l)))
    (fin : ∀ H', KeptQ Q H' kk (ps ++ [⟨nm, sk, l, []⟩]) ss → UpQ Q H H' → PG (seqS r ρ H')) : PG (seqS (setItemS (subE (varE 1) (cstE (.str "people"))) (varE 4) (lstE false [(varE 5), (varE 7), (lstE true [])]) :: r) ρ H) := by
  refine x3_3 (K.ex) fun kp ks prs A e hN => ?_; subst e
  have en : (prs.map (·.2)).map (·.name) = prs.map (·.2.name) := by rw [List.map_map]; rfl
  rw [en] at hx
  have lt := A.lt
  have hkk : kk < H.length := lt _ (.head _)
  have hkp : kp < H.length := lt _ (.tail _ (.head _))
  have hks : ks < H.length := lt _ (.tail _ (.tail _ (.head _)))
  have nd := A.nodup
  have n1 : kp ≠ kk := fun q => (List.nodup_cons.mp nd).1 (q ▸ .head _)
  have n2 : kp ≠ ks := fun q => (List.nodup_cons.mp (List.nodup_cons.mp nd).2).1 (q ▸ .head _)
  have n3 : ∀ p ∈ prs, kp ≠ p.1 := fun p hp q => (List.nodup_cons.mp (List.nodup_cons.mp nd).2).1 (q ▸ .tail _ (List.mem_map_of_mem hp))
  have g1 : (H ++ [AO.lst []])[kk]? = some (.dict (topD kp ks)) := (get_ap hkk).trans A.top
  have g2 : (H ++ [AO.lst []])[kp]? = some (.dict (kpD prs)) := (get_ap hkp).trans A.pd
  have hin : ((kpD prs).any fun e => decide (e.1 = Key.str nm)) = false := by rw [kp_any]; exact decide_eq_false hx
  refine p_item (v := kpV (H.length, ⟨nm, sk, l, []⟩)) (H₁ := H ++ [.lst []]) (e_lst (l_three (e_var h5) (e_var h7) rfl) (by simp) rfl) (e_sub (e_var h1) rfl (sub_key g1 rfl)) (e_var h4) (set_key g2 (by unfold kpD; rw [List.length_map]; rw [List.length_map] at hf; lia) hin) ?_
  have keep : ∀ m, m < H.length → m ≠ kp → ((H ++ [AO.lst []]).set kp (.dict (kpD prs ++ [(.str nm, kpV (H.length, ⟨nm, sk, l, []⟩))])))[m]? = H[m]? := fun m hm ne => by rw [get_set_ne (Ne.symm ne), get_ap hm]
  refine fin _ ⟨kp, ks, prs ++ [(H.length, ⟨nm, sk, l, []⟩)], ⟨(keep _ hkk (Ne.symm n1)).trans A.top, ?_, (keep _ hks (Ne.symm n2)).trans A.sd, fun p hp => ?_, ?_⟩, by simp, fun n hn => ?_⟩ ⟨by simp, fun n hn q => keep n hn fun e => q (e ▸ hN _ (.tail _ (.head _)))⟩
  · rw [get_set_eq (by rw [List.length_append]; exact Nat.lt_of_lt_of_le hkp (Nat.le_add_right _ _))]
    unfold kpD
    rw [List.map_append]; rfl
  · rcases mem_snoc.mp hp with hp | rfl
    · exact (keep _ (lt _ (.tail _ (.tail _ (.tail _ (List.mem_map_of_mem hp))))) (Ne.symm (n3 p hp))).trans (A.rs p hp)
    · rw [get_set_ne (show kp ≠ H.length by lia)]
      exact get_last
  · rw [List.map_append]
    exact nodup_more (l := kk :: kp :: ks :: prs.map (·.1)) (m := [H.length]) (N := H.length) nd lt (by simp) (by simp)
  · rw [List.map_append] at hn
    rcases mem_snoc (l := kk :: kp :: ks :: prs.map (·.1)) |>.mp hn with hn | rfl
    · exact hN n hn
    · exact hQ
theorem kept_shift (K : KeptQ Q H kk ps ss) (hf : ss.length ≤ 1000) {nm : Str} {st : Int × Int} {ns : List (Str × Int)} (hx : nm ∉ ss.map (·.name)) (h1 : ρ[1]? = some (some (.ref kk))) (h4 : ρ[4]? = some (some (.str nm))) (h8 : ρ[8]? = some (some (stAV st))) (h9 : ρ[9]? = some (some (.lst (ns.map needAV))))
    (fin : ∀ H', KeptQ Q H' kk ps (ss ++ [⟨nm, st, ns⟩]) → UpQ Q H H' → PG (seqS r ρ H')) : PG (seqS (setItemS (subE (varE 1) (cstE (.str "shifts"))) (varE 4) (lstE false [(varE 8), (varE 9)]) :: r) ρ H) := by
  refine x3_3 (K.ex) fun kp ks prs A e hN => ?_; subst e
  have lt := A.lt
  have hks : ks < H.length := lt _ (.tail _ (.tail _ (.head _)))
  have nd := A.nodup
  have n1 : ks ≠ kk := fun q => (List.nodup_cons.mp nd).1 (q ▸ .tail _ (.head _))
  have n2 : ks ≠ kp := fun q => (List.nodup_cons.mp (List.nodup_cons.mp nd).2).1 (q ▸ .head _)
  have n3 : ∀ p ∈ prs, ks ≠ p.1 := fun p hp q => (List.nodup_cons.mp (List.nodup_cons.mp (List.nodup_cons.mp nd).2).2).1 (q ▸ List.mem_map_of_mem hp)
  have hin : ((ksD ss).any fun e => decide (e.1 = Key.str nm)) = false := by rw [ks_any]; exact decide_eq_false hx
  refine p_item (v := ksV ⟨nm, st, ns⟩) (H₁ := H) (e_lst (l_two (e_var h8) (e_var h9)) (by simp) rfl) (e_sub (e_var h1) rfl (sub_key A.top rfl)) (e_var h4) (set_key A.sd (by unfold ksD; rw [List.length_map]; lia) hin) ?_
  have keep : ∀ m, m ≠ ks → (H.set ks (.dict (ksD ss ++ [(.str nm, ksV ⟨nm, st, ns⟩)])))[m]? = H[m]? := fun m ne => get_set_ne (Ne.symm ne)
  refine fin _ ⟨kp, ks, prs, ⟨(keep _ (Ne.symm n1)).trans A.top, (keep _ (Ne.symm n2)).trans A.pd, ?_, fun p hp => (keep _ (Ne.symm (n3 p hp))).trans (A.rs p hp), nd⟩, rfl, hN⟩ ⟨by simp, fun n hn q => keep n fun e => q (e ▸ hN _ (.tail _ (.tail _ (.head _))))⟩
  rw [get_set_eq hks]
  unfold ksD
  rw [List.map_append]; rfl
theorem kept_rest (K : KeptQ Q H kk ps ss) (hnd : (ps.map (·.name)).Nodup) {i : Nat} {p : Pm} {st : Int × Int} (hi : ps[i]? = some p) (hl : p.rests.length ≤ 1000) (h1 : ρ[1]? = some (some (.ref kk))) (h4 : ρ[4]? = some (some (.str p.name))) (h8 : ρ[8]? = some (some (stAV st)))
    (fin : ∀ H', KeptQ Q H' kk (ps.set i { p with rests := p.rests ++ [st] }) ss → UpQ Q H H' → PG (seqS r ρ H')) : PG (seqS (exprS (mbE .append (subE (subE (subE (varE 1) (cstE (.str "people"))) (varE 4)) (cstE (.int 2))) [(varE 8)]) :: r) ρ H) := by
  refine x3_3 (K.ex) fun kp ks prs A e hN => ?_; subst e
  have en : (prs.map (·.2)).map (·.name) = prs.map (·.2.name) := by rw [List.map_map]; rfl
  rw [en] at hnd
  rw [List.getElem?_map] at hi
  refine x1_2 (Option.map_eq_some_iff.mp hi) fun q hq e2' => ?_; subst e2'
  have hm := List.mem_of_getElem? hq
  have lk : (kpD prs).lookup (.str q.2.name) = some (kpV q) := look_keys (f := fun p : Nat × Pm => p.2.name) (g := kpV) hm hnd
  have G := A.rs q hm
  refine p_expr (e_append (n := q.1) (e_sub (e_sub (e_sub (e_var h1) rfl (sub_key A.top rfl)) (e_var h4) (sub_key A.pd lk)) rfl rfl) G (l_one (e_var h8)) G (by rw [List.length_map]; lia)) ?_
  have nd := A.nodup
  have mm : q.1 ∈ prs.map (·.1) := List.mem_map_of_mem hm
  have n1 : q.1 ≠ kk := fun e => (List.nodup_cons.mp nd).1 (e ▸ .tail _ (.tail _ mm))
  have n2 : q.1 ≠ kp := fun e => (List.nodup_cons.mp (List.nodup_cons.mp nd).2).1 (e ▸ .tail _ mm)
  have n3 : q.1 ≠ ks := fun e => (List.nodup_cons.mp (List.nodup_cons.mp (List.nodup_cons.mp nd).2).2).1 (e ▸ mm)
  have nd4 := (List.nodup_cons.mp (List.nodup_cons.mp (List.nodup_cons.mp nd).2).2).2
  have keep : ∀ m, m ≠ q.1 → (H.set q.1 (.lst (q.2.rests.map stAV ++ [stAV st])))[m]? = H[m]? := fun m ne => get_set_ne (Ne.symm ne)
  have er : (prs.set i (q.1, { q.2 with rests := q.2.rests ++ [st] })).map (·.1) = prs.map (·.1) := map_set_same hq rfl
  refine fin _ ⟨kp, ks, prs.set i (q.1, { q.2 with rests := q.2.rests ++ [st] }), ⟨(keep _ (Ne.symm n1)).trans A.top, (keep _ (Ne.symm n2)).trans (A.pd.trans ?_), (keep _ (Ne.symm n3)).trans A.sd, fun p hp => ?_, by rw [er]; exact nd⟩, by rw [List.map_set], by rw [er]; exact hN⟩ ⟨by simp, fun n hn z => keep n fun e => z (e ▸ hN _ (.tail _ (.tail _ (.tail _ mm))))⟩
  · exact congrArg (fun l => some (AO.dict l)) (map_set_same (f := fun p : Nat × Pm => ((Key.str p.2.name, kpV p) : Key × AV)) (a' := (q.1, { q.2 with rests := q.2.rests ++ [st] })) hq rfl).symm
  · obtain ⟨j, hj⟩ := List.mem_iff_getElem?.mp hp
    rw [List.getElem?_set] at hj
    split at hj
    · rename_i e
      subst e
      split at hj <;> cases hj
      rw [get_set_eq (A.lt _ (.tail _ (.tail _ (.tail _ mm)))), List.map_append]; rfl
    · rename_i ne
      refine (keep _ fun e => ne ?_).trans (A.rs p (List.mem_of_getElem? hj))
      have l1 := (List.getElem?_eq_some_iff.mp hq).1
      have l2 := (List.getElem?_eq_some_iff.mp hj).1
      have e1 : (prs.map (·.1))[i]'(by simpa using l1) = (prs.map (·.1))[j]'(by simpa using l2) := by
        rw [List.getElem_map, List.getElem_map, (List.getElem?_eq_some_iff.mp hq).2, (List.getElem?_eq_some_iff.mp hj).2, e]
      exact (List.getElem_inj nd4).mp e1
end
noncomputable def l05_14 (Φ : Bool → FT) (hot : Bool) : List DS := (ifS (bopE true [(cmpE (varE 12) [.Eq] [(cstE (.str ""))]), (cmpE (varE 10) [.Eq] [(cstE (.int 0))])]) (d05_l_deed_b3 Φ hot) (seqS [])) :: (ifS (bopE true [(cmpE (varE 12) [.Eq] [(cstE (.str ""))]), (cmpE (varE 10) [.Eq] [(cstE (.int 1))])]) (d05_l_deed_b2 Φ hot) (seqS [])) :: (ifS (bopE true [(cmpE (varE 12) [.Eq] [(cstE (.str ""))]), (cmpE (varE 10) [.Eq] [(cstE (.int 2))])]) (d05_l_deed_b1 Φ hot) (seqS [])) :: (retS (cstE (.bool true))) :: []
noncomputable def l05_11 (Φ : Bool → FT) (hot : Bool) : List DS := (ifS (bopE true [(cmpE (varE 12) [.NotEq] [(cstE (.str ""))]), (cmpE (callE (Φ hot) 58 [(varE 0), (varE 10), (varE 4), (subE (varE 11) (cstE (.int 0))), (subE (varE 11) (cstE (.int 1)))]) [.NotEq] [(varE 12)])]) (seqS [retS (cstE (.bool false))]) (seqS [])) :: (assignS hot (.one 13) (callE (Φ hot) 57 [(varE 0), (varE 10), (varE 4), (subE (varE 11) (cstE (.int 0))), (subE (varE 11) (cstE (.int 1)))])) :: (ifS (bopE false [(cmpE (varE 11) [.NotEq] [(subE (lstE false [(lstE false [(varE 5), (varE 7)]), (lstE false [(varE 8), (cstE .none)]), (lstE false [(varE 8), (varE 9)])]) (varE 10))]), (cmpE (varE 13) [.NotEq] [(varE 12)])]) (seqS [retS (cstE (.bool false))]) (seqS [])) :: l05_14 Φ hot
noncomputable def l05_8 (Φ : Bool → FT) (hot : Bool) : List DS := (assignS hot (.one 12) (callE (Φ hot) 54 [(varE 1), (varE 4), (varE 5), (varE 7)])) :: (ifS (cmpE (varE 10) [.Eq] [(cstE (.int 1))]) (d05_l_deed_b5 Φ hot) (seqS [])) :: (ifS (cmpE (varE 10) [.Eq] [(cstE (.int 2))]) (d05_l_deed_b4 Φ hot) (seqS [])) :: l05_11 Φ hot
noncomputable def l05_7 (Φ : Bool → FT) (hot : Bool) : List DS := (assignS hot (.one 11) (subE (lstE false [(lstE false [(biE hot (.list true) [(varE 5)]), (varE 7)]), (lstE false [(varE 8), (cstE .none)]), (lstE false [(varE 8), (biE hot (.list true) [(varE 9)])])]) (varE 10))) :: l05_8 Φ hot
theorem deed_is (Φ : Bool → FT) (hot : Bool) : d05_l_deed Φ hot = seqS ((assignS hot (.one 4) (callE (Φ hot) 49 [(binE false .FloorDiv (varE 2) (cstE (.int 8)))])) :: (assignS hot (.one 5) (compE hot false (callE (Φ hot) 49 [(binE false .FloorDiv (varE 3) (binE false .Add (cstE (.int 1)) (binE false .Mult (cstE (.int 11)) (varE 14))))]) (biE hot .range [(binE false .Mod (binE false .FloorDiv (varE 3) (cstE (.int 3))) (cstE (.int 4)))]) (cstE (.bool true)))) :: (assignS hot (.one 6) (subE (lstE false [(cstE (.int 0)), (cstE (.bool true)), (cstE .none), (cstE (.str "3")), (negE (cstE (.int 4))), (cstE (.bool false)), (binE false .Pow (cstE (.int 10)) (cstE (.int 30))), (tupE [(cstE (.int 1))])]) (binE false .Mod (binE false .FloorDiv (varE 3) (cstE (.int 119))) (cstE (.int 8))))) :: (assignS hot (.one 7) (subE (lstE false [(binE false .Add (cstE (.int 1)) (binE false .Mod (binE false .FloorDiv (varE 3) (cstE (.int 13))) (cstE (.int 9)))), (binE false .Add (cstE (.int 1)) (binE false .Mod (binE false .FloorDiv (varE 3) (cstE (.int 13))) (cstE (.int 33)))), (varE 6)]) (subE (lstE false [(cstE (.int 0)), (cstE (.int 1)), (cstE (.int 0)), (cstE (.int 1)), (cstE (.int 0)), (cstE (.int 2)), (cstE (.int 2))]) (binE false .Mod (binE false .FloorDiv (varE 3) (cstE (.int 17))) (cstE (.int 7)))))) :: (assignS hot (.one 8) (callE (Φ hot) 52 [(binE false .FloorDiv (varE 2) (cstE (.int 64)))])) :: (assignS hot (.one 9) (compE hot false (tupE [(subE (varE 5) (varE 14)), (subE (lstE false [(varE 7), (binE false .Add (cstE (.int 1)) (varE 14))]) (biE hot .int [(cmpE (varE 14) [.NotEq] [(binE false .Mod (varE 3) (cstE (.int 3)))])]))]) (biE hot .range [(biE hot .len [(varE 5)])]) (cstE (.bool true)))) :: (assignS hot (.one 10) (subE (lstE false [(cstE (.int 0)), (cstE (.int 0)), (cstE (.int 1)), (cstE (.int 2))]) (binE false .Mod (binE false .FloorDiv (varE 2) (cstE (.int 2))) (cstE (.int 4))))) :: l05_7 Φ hot) := rfl
noncomputable def PlK (j : Nat) (v : AV) : Prop := ∃ d, (∀ (H : AH) (n : Nat), den (n + j) H v = some d) ∧ PyData.eqv d d = true
theorem PlK.up {j : Nat} {v : AV} (h : PlK j v) : PlK (j + 1) v := by
  obtain ⟨d, h1, h2⟩ := h
  exact ⟨d, fun H n => by rw [show n + (j + 1) = n + 1 + j by omega]; exact h1 H (n + 1), h2⟩
theorem plk_list {j : Nat} : ∀ {l : List AV}, (∀ v ∈ l, PlK j v) → ∃ ds, (∀ (H : AH) (n : Nat), denL (den (n + j) H) l = some ds) ∧ PyData.eqvAll ds ds = true
  | [], _ => ⟨[], fun _ _ => rfl, rfl⟩
  | v :: l, h => by
    obtain ⟨d, h1, h2⟩ := h v (.head _)
    obtain ⟨ds, h3, h4⟩ := plk_list fun x hx => h x (.tail _ hx)
    refine ⟨d :: ds, fun H n => ?_, ?_⟩
    · show ((den (n + j) H v).bind fun d => (denL (den (n + j) H) l).map (d :: ·)) = _
      rw [h1, h3]; rfl
    · show (PyData.eqv d d && PyData.eqvAll ds ds) = true
      rw [h2, h4]; rfl
theorem PlK.tup {j : Nat} {l : List AV} (h : ∀ v ∈ l, PlK j v) : PlK (j + 1) (.tup l) := by
  obtain ⟨ds, h1, h2⟩ := plk_list h
  refine ⟨.tuple ds, fun H n => ?_, h2⟩
  show (denL (den (n + j) H) l).map PyData.tuple = _
  rw [h1]; rfl
theorem PlV.pk {v : AV} (h : PlV v) : PlK 3 v := PlK.up h
theorem Sc.pk {v : AV} (h : Sc v) : PlK 2 v := h.pl
theorem Sv.pk {v : AV} (h : Sv v) : PlK 3 v := by
  cases h with
  | two hx hy =>
    refine PlK.tup fun x h => ?_
    rcases List.mem_cons.mp h with rfl | h
    · exact hx.pk
    · cases List.mem_singleton.mp h; exact hy.pk
  | not hp hl hs => exact PlK.tup fun x h => (hp x h).pk
theorem nd_k {x : Str × AV} (h : Sc x.2) : PlK 3 (ndAV x) := by
  refine PlK.tup fun y hy => ?_
  rcases List.mem_cons.mp hy with rfl | hy
  · exact plv_str
  · cases List.mem_singleton.mp hy; exact h.pk
noncomputable def DenS (H : AH) (x y : AV) : Prop := ∃ d, den 19 H x = some d ∧ den 19 H y = some d ∧ PyData.eqv d d = true
noncomputable def DenL (H : AH) (xs ys : List AV) : Prop := ∃ ds, denL (den 19 H) xs = some ds ∧ denL (den 19 H) ys = some ds ∧ PyData.eqvAll ds ds = true
section
variable {H : AH} {x y x' y' v : AV} {xs ys l : List AV} {r : Nat}
theorem PlK.dens (h : PlK 3 v) : DenS H v v := by
  obtain ⟨d, h1, h2⟩ := h
  exact ⟨d, h1 H 16, h1 H 16, h2⟩
theorem dens_list (hr : H[r]? = some (.lst l)) (h : ∀ v ∈ l, PlK 3 v) : DenS H (.ref r) (.lst l) := by
  obtain ⟨ds, h1, h2⟩ := plk_list h
  have e : (denL (den 18 H) l).map PyData.list = some (.list ds) := by rw [show denL (den 18 H) l = some ds from h1 H 15]; rfl
  exact ⟨.list ds, (den_at hr).trans e, e, h2⟩
theorem DenL.nil : DenL H [] [] := ⟨[], rfl, rfl, rfl⟩
theorem DenL.cons (h : DenS H x y) (t : DenL H xs ys) : DenL H (x :: xs) (y :: ys) := by
  obtain ⟨d, h1, h2, h3⟩ := h
  obtain ⟨ds, t1, t2, t3⟩ := t
  refine ⟨d :: ds, ?_, ?_, ?_⟩
  · show ((den 19 H x).bind fun d => (denL (den 19 H) xs).map (d :: ·)) = _
    rw [h1, t1]; rfl
  · show ((den 19 H y).bind fun d => (denL (den 19 H) ys).map (d :: ·)) = _
    rw [h2, t2]; rfl
  · show (PyData.eqv d d && PyData.eqvAll ds ds) = true
    rw [h3, t3]; rfl
theorem DenL.ne (t : DenL H xs ys) : cmpA H .NotEq (.lst xs) (.lst ys) = some false := by
  obtain ⟨ds, t1, t2, t3⟩ := t
  show (eqA H (.lst xs) (.lst ys)).map (!·) = _
  have e1 : den deep H (.lst xs) = some (.list ds) := by show (denL (den 19 H) xs).map PyData.list = _; rw [t1]; rfl
  have e2 : den deep H (.lst ys) = some (.list ds) := by show (denL (den 19 H) ys).map PyData.list = _; rw [t2]; rfl
  unfold eqA
  rw [e1, e2]
  show some (!(PyData.eqvAll ds ds)) = _
  rw [t3]; rfl
theorem pair_ne (h : DenS H x y) (h' : DenS H x' y') : cmpA H .NotEq (.lst [x, x']) (.lst [y, y']) = some false := (DenL.cons h (.cons h' .nil)).ne
end
structure Dd (nm : Str) (sk : List Str) (num st : AV) (nd : List (Str × AV)) (way : Int) : Prop where
  hnm : nmG nm = true
  hsk : ∀ x ∈ sk, nmG x = true
  hskl : sk.length ≤ 6
  hnum : Sc num
  hst : Sv st
  hnd : ∀ x ∈ nd, nmG x.1 = true ∧ Sc x.2
  hndl : nd.length ≤ 6
  hway : way = 0 ∨ way = 1 ∨ way = 2
section
variable {R : Nat → Bool → FT} {k : Nat} {H H₁ : AH} {ρ : RE} {PG : OutS → Prop}
theorem e_compI {L : Int} {mt : Bool} {elt it : DE} {g : Int → AV} {o : Out AV} (h : it ρ H = .ok (.rng 0 L) H₁) (h0 : 0 ≤ L) (hL : L ≤ 1000) (hE : ∀ D : Int, 0 ≤ D → D < L → elt (ρ ++ [some (.int D)]) H₁ = .ok (g D) H₁)
    (ho : newL mt ((List.range L.toNat).map fun i : Nat => g (0 + (i : Int))) H₁ = o) : compE false mt elt it (cstE (.bool true)) ρ H = o := by
  refine e_compA (a := .rng 0 L) (H₁ := H₁) (l := List.range L.toNat) (fx := fun i : Nat => .int (0 + (i : Int))) (fy := fun i : Nat => g (0 + (i : Int))) (p := fun _ => true) (src := .seq (span 0 L)) (n := L.toNat) h (range_src h0 (by lia)) (fun k => ?_) (by simp) (by simp; lia) (fun _ _ => rfl) (fun i hi _ => ?_) ?_
  · show some (span 0 L)[k]? = _
    unfold span
    rw [Int.sub_zero]
  · have := List.mem_range.mp hi
    exact hE _ (by lia) (by lia)
  · rw [List.filter_eq_self.mpr fun _ _ => rfl]; exact ho
theorem some_comp (W : Law05 R) {m : Int} (h3 : ρ[3]? = some (some (.int m))) (hl : ρ.length = 14) : ∃ sk : List Str, (compE false false (callE (R (k + 1) false) 49 [(binE false .FloorDiv (varE 3) (binE false .Add (cstE (.int 1)) (binE false .Mult (cstE (.int 11)) (varE 14))))]) (biE false .range [(binE false .Mod (binE false .FloorDiv (varE 3) (cstE (.int 3))) (cstE (.int 4)))]) (cstE (.bool true))) ρ H = .ok (.lst (sk.map .str)) H ∧ (∀ x ∈ sk, nmG x = true) ∧ sk.length ≤ 6 := by
  refine ⟨(List.range (m / 3 % 4).toNat).map fun i : Nat => nameF (m / (1 + 11 * (0 + (i : Int)))), e_compI (L := m / 3 % 4) (g := fun D => .str (nameF (m / (1 + 11 * D)))) (e_bi (l_one (e_bin (e_bin (e_var h3) rfl (div_ok (by decide))) rfl (mod_ok (by decide)))) rfl) (by lia) (by lia) (fun D d0 d1 => ?_) ?_, fun x hx => ?_, ?_⟩
  · exact e_call (l_one (e_bin (var_app h3) (e_bin rfl (e_bin rfl (var_new hl) (mulI (.inl (by decide)))) addI) (div_ok ⟨by lia, by lia⟩))) (name_run W)
  · rw [List.map_map]; rfl
  · obtain ⟨i, _, rfl⟩ := List.mem_map.mp hx
    exact nameF_good _
  · rw [List.length_map, List.length_range]; lia
theorem needs_comp {m : Int} {sk : List Str} {num : AV} (hsk : ∀ x ∈ sk, nmG x = true) (hskl : sk.length ≤ 6) (hnum : Sc num) (h3 : ρ[3]? = some (some (.int m))) (h5 : ρ[5]? = some (some (.lst (sk.map .str)))) (h7 : ρ[7]? = some (some num)) (hl : ρ.length = 14) :
    ∃ nd : List (Str × AV), (compE false false (tupE [(subE (varE 5) (varE 14)), (subE (lstE false [(varE 7), (binE false .Add (cstE (.int 1)) (varE 14))]) (biE false .int [(cmpE (varE 14) [.NotEq] [(binE false .Mod (varE 3) (cstE (.int 3)))])]))]) (biE false .range [(biE false .len [(varE 5)])]) (cstE (.bool true))) ρ H = .ok (.lst (nd.map ndAV)) H ∧ (∀ x ∈ nd, nmG x.1 = true ∧ Sc x.2) ∧ nd.length ≤ 6 := by
  have hlen : biA false .len [.lst (sk.map .str)] H = .ok (.int sk.length) H := by
    have := IsL.len (N := 0) (H := H) (a := .lst (sk.map .str)) (.inl rfl) (by rw [List.length_map]; lia)
    rw [List.length_map] at this; exact this
  generalize hL : (sk.length : Int) = L at hlen
  refine ⟨(List.range L.toNat).map fun i : Nat => (sk.getD (0 + (i : Int)).toNat "", if 0 + (i : Int) = m % 3 then num else .int (1 + (0 + (i : Int)))), e_compI (L := L) (g := fun D => ndAV (sk.getD D.toNat "", if D = m % 3 then num else .int (1 + D))) (e_bi (l_one (e_bi (l_one (e_var h5)) hlen)) rfl) (by lia) (by lia) (fun D d0 d1 => ?_) ?_, fun x hx => ?_, ?_⟩
  · have g1 : (sk.map AV.str)[D.toNat]? = some (.str (sk.getD D.toNat "")) := by
      have hj : D.toNat < sk.length := by lia
      rw [List.getElem?_map, List.getElem?_eq_getElem hj, List.getD_eq_getElem?_getD, List.getElem?_eq_getElem hj]; rfl
    refine e_tup (l_two (e_sub (var_app h5) (var_new hl) (subL d0 g1 (by rw [List.length_map]; lia))) (b := if D = m % 3 then num else .int (1 + D)) ?_) (by simp)
    refine e_sub (e_lst (l_two (var_app h7) (e_bin rfl (var_new hl) addI)) (by simp) rfl) (e_bi (l_one (e_cmp (x := !decide (D = m % 3)) (var_new hl) (e_bin (var_app h3) rfl (mod_ok (by decide))) rfl)) rfl) ?_
    by_cases hc : D = m % 3
    · rw [if_pos hc, decide_eq_true hc]; rfl
    · rw [if_neg hc, decide_eq_false hc]; rfl
  · rw [List.map_map]; rfl
  · obtain ⟨i, hi, rfl⟩ := List.mem_map.mp hx
    have := List.mem_range.mp hi
    have hj : (0 + (i : Int)).toNat < sk.length := by lia
    refine ⟨?_, ?_⟩
    · show nmG (sk.getD _ _) = true
      rw [List.getD_eq_getElem?_getD, List.getElem?_eq_getElem hj]
      exact hsk _ (List.getElem_mem _)
    · show Sc (if _ then _ else _)
      split
      · exact hnum
      · exact .int _
  · rw [List.length_map, List.length_range]; lia
theorem odd_num : ∀ i < 8, ∃ v, ([.int 0, .bool true, .none, .str "3", .int (-4), .bool false, .int 1000000000000000000000000000000, .tup [.int 1]] : List AV)[i]? = some v ∧ Sc v
  | 0, _ => ⟨_, rfl, .int _⟩
  | 1, _ => ⟨_, rfl, .bool _⟩
  | 2, _ => ⟨_, rfl, .none⟩
  | 3, _ => ⟨_, rfl, .str _⟩
  | 4, _ => ⟨_, rfl, .int _⟩
  | 5, _ => ⟨_, rfl, .bool _⟩
  | 6, _ => ⟨_, rfl, .int _⟩
  | 7, _ => ⟨_, rfl, .tup⟩
theorem pick_at : ∀ i < 7, ∃ f : Int, (f = 0 ∨ f = 1 ∨ f = 2) ∧ ([.int 0, .int 1, .int 0, .int 1, .int 0, .int 2, .int 2] : List AV)[i]? = some (.int f)
  | 0, _ => ⟨_, .inl rfl, rfl⟩
  | 1, _ => ⟨_, .inr (.inl rfl), rfl⟩
  | 2, _ => ⟨_, .inl rfl, rfl⟩
  | 3, _ => ⟨_, .inr (.inl rfl), rfl⟩
  | 4, _ => ⟨_, .inl rfl, rfl⟩
  | 5, _ => ⟨_, .inr (.inr rfl), rfl⟩
  | 6, _ => ⟨_, .inr (.inr rfl), rfl⟩
theorem way_at : ∀ i < 4, ∃ f : Int, (f = 0 ∨ f = 1 ∨ f = 2) ∧ ([.int 0, .int 0, .int 1, .int 2] : List AV)[i]? = some (.int f)
  | 0, _ => ⟨_, .inl rfl, rfl⟩
  | 1, _ => ⟨_, .inl rfl, rfl⟩
  | 2, _ => ⟨_, .inr (.inl rfl), rfl⟩
  | 3, _ => ⟨_, .inr (.inr rfl), rfl⟩
theorem num_pick {a b : Int} {o : AV} {f : Int} (ho : Sc o) (hf : f = 0 ∨ f = 1 ∨ f = 2) : ∃ v, subA (.lst [.int a, .int b, o]) (.int f) H = .ok v H ∧ Sc v := by
  rcases hf with rfl | rfl | rfl
  · exact ⟨_, rfl, .int _⟩
  · exact ⟨_, rfl, .int _⟩
  · exact ⟨_, rfl, ho⟩
theorem deed_A (W : Law05 R) {b kk : Nat} {c m : Int} (fin : ∀ nm sk odd num st nd way, Dd nm sk num st nd way → PG (seqS (l05_7 (R (k + 1)) false) [some (.ref b), some (.ref kk), some (.int c), some (.int m), some (.str nm), some (.lst (sk.map .str)), some odd, some num, some st, some (.lst (nd.map ndAV)), some (.int way), none, none, none] H)) :
    PG (d05_l_deed (R (k + 1)) false (rho0 [.ref b, .ref kk, .int c, .int m] 14) H) := by
  rw [deed_is]
  obtain ⟨odd, ho, so⟩ := odd_num (m / 119 % 8).toNat (by lia)
  obtain ⟨f, hf, pf⟩ := pick_at (m / 17 % 7).toNat (by lia)
  obtain ⟨way, hw, wf⟩ := way_at (c / 2 % 4).toNat (by lia)
  obtain ⟨num, en, sn⟩ := num_pick (H := H) (a := 1 + m / 13 % 9) (b := 1 + m / 13 % 33) so hf
  obtain ⟨st, es, ss⟩ := sof_run (k := k) (H := H) W (c := c / 64)
  show PG (seqS _ [some (.ref b), some (.ref kk), some (.int c), some (.int m), none, none, none, none, none, none, none, none, none, none] H)
  refine p_asg (a := .str (nameF (c / 8))) (H₁ := H) (e_call (l_one (e_bin rfl rfl (div_ok (by decide)))) (name_run W)) ?_
  show PG (seqS _ [some (.ref b), some (.ref kk), some (.int c), some (.int m), some (.str (nameF (c / 8))), none, none, none, none, none, none, none, none, none] H)
  obtain ⟨sk, esk, hsk, lsk⟩ := some_comp (k := k) (H := H) W (m := m) (ρ := [some (.ref b), some (.ref kk), some (.int c), some (.int m), some (.str (nameF (c / 8))), none, none, none, none, none, none, none, none, none]) rfl rfl
  refine p_asg (a := .lst (sk.map .str)) (H₁ := H) esk ?_
  show PG (seqS _ [some (.ref b), some (.ref kk), some (.int c), some (.int m), some (.str (nameF (c / 8))), some (.lst (sk.map .str)), none, none, none, none, none, none, none, none] H)
  refine p_asg (a := odd) (H₁ := H) (e_sub (e_lst rfl (by decide) rfl) (e_bin (e_bin rfl rfl (div_ok (by decide))) rfl (mod_ok (by decide))) (subL (by lia) ho (by decide))) ?_
  show PG (seqS _ [some (.ref b), some (.ref kk), some (.int c), some (.int m), some (.str (nameF (c / 8))), some (.lst (sk.map .str)), some odd, none, none, none, none, none, none, none] H)
  refine p_asg (a := num) (H₁ := H) (e_sub (e_lst (l_three (e_bin rfl (e_bin (e_bin rfl rfl (div_ok (by decide))) rfl (mod_ok (by decide))) addI) (e_bin rfl (e_bin (e_bin rfl rfl (div_ok (by decide))) rfl (mod_ok (by decide))) addI) rfl) (by simp) rfl) (e_sub (e_lst rfl (by decide) rfl) (e_bin (e_bin rfl rfl (div_ok (by decide))) rfl (mod_ok (by decide))) (subL (by lia) pf (by decide))) en) ?_
  show PG (seqS _ [some (.ref b), some (.ref kk), some (.int c), some (.int m), some (.str (nameF (c / 8))), some (.lst (sk.map .str)), some odd, some num, none, none, none, none, none, none] H)
  refine p_asg (a := st) (H₁ := H) (e_call (l_one (e_bin rfl rfl (div_ok (by decide)))) es) ?_
  show PG (seqS _ [some (.ref b), some (.ref kk), some (.int c), some (.int m), some (.str (nameF (c / 8))), some (.lst (sk.map .str)), some odd, some num, some st, none, none, none, none, none] H)
  obtain ⟨nd, end', hnd, lnd⟩ := needs_comp (H := H) (m := m) (ρ := [some (.ref b), some (.ref kk), some (.int c), some (.int m), some (.str (nameF (c / 8))), some (.lst (sk.map .str)), some odd, some num, some st, none, none, none, none, none]) hsk lsk sn rfl rfl rfl rfl
  refine p_asg (a := .lst (nd.map ndAV)) (H₁ := H) end' ?_
  show PG (seqS _ [some (.ref b), some (.ref kk), some (.int c), some (.int m), some (.str (nameF (c / 8))), some (.lst (sk.map .str)), some odd, some num, some st, some (.lst (nd.map ndAV)), none, none, none, none] H)
  refine p_asg (a := .int way) (H₁ := H) (e_sub (e_lst rfl (by decide) rfl) (e_bin (e_bin rfl rfl (div_ok (by decide))) rfl (mod_ok (by decide))) (subL (by lia) wf (by decide))) ?_
  exact fin (nameF (c / 8)) sk odd num st nd way ⟨nameF_good _, hsk, lsk, sn, ss, hnd, lnd, hw⟩
end
noncomputable def paint (c : Nat → Nat) (L z n : Nat) : Nat := if n < L then c n else z
theorem nq {c : Nat → Nat} {m a z : Nat} (e : c m = a) (h : a ≠ z) : ¬ c m = z := fun q => h (e.symm.trans q)
theorem paint_lt {c : Nat → Nat} {L z n : Nat} (h : n < L) : paint c L z n = c n := if_pos h
theorem paint_ge {c : Nat → Nat} {L z n : Nat} (h : L ≤ n) : paint c L z n = z := if_neg (Nat.not_lt.mpr h)
structure Mv (x y : Nat) (col : Nat → Nat) (H : AH) (col' : Nat → Nat) (H' : AH) : Prop where
  le : H.length ≤ H'.length
  co : ∀ m < H.length, col' m = col m
  st : ∀ m < H.length, col m ≠ x → col m ≠ y → H'[m]? = H[m]?
section
variable {x y z b kk n : Nat} {col col' c1 : Nat → Nat} {H H' H₁ H₂ l : AH} {ps ps' : List Pm} {ss ss' : List Sm}
theorem BookQ.mv (B : BookQ (fun n => col n = z) H b ps ss) (M : Mv x y col H col' H') (hx : z ≠ x) (hy : z ≠ y) : BookQ (fun n => col' n = z) H' b ps ss :=
  (B.recol (Q' := fun n => col' n = z) fun n hn e => (M.co n hn).trans e).frame fun n e hn => M.st n hn (by rw [← M.co n hn, e]; exact hx) (by rw [← M.co n hn, e]; exact hy)
theorem KeptQ.mv (B : KeptQ (fun n => col n = z) H b ps ss) (M : Mv x y col H col' H') (hx : z ≠ x) (hy : z ≠ y) : KeptQ (fun n => col' n = z) H' b ps ss :=
  (B.recol (Q' := fun n => col' n = z) fun n hn e => (M.co n hn).trans e).frame fun n e hn => M.st n hn (by rw [← M.co n hn, e]; exact hx) (by rw [← M.co n hn, e]; exact hy)
theorem Mv.up (h : Up H.length H H') : Mv x y col H col H' := ⟨h.1, fun _ _ => rfl, fun m hm _ _ => h.2 m hm⟩
theorem Mv.trans {col'' : Nat → Nat} {H'' : AH} (M : Mv x y col H col' H') (N : Mv x y col' H' col'' H'') : Mv x y col H col'' H'' := by
  refine ⟨Nat.le_trans M.le N.le, fun m hm => (N.co m (Nat.lt_of_lt_of_le hm M.le)).trans (M.co m hm), fun m hm h1 h2 => (N.st m (Nat.lt_of_lt_of_le hm M.le) ?_ ?_).trans (M.st m hm h1 h2)⟩
  · rw [M.co m hm]; exact h1
  · rw [M.co m hm]; exact h2
structure Dn (x y : Nat) (col : Nat → Nat) (H : AH) (b kk n : Nat) (H' : AH) : Prop where
  ex : ∃ col' ps' ss', BookQ (fun n => col' n = x) H' b ps' ss' ∧ KeptQ (fun n => col' n = y) H' kk ps' ss' ∧ Good n ps' ss' ∧ Mv x y col H col' H'
theorem Dn.no (B : BookQ (fun n => col n = x) H b ps ss) (K : KeptQ (fun n => col n = y) H kk ps ss) (G : Good n ps ss) (hn : n < 100) (u : Up H.length H H') : Dn x y col H b kk (n + 1) H' := ⟨col, ps, ss, B.up u, K.up u, G.more hn, .up u⟩
noncomputable def col1 (col : Nat → Nat) (H l : AH) (x : Nat) : Nat → Nat := paint (paint col H.length 9) (H ++ l).length x
theorem col1_lt {m : Nat} (h : m < H.length) : col1 col H l x m = col m := by
  unfold col1
  rw [paint_lt (by rw [List.length_append]; exact Nat.lt_of_lt_of_le h (Nat.le_add_right _ _)), paint_lt h]
theorem col1_mid {m : Nat} (h : H.length ≤ m) (h2 : m < (H ++ l).length) : col1 col H l x m = 9 := by
  unfold col1
  rw [paint_lt h2, paint_ge h]
theorem col1_ge {m : Nat} (h : (H ++ l).length ≤ m) : col1 col H l x m = x := paint_ge h
theorem BookQ.one (B : BookQ (fun n => col n = z) H b ps ss) : BookQ (fun n => col1 col H l x n = z) (H ++ l) b ps ss := (B.recol fun n hn e => (col1_lt hn).trans e).up Up.app
theorem KeptQ.one (K : KeptQ (fun n => col n = z) H b ps ss) : KeptQ (fun n => col1 col H l x n = z) (H ++ l) b ps ss := (K.recol fun n hn e => (col1_lt hn).trans e).up Up.app
theorem BookQ.two (B : BookQ (fun n => c1 n = z) H b ps ss) : BookQ (fun n => paint c1 H.length y n = z) H b ps ss := B.recol fun n hn e => (paint_lt hn).trans e
theorem KeptQ.two (K : KeptQ (fun n => c1 n = z) H b ps ss) (u : UpQ (fun n => c1 n = x) H H') (hz : z ≠ x) : KeptQ (fun n => paint c1 H'.length y n = z) H' b ps ss := by
  refine (K.recol (Q' := fun n => paint c1 H'.length y n = z) fun n hn e => (paint_lt (Nat.lt_of_lt_of_le hn u.1)).trans e).frame fun n e hn => u.2 n hn fun q => hz ?_
  rw [paint_lt (Nat.lt_of_lt_of_le hn u.1)] at e
  exact e.symm.trans q
theorem BookQ.other (B : BookQ (fun n => col n = z) H b ps ss) (u : UpQ (fun n => col n = x) H H') (hz : z ≠ x) : BookQ (fun n => col n = z) H' b ps ss := B.frame fun n e hn => u.2 n hn fun q => hz (e.symm.trans q)
theorem BookQ.put (B : BookQ (fun n => col n = z) H b ps ss) {r : Nat} {o : AO} (h : col r ≠ z) : BookQ (fun n => col n = z) (H.set r o) b ps ss := B.frame fun n e hn => get_set_ne fun q => h (q ▸ e)
theorem KeptQ.put (B : KeptQ (fun n => col n = z) H b ps ss) {r : Nat} {o : AO} (h : col r ≠ z) : KeptQ (fun n => col n = z) (H.set r o) b ps ss := B.frame fun n e hn => get_set_ne fun q => h (q ▸ e)
theorem Dn.yes {H₃ : AH} {r : Nat} {o : AO} (hx : x ≠ 9) (hy : y ≠ 9) (hxy : x ≠ y) (hr : H.length ≤ r) (hr2 : r < (H ++ l).length) (G : Good n ps' ss')
    (u : UpQ (fun n => col1 col H l x n = x) (H ++ l) H₂) (B : BookQ (fun n => col1 col H l x n = x) H₂ b ps' ss') (v : UpQ (fun n => paint (col1 col H l x) H₂.length y n = y) H₂ H₃) (K : KeptQ (fun n => paint (col1 col H l x) H₂.length y n = y) H₃ kk ps' ss') (p : Bool) :
    Dn x y col H b kk n (if p then H₃.set r o else H₃) := by
  have hl : H.length ≤ (H ++ l).length := by rw [List.length_append]; exact Nat.le_add_right _ _
  have h2 : H.length ≤ H₂.length := Nat.le_trans hl u.1
  have e1 : ∀ m < H.length, paint (col1 col H l x) H₂.length y m = col m := fun m hm => (paint_lt (Nat.lt_of_lt_of_le hm h2)).trans (col1_lt hm)
  have e9 : paint (col1 col H l x) H₂.length y r = 9 := (paint_lt (Nat.lt_of_lt_of_le hr2 u.1)).trans (col1_mid hr hr2)
  have B3 := B.two.other v hxy
  have M : Mv x y col H (paint (col1 col H l x) H₂.length y) H₃ := by
    refine ⟨Nat.le_trans h2 v.1, e1, fun m hm q1 q2 => ?_⟩
    exact (v.2 m (Nat.lt_of_lt_of_le hm h2) (nq (e1 m hm) q2)).trans ((u.2 m (Nat.lt_of_lt_of_le hm hl) (nq (col1_lt hm) q1)).trans (get_ap hm))
  cases p with
  | false => exact ⟨_, ps', ss', B3, K, G, M⟩
  | true =>
    refine ⟨_, ps', ss', B3.put (r := r) (o := o) (by rw [e9]; exact hx.symm), K.put (r := r) (o := o) (by rw [e9]; exact hy.symm), G, ?_⟩
    show Mv x y col H _ (H₃.set r o)
    refine ⟨by rw [List.length_set]; exact M.le, e1, fun m hm q1 q2 => ?_⟩
    rw [get_set_ne (by lia)]
    exact M.st m hm q1 q2
end
theorem word_ne : ∀ w, w ≠ 0 → word w ≠ ""
  | 0, h => absurd rfl h
  | 1, _ => by decide
  | 2, _ => by decide
  | 3, _ => by decide
  | 4, _ => by decide
  | n + 5, _ => by show ("missing" : Str) ≠ ""; decide
noncomputable def rD (b kk : Nat) (c m : Int) (nm : Str) (sk : List Str) (odd num st : AV) (nd : List (Str × AV)) (way : Int) (a11 a12 a13 : Option AV) : RE := [some (.ref b), some (.ref kk), some (.int c), some (.int m), some (.str nm), some (.lst (sk.map .str)), some odd, some num, some st, some (.lst (nd.map ndAV)), some (.int way), a11, a12, a13]
noncomputable def wayW (way : Int) (pn sn : List Str) (nm : Str) (sk : List Str) (num st : AV) (nd : List (Str × AV)) : Nat := if way = 0 then persW pn nm sk num else if way = 1 then restW pn nm st else shifW sn nm st nd
section
variable {R : Nat → Bool → FT} {k b kk kp ks w : Nat} {H H₁ : AH} {PG : OutS → Prop} {c m way : Int} {nm : Str} {sk : List Str} {odd num st one two one' two' : AV} {nd : List (Str × AV)} {prs : List (Nat × Pm)} {ss : List Sm} {a11 a12 a13 : Option AV}
theorem ne_word (h : w ≠ 0) : cmpA H .NotEq (.str (word w)) (.str "") = some true := by
  show some (!(PyData.eqv (.str (word w)) (.str ""))) = _
  rw [eqv_str, decide_eq_false (word_ne w h)]; rfl
theorem eq_word (h : w ≠ 0) : cmpA H .Eq (.str (word w)) (.str "") = some false := by
  rw [eq_strs, decide_eq_false (word_ne w h)]
theorem eq_emp : cmpA H .Eq (.str "") (.str "") = some true := by
  rw [eq_strs, decide_eq_true rfl]
theorem deed_due (W : Law05 R) (K : KR H kk kp ks prs ss) (D : Dd nm sk num st nd way)
    (fin : PG (seqS (l05_11 (R (k + 5)) false) (rD b kk c m nm sk odd num st nd way a11 (some (.str (word (wayW way (prs.map (·.2.name)) (ss.map (·.name)) nm sk num st nd)))) none) H)) :
    PG (seqS (l05_8 (R (k + 5)) false) (rD b kk c m nm sk odd num st nd way a11 none none) H) := by
  refine p_asg (a := .str (word (persW (prs.map (·.2.name)) nm sk num))) (H₁ := H) (e_call (l_cons rfl (l_three rfl rfl rfl)) (pword_run (k := k + 3) W K D.hnm D.hsk (Nat.le_trans D.hskl (by decide)) D.hnum)) ?_
  show PG (seqS _ (rD b kk c m nm sk odd num st nd way a11 (some (.str (word (persW (prs.map (·.2.name)) nm sk num)))) none) H)
  rcases D.hway with rfl | rfl | rfl
  · refine p_skip (H₁ := H) (e_cmp rfl rfl rfl) ?_
    exact p_skip (H₁ := H) (e_cmp rfl rfl rfl) fin
  · refine p_if (x := true) (H₁ := H) (e_cmp rfl rfl rfl) (fun _ => ?_) fun q => nomatch q
    refine p_asg (P := Th _ _) (a := .str (word (restW (prs.map (·.2.name)) nm st))) (H₁ := H) (e_if (x := !decide (nm ∈ prs.map (·.2.name))) (e_cmp rfl (K.people rfl) (nin_dc K.pd kp_any)) (fun h => ?_) fun h => e_if (x := goodV st) (e_call (l_one rfl) (good_run W D.hst)) (fun g => ?_) fun g => ?_) (th_nil ?_)
    · have h : ¬ nm ∈ prs.map (·.2.name) := of_decide_eq_false ((Bool.not_eq_true' _).mp h)
      unfold restW; rw [if_neg h]; rfl
    · have h : nm ∈ prs.map (·.2.name) := of_decide_eq_true ((Bool.not_eq_false' _).mp h)
      unfold restW; rw [if_pos h, if_neg (by rw [g]; decide)]; rfl
    · have h : nm ∈ prs.map (·.2.name) := of_decide_eq_true ((Bool.not_eq_false' _).mp h)
      unfold restW; rw [if_pos h, if_pos g]; rfl
    exact p_skip (H₁ := H) (e_cmp rfl rfl rfl) fin
  · refine p_skip (H₁ := H) (e_cmp rfl rfl rfl) ?_
    refine p_if (x := true) (H₁ := H) (e_cmp rfl rfl rfl) (fun _ => ?_) fun q => nomatch q
    exact p_asg (P := Th _ _) (a := .str (word (shifW (ss.map (·.name)) nm st nd))) (H₁ := H) (e_call (l_cons rfl (l_three rfl rfl rfl)) (sword_run (k := k + 2) W K D.hnm D.hnd (Nat.le_trans D.hndl (by decide)) D.hst)) (th_nil fin)
theorem deed_B (W : Law05 R) {fs : List (Option AV)} (hb : H₁[b]? = some (.inst 2 fs)) (hw : way = 0 ∨ way = 1 ∨ way = 2) (h5 : w ≤ 5) {Kf : AH → AH → Prop}
    (S : ∀ (j : Nat) H2, Up H₁.length H₁ H2 → Res w .none H2 (Kf H2) (R (j + 3) false (mthN way) (mthA way b nm one two) H2))
    (hx : ∀ H a12 a13, subE (lstE false [(lstE false [(varE 5), (varE 7)]), (lstE false [(varE 8), (cstE .none)]), (lstE false [(varE 8), (varE 9)])]) (varE 10) (rD b kk c m nm sk odd num st nd way (some (.lst [one, two])) a12 a13) H = .ok (.lst [one', two']) H)
    (hd : ∀ H', (Up H₁.length H₁ H' ∨ Kf H₁ H') → DenS H' one one' ∧ DenS H' two two')
    (f0 : w = 0 → ∀ H', Kf H₁ H' → PG (seqS (l05_14 (R (k + 5)) false) (rD b kk c m nm sk odd num st nd way (some (.lst [one, two])) (some (.str "")) (some (.str ""))) H'))
    (f1 : w ≠ 0 → ∀ H', Up H₁.length H₁ H' → PG (seqS (l05_14 (R (k + 5)) false) (rD b kk c m nm sk odd num st nd way (some (.lst [one, two])) (some (.str (word w))) (some (.str (word w)))) H')) :
    PG (seqS (l05_11 (R (k + 5)) false) (rD b kk c m nm sk odd num st nd way (some (.lst [one, two])) (some (.str (word w))) none) H₁) := by
  by_cases hz : w = 0
  · subst hz
    refine p_skip (H₁ := H₁) (e_stop (c := true) (e_cmp rfl rfl (ne_strs (w := "")))) ?_
    obtain ⟨H', e, q⟩ := (tried_run (k := k + 3) W hb hw h5 (S (k + 1) H₁ Up.refl)).1 rfl
    obtain ⟨d1, d2⟩ := hd H' (.inr q)
    refine p_asg (a := .str "") (H₁ := H') (e_call (l_cons rfl (l_cons rfl (l_three rfl (e_sub rfl rfl rfl) (e_sub rfl rfl rfl)))) e) ?_
    show PG (seqS _ (rD b kk c m nm sk odd num st nd way (some (.lst [one, two])) (some (.str "")) (some (.str ""))) H')
    refine p_skip (H₁ := H') (e_bop (c := false) (e_cmp rfl (hx _ _ _) (pair_ne d1 d2)) (e_last (e_cmp rfl rfl (ne_strs (w := ""))))) ?_
    exact f0 rfl H' q
  · obtain ⟨H2, e, u⟩ := caught_run (k := k + 2) W hb hw hz h5 (S k H₁ Up.refl)
    refine p_skip (H₁ := H2) (e_bop (c := true) (e_cmp rfl rfl (ne_word hz)) (e_last (e_cmp (e_call (l_cons rfl (l_cons rfl (l_three rfl (e_sub rfl rfl rfl) (e_sub rfl rfl rfl)))) e) rfl ne_strs))) ?_
    obtain ⟨H3, e3, u3⟩ := (tried_run (k := k + 3) W (u.get hb) hw h5 (S (k + 1) H2 u)).2 hz
    have u' : Up H₁.length H₁ H3 := u.trans (u3.mono u.1)
    obtain ⟨d1, d2⟩ := hd H3 (.inl u')
    refine p_asg (a := .str (word w)) (H₁ := H3) (e_call (l_cons rfl (l_cons rfl (l_three rfl (e_sub rfl rfl rfl) (e_sub rfl rfl rfl)))) e3) ?_
    show PG (seqS _ (rD b kk c m nm sk odd num st nd way (some (.lst [one, two])) (some (.str (word w))) (some (.str (word w)))) H3)
    refine p_skip (H₁ := H3) (e_bop (c := false) (e_cmp rfl (hx _ _ _) (pair_ne d1 d2)) (e_last (e_cmp rfl rfl ne_strs))) ?_
    exact f1 hz H3 u'
theorem deed_no (hz : w ≠ 0) (fin : PG (.ret (.bool true) H)) : PG (seqS (l05_14 (R (k + 5)) false) (rD b kk c m nm sk odd num st nd way a11 (some (.str (word w))) a13) H) := by
  refine p_skip (H₁ := H) (e_stop (c := true) (e_cmp rfl rfl (eq_word hz))) ?_
  refine p_skip (H₁ := H) (e_stop (c := true) (e_cmp rfl rfl (eq_word hz))) ?_
  refine p_skip (H₁ := H) (e_stop (c := true) (e_cmp rfl rfl (eq_word hz))) ?_
  exact p_ret rfl fin
end
section
variable {R : Nat → Bool → FT} {k b kk n x y : Nat} {H : AH} {PG : OutS → Prop} {c m way : Int} {nm : Str} {sk : List Str} {odd num st : AV} {nd : List (Str × AV)} {ps : List Pm} {ss : List Sm} {col : Nat → Nat}
theorem strs_k {sk : List Str} : ∀ v ∈ sk.map AV.str, PlK 3 v := fun v hv => by
  obtain ⟨s, _, rfl⟩ := List.mem_map.mp hv
  exact plv_str.pk
theorem nds_k {nd : List (Str × AV)} (h : ∀ x ∈ nd, nmG x.1 = true ∧ Sc x.2) : ∀ v ∈ nd.map ndAV, PlK 3 v := fun v hv => by
  obtain ⟨s, hs, rfl⟩ := List.mem_map.mp hv
  exact nd_k (h s hs).2
noncomputable def hand (sk : List Str) (nd : List (Str × AV)) : AH := [.lst (sk.map .str), .lst (nd.map ndAV)]
theorem hand_len : (H ++ hand sk nd).length = H.length + 2 := by rw [List.length_append]; rfl
theorem hand0 : (H ++ hand sk nd)[H.length]? = some (.lst (sk.map .str)) := get_l0
theorem hand1 : (H ++ hand sk nd)[H.length + 1]? = some (.lst (nd.map ndAV)) := get_l1
theorem deed_0 (W : Law05 R) (hx : x ≠ 9) (hy : y ≠ 9) (hxy : x ≠ y) (B : BookQ (fun n => col n = x) H b ps ss) (K : KeptQ (fun n => col n = y) H kk ps ss) (G : Good n ps ss) (hn : n < 100) (D : Dd nm sk num st nd 0)
    (fin : ∀ H', Dn x y col H b kk (n + 1) H' → PG (.ret (.bool true) H')) :
    PG (seqS (l05_11 (R (k + 5)) false) (rD b kk c m nm sk odd num st nd 0 (some (.lst [.ref H.length, num])) (some (.str (word (persW (ps.map (·.name)) nm sk num)))) none) (H ++ hand sk nd)) := by
  have B1 : BookQ (fun n => col1 col H (hand sk nd) x n = x) (H ++ hand sk nd) b ps ss := B.one
  have K1 : KeptQ (fun n => col1 col H (hand sk nd) x n = y) (H ++ hand sk nd) kk ps ss := K.one
  obtain ⟨fs, hb⟩ := B1.at
  have hm : H.length < (H ++ hand sk nd).length := by rw [hand_len]; lia
  have h9 : col1 col H (hand sk nd) x H.length = 9 := col1_mid (Nat.le_refl _) hm
  have gl := G.pf
  have gs := G.sf
  have ge := G.le
  refine deed_B (way := 0) W hb (.inl rfl) (persW_le _ _ _ _)
    (Kf := fun H2 H' => ∃ l, num = .int l ∧ BookQ (fun n => col1 col H (hand sk nd) x n = x) H' b (ps ++ [⟨nm, sk, l, []⟩]) ss ∧ UpQ (fun n => col1 col H (hand sk nd) x n = x) H2 H')
    (fun j H2 u => add_person_any (k := j) W.bk (B1.up u) (fun n h => col1_ge (Nat.le_trans u.1 h)) (r := H.length) (u.get hand0) (nmG_ok D.hnm).2.1 (fun y hy => (nmG_ok (D.hsk y hy)).2.1) (Nat.le_trans D.hskl (by decide)) D.hnum (by lia))
    (one' := .lst (sk.map .str)) (two' := num) (fun H a12 a13 => e_sub (e_lst (l_three (e_lst (l_two rfl rfl) (by simp) rfl) (e_lst (l_two rfl rfl) (by simp) rfl) (e_lst (l_two rfl rfl) (by simp) rfl)) (by simp) rfl) rfl rfl)
    (fun H' h => ⟨dens_list (h.elim (fun u => u.get hand0) fun q => ?_) strs_k, D.hnum.pk.up.dens⟩) (fun hz H2 q => ?_) fun hz H' u => deed_no hz (fin H' (.no B K G hn (Up.app.trans (u.mono (Nat.le_of_lt hm)))))
  · obtain ⟨l, _, _, u⟩ := q
    exact (u.2 _ hm (nq h9 hx.symm)).trans hand0
  · obtain ⟨l, rfl, B2, u⟩ := q
    refine p_if (x := true) (H₁ := H2) (e_bop (c := true) (e_cmp rfl rfl eq_emp) (e_last (e_cmp rfl rfl rfl))) (fun _ => ?_) fun q => nomatch q
    have K2 : KeptQ (fun n => paint (col1 col H (hand sk nd) x) H2.length y n = y) H2 kk ps ss := K1.two u hxy.symm
    refine kept_person (PG := Th _ _) (r := [exprS (mbE .append (subE (varE 11) (cstE (.int 0))) [(cstE (.str "x"))])]) K2 (paint_ge (Nat.le_refl _)) (by lia) (persW_zero hz).2 rfl rfl rfl rfl fun H3 K3 v => ?_
    have g : H3[H.length]? = some (.lst (sk.map .str)) := (v.2 _ (Nat.lt_of_lt_of_le hm u.1) (nq ((paint_lt (Nat.lt_of_lt_of_le hm u.1)).trans h9) hy.symm)).trans ((u.2 _ hm (nq h9 hx.symm)).trans hand0)
    refine p_expr (P := Th _ _) (e_append (n := H.length) (e_sub rfl rfl rfl) g (l_one rfl) g (by rw [List.length_map]; have := D.hskl; lia)) (th_nil ?_)
    refine p_skip (e_bop (c := true) (e_cmp rfl rfl eq_emp) (e_last (e_cmp rfl rfl rfl))) ?_
    refine p_skip (e_bop (c := true) (e_cmp rfl rfl eq_emp) (e_last (e_cmp rfl rfl rfl))) ?_
    exact p_ret rfl (fin _ (Dn.yes (l := hand sk nd) (r := H.length) hx hy hxy (Nat.le_refl _) hm (G.addP hn hz D.hnm D.hskl) u B2 v K3 true))
theorem deed_1 (W : Law05 R) (hx : x ≠ 9) (hy : y ≠ 9) (hxy : x ≠ y) (B : BookQ (fun n => col n = x) H b ps ss) (K : KeptQ (fun n => col n = y) H kk ps ss) (G : Good n ps ss) (hn : n < 100) (D : Dd nm sk num st nd 1)
    (fin : ∀ H', Dn x y col H b kk (n + 1) H' → PG (.ret (.bool true) H')) :
    PG (seqS (l05_11 (R (k + 5)) false) (rD b kk c m nm sk odd num st nd 1 (some (.lst [st, .none])) (some (.str (word (restW (ps.map (·.name)) nm st)))) none) (H ++ hand sk nd)) := by
  have B1 : BookQ (fun n => col1 col H (hand sk nd) x n = x) (H ++ hand sk nd) b ps ss := B.one
  have K1 : KeptQ (fun n => col1 col H (hand sk nd) x n = y) (H ++ hand sk nd) kk ps ss := K.one
  obtain ⟨fs, hb⟩ := B1.at
  have hm : H.length < (H ++ hand sk nd).length := by rw [hand_len]; lia
  have ge := G.le
  refine deed_B (way := 1) W hb (.inr (.inl rfl)) (restW_le _ _ _)
    (Kf := fun H2 H' => ∃ s i p, st = stAV s ∧ ps[i]? = some p ∧ p.name = nm ∧ BookQ (fun n => col1 col H (hand sk nd) x n = x) H' b (ps.set i { p with rests := p.rests ++ [s] }) ss ∧ UpQ (fun n => col1 col H (hand sk nd) x n = x) H2 H')
    (fun j H2 u => add_rest_any (k := j) W.bk (B1.up u) G.pn (fun p hp => Nat.le_trans (G.rf p hp) (by lia)) D.hst)
    (one' := st) (two' := .none) (fun H a12 a13 => e_sub (e_lst (l_three (e_lst (l_two rfl rfl) (by simp) rfl) (e_lst (l_two rfl rfl) (by simp) rfl) (e_lst (l_two rfl rfl) (by simp) rfl)) (by simp) rfl) rfl rfl)
    (fun H' h => ⟨D.hst.pk.dens, Sc.none.pk.up.dens⟩) (fun hz H2 q => ?_) fun hz H' u => deed_no hz (fin H' (.no B K G hn (Up.app.trans (u.mono (Nat.le_of_lt hm)))))
  obtain ⟨s, i, p, rfl, hi, rfl, B2, u⟩ := q
  refine p_skip (H₁ := H2) (e_bop (c := true) (e_cmp rfl rfl eq_emp) (e_last (e_cmp rfl rfl rfl))) ?_
  refine p_if (x := true) (H₁ := H2) (e_bop (c := true) (e_cmp rfl rfl eq_emp) (e_last (e_cmp rfl rfl rfl))) (fun _ => ?_) fun q => nomatch q
  have K2 : KeptQ (fun n => paint (col1 col H (hand sk nd) x) H2.length y n = y) H2 kk ps ss := K1.two u hxy.symm
  refine kept_rest (PG := Th _ _) (r := []) (i := i) (p := p) (st := s) K2 G.pn hi (Nat.le_trans (G.rf p (List.mem_of_getElem? hi)) (by lia)) rfl rfl rfl fun H3 K3 v => th_nil ?_
  refine p_skip (H₁ := H3) (e_bop (c := true) (e_cmp rfl rfl eq_emp) (e_last (e_cmp rfl rfl rfl))) ?_
  exact p_ret rfl (fin _ (Dn.yes (l := hand sk nd) (r := H.length) (o := .lst []) hx hy hxy (Nat.le_refl _) hm (G.rest hn hi) u B2 v K3 false))
theorem nd_int {ns : List (Str × Int)} : (ns.map intN).map ndAV = ns.map needAV := by rw [List.map_map]; rfl
theorem deed_2 (W : Law05 R) (hx : x ≠ 9) (hy : y ≠ 9) (hxy : x ≠ y) (B : BookQ (fun n => col n = x) H b ps ss) (K : KeptQ (fun n => col n = y) H kk ps ss) (G : Good n ps ss) (hn : n < 100) (D : Dd nm sk num st nd 2)
    (fin : ∀ H', Dn x y col H b kk (n + 1) H' → PG (.ret (.bool true) H')) :
    PG (seqS (l05_11 (R (k + 5)) false) (rD b kk c m nm sk odd num st nd 2 (some (.lst [st, .ref (H.length + 1)])) (some (.str (word (shifW (ss.map (·.name)) nm st nd)))) none) (H ++ hand sk nd)) := by
  have B1 : BookQ (fun n => col1 col H (hand sk nd) x n = x) (H ++ hand sk nd) b ps ss := B.one
  have K1 : KeptQ (fun n => col1 col H (hand sk nd) x n = y) (H ++ hand sk nd) kk ps ss := K.one
  obtain ⟨fs, hb⟩ := B1.at
  have hm : H.length + 1 < (H ++ hand sk nd).length := by rw [hand_len]; lia
  have h9 : col1 col H (hand sk nd) x (H.length + 1) = 9 := col1_mid (Nat.le_succ _) hm
  have gl := G.pf
  have gs := G.sf
  have ge := G.le
  refine deed_B (way := 2) W hb (.inr (.inr rfl)) (shifW_le _ _ _ _)
    (Kf := fun H2 H' => ∃ s ns, st = stAV s ∧ nd = ns.map intN ∧ BookQ (fun n => col1 col H (hand sk nd) x n = x) H' b ps (ss ++ [⟨nm, s, ns⟩]) ∧ UpQ (fun n => col1 col H (hand sk nd) x n = x) H2 H')
    (fun j H2 u => add_shift_any (k := j) W.bk (B1.up u) (fun n h => col1_ge (Nat.le_trans u.1 h)) (r := H.length + 1) (u.get hand1) (nmG_ok D.hnm).2.1 (fun y hy => ⟨(nmG_ok (D.hnd y hy).1).2.1, (D.hnd y hy).2⟩) (Nat.le_trans D.hndl (by decide)) D.hst (by lia))
    (one' := st) (two' := .lst (nd.map ndAV)) (fun H a12 a13 => e_sub (e_lst (l_three (e_lst (l_two rfl rfl) (by simp) rfl) (e_lst (l_two rfl rfl) (by simp) rfl) (e_lst (l_two rfl rfl) (by simp) rfl)) (by simp) rfl) rfl rfl)
    (fun H' h => ⟨D.hst.pk.dens, dens_list (h.elim (fun u => u.get hand1) fun q => ?_) (nds_k D.hnd)⟩) (fun hz H2 q => ?_) fun hz H' u => deed_no hz (fin H' (.no B K G hn (Up.app.trans (u.mono (Nat.le_of_lt (Nat.lt_of_succ_lt hm))))))
  · obtain ⟨_, _, _, _, _, u⟩ := q
    exact (u.2 _ hm (nq h9 hx.symm)).trans hand1
  · obtain ⟨s, ns, rfl, rfl, B2, u⟩ := q
    refine p_skip (H₁ := H2) (e_bop (c := true) (e_cmp rfl rfl eq_emp) (e_last (e_cmp rfl rfl rfl))) ?_
    refine p_skip (H₁ := H2) (e_bop (c := true) (e_cmp rfl rfl eq_emp) (e_last (e_cmp rfl rfl rfl))) ?_
    refine p_if (x := true) (H₁ := H2) (e_bop (c := true) (e_cmp rfl rfl eq_emp) (e_last (e_cmp rfl rfl rfl))) (fun _ => ?_) fun q => nomatch q
    have K2 : KeptQ (fun n => paint (col1 col H (hand sk (ns.map intN)) x) H2.length y n = y) H2 kk ps ss := K1.two u hxy.symm
    refine kept_shift (PG := Th _ _) (r := [exprS (mbE .clear (subE (varE 11) (cstE (.int 1))) [])]) K2 (by lia) (st := s) (ns := ns) (shifW_zero hz).2 rfl rfl rfl (by show some (some (AV.lst ((ns.map intN).map ndAV))) = _; rw [nd_int]) fun H3 K3 v => ?_
    have g : H3[H.length + 1]? = some (.lst ((ns.map intN).map ndAV)) := (v.2 _ (Nat.lt_of_lt_of_le hm u.1) (nq ((paint_lt (Nat.lt_of_lt_of_le hm u.1)).trans h9) hy.symm)).trans ((u.2 _ hm (nq h9 hx.symm)).trans hand1)
    refine p_expr (P := Th _ _) (e_clear (n := H.length + 1) (e_sub rfl rfl rfl) g (by rw [List.length_map]; have := D.hndl; lia)) (th_nil ?_)
    refine p_ret rfl (fin _ (Dn.yes (l := hand sk (ns.map intN)) (r := H.length + 1) hx hy hxy (Nat.le_succ _) hm (G.addS hn hz D.hnm D.hnd (by have := D.hndl; rw [List.length_map] at this; exact this)) u B2 v K3 true))
theorem deed_run (W : Law05 R) (hx : x ≠ 9) (hy : y ≠ 9) (hxy : x ≠ y) (B : BookQ (fun n => col n = x) H b ps ss) (K : KeptQ (fun n => col n = y) H kk ps ss) (G : Good n ps ss) (hn : n < 100) :
    ∃ H', R (k + 6) false 60 [.ref b, .ref kk, .int c, .int m] H = .ok (.bool true) H' ∧ Dn x y col H b kk (n + 1) H' := by
  rw [W.l_deed _ _ _ _ rfl]
  suffices key : ∀ PG : OutS → Prop, (∀ H', Dn x y col H b kk (n + 1) H' → PG (.ret (.bool true) H')) → PG (d05_l_deed (R (k + 5)) false (rho0 [.ref b, .ref kk, .int c, .int m] 14) H) from key (fun o => ∃ H', o.done = .ok (.bool true) H' ∧ Dn x y col H b kk (n + 1) H') fun H' h => ⟨H', rfl, h⟩
  intro PG fin
  refine deed_A (k := k + 4) W fun nm sk odd num st nd way D => ?_
  have l5 := D.hskl
  have l9 := D.hndl
  have e1 : biA false (.list true) [.lst (sk.map .str)] H = .ok (.ref H.length) (H ++ [.lst (sk.map .str)]) := IsL.list (N := 0) (.inl rfl) (by rw [List.length_map]; lia)
  have e2 : biA false (.list true) [.lst (nd.map ndAV)] (H ++ [.lst (sk.map .str)]) = .ok (.ref (H.length + 1)) (H ++ hand sk nd) := by
    rw [IsL.list (N := 0) (.inl rfl) (by rw [List.length_map]; lia)]
    show Out.ok (AV.ref (H ++ [AO.lst (sk.map .str)]).length) ((H ++ [AO.lst (sk.map .str)]) ++ [AO.lst (nd.map ndAV)]) = _
    rw [List.length_append, List.append_assoc]; rfl
  obtain ⟨kp, ks, prs, A, ep, _⟩ := (K.up (Up.app (l := hand sk nd))).ex
  have en : prs.map (·.2.name) = ps.map (·.name) := by rw [← ep, List.map_map]; rfl
  rcases D.hway with rfl | rfl | rfl
  · refine p_asg (a := .lst [.ref H.length, num]) (H₁ := H ++ hand sk nd) (e_sub (e_lst (l_three (e_lst (l_two (e_bi (l_one rfl) e1) rfl) (by simp) rfl) (e_lst (l_two rfl rfl) (by simp) rfl) (e_lst (l_two rfl (e_bi (l_one rfl) e2)) (by simp) rfl)) (by simp) rfl) rfl rfl) ?_
    refine deed_due (k := k) W A.kr D ?_
    rw [en]
    exact deed_0 W hx hy hxy B K G hn D fin
  · refine p_asg (a := .lst [st, .none]) (H₁ := H ++ hand sk nd) (e_sub (e_lst (l_three (e_lst (l_two (e_bi (l_one rfl) e1) rfl) (by simp) rfl) (e_lst (l_two rfl rfl) (by simp) rfl) (e_lst (l_two rfl (e_bi (l_one rfl) e2)) (by simp) rfl)) (by simp) rfl) rfl rfl) ?_
    refine deed_due (k := k) W A.kr D ?_
    rw [en]
    exact deed_1 W hx hy hxy B K G hn D fin
  · refine p_asg (a := .lst [st, .ref (H.length + 1)]) (H₁ := H ++ hand sk nd) (e_sub (e_lst (l_three (e_lst (l_two (e_bi (l_one rfl) e1) rfl) (by simp) rfl) (e_lst (l_two rfl rfl) (by simp) rfl) (e_lst (l_two rfl (e_bi (l_one rfl) e2)) (by simp) rfl)) (by simp) rfl) rfl rfl) ?_
    refine deed_due (k := k) W A.kr D ?_
    rw [en]
    exact deed_2 W hx hy hxy B K G hn D fin
end
section
variable {H H' : AH} {m n : Nat} {es : List (Key × AV)} {o : AO} {l : List AV}
theorem set_self (h : H[n]? = some o) : H.set n o = H := by
  refine List.ext_getElem? fun j => ?_
  rw [List.getElem?_set]
  split
  · rename_i e
    subst e
    rw [if_pos (List.getElem?_eq_some_iff.mp h).1, h]
  · rfl
theorem filter_no {α : Type} {l : List α} : l.filter (fun _ => false) = [] := by simp
theorem dc_loc (h : H[n]? = some (.ldict es)) : dcOf H (.ref n) = some (n, es) := dcOf_at h
theorem dc_same (h : H'[n]? = H[n]?) : dcOf H' (.ref n) = dcOf H (.ref n) := (dcOf_at h).trans (dcOf_at rfl).symm
theorem isl_ref (h : H[n]? = some (.lst l)) : isiAny gmC H (.ref n) [.lst] = some true := by
  show (kdOf H (.ref n)).map (fun k => isK k .lst) = _
  rw [kdOf_at h]; rfl
theorem lock_up (h : H[m]? = some (.dict es)) (u : Up H.length (H.set m (.ldict es)) H') : Up H.length H (H'.set m (.dict es)) := by
  have hm := (List.getElem?_eq_some_iff.mp h).1
  have hl : H.length ≤ H'.length := by have := u.1; rw [List.length_set] at this; exact this
  refine ⟨by rw [List.length_set]; exact hl, fun n hn => ?_⟩
  by_cases e : m = n
  · subst e
    rw [get_set_eq (Nat.lt_of_lt_of_le hm hl), h]
  · rw [get_set_ne e, u.2 n hn, get_set_ne e]
end
section
variable {R : Nat → Bool → FT} {k n b kk kp ks : Nat} {H : AH} {prs : List (Nat × Pm)} {ps : List Pm} {ss : List Sm} {PG : OutS → Prop}
theorem posts_app {ss : List Sm} {j : Nat} {s : Sm} (h : ss[j]? = some s) : (postsM (ss.take j)).map postAV ++ s.needs.map (fun n => postAV (s.name, n.1)) = (postsM (ss.take (j + 1))).map postAV := by
  unfold postsM
  rw [flat_take h, List.map_append]
  congr 1
  unfold postsS
  rw [List.map_map]; rfl
theorem kept_posts (W : Law05 R) (A : KeptAt H kk kp ks prs ss) (G : Good n ps ss) : R (k + 1) false 45 [.ref kk] H = .ok (.lst ((postsM ss).map postAV)) H := by
  rw [W.l_posts _ _ _ _ rfl]
  refine via fun PG fin => ?_
  have nd := A.nodup
  have n1 : ks ≠ kk := fun q => (List.nodup_cons.mp nd).1 (q ▸ .tail _ (.head _))
  have hks : ks < H.length := A.lt _ (.tail _ (.tail _ (.head _)))
  refine p_asg (a := .lst []) (H₁ := H) rfl ?_
  have top : (H.set ks (.ldict (ksD ss)))[kk]? = some (.dict (topD kp ks)) := (get_set_ne n1).trans A.top
  have loc : (H.set ks (.ldict (ksD ss)))[ks]? = some (.ldict (ksD ss)) := get_set_eq hks
  refine p_forD (m := ks) (es := ksD ss) (H₁ := H) (e_sub rfl rfl (sub_key A.top rfl)) A.sd
    (fun j ρ H' => A2 (H' = H.set ks (.ldict (ksD ss))) (∃ o, ρ = [some (.ref kk), some (.lst ((postsM (ss.take j)).map postAV)), o])) ⟨rfl, _, rfl⟩ (fun j ρ H' h => by rw [h.1]; exact loc) ?_ ?_
  · rintro J j v ρ H' hv ⟨rfl, o, rfl⟩ hJ
    unfold ksD at hv
    rw [List.map_map, List.getElem?_map] at hv
    refine x1_2 (Option.map_eq_some_iff.mp hv) fun s hj e2' => ?_; subst e2'
    have hs := List.mem_of_getElem? hj
    have lk : (ksD ss).lookup (.str s.name) = some (ksV s) := look_keys (f := fun s : Sm => s.name) (g := ksV) hs G.sn
    have hf := G.nf s hs
    have sz : 1000 ≤ sizeLine := by decide
    have pl := posts_len (l := ss.take j) fun x hx => G.nf x (List.mem_of_mem_take hx)
    have tl : (ss.take j).length ≤ 100 := by rw [List.length_take]; have := G.sf; have := G.le; lia
    show Nx _ _ ((_ : DS) [some (.ref kk), some (.lst ((postsM (ss.take j)).map postAV)), some (.str s.name)] _)
    refine p_asg (a := .lst ((postsM (ss.take (j + 1))).map postAV)) (H₁ := H.set ks (.ldict (ksD ss))) (e_bin rfl (e_mapF (a := .lst (s.needs.map needAV)) (H₁ := H.set ks (.ldict (ksD ss))) (l := s.needs) (fx := needAV) (fy := fun n => postAV (s.name, n.1)) (e_sub (e_sub (e_sub rfl rfl (sub_key top rfl)) rfl (sub_keyL loc lk)) rfl rfl) (.inl rfl) (by lia) (fun n _ => e_tup (l_two rfl (e_sub rfl rfl sub2_0)) (by simp)) rfl) ((addL ?_).trans ?_)) (nx_next (hJ _ _ ⟨rfl, _, rfl⟩))
    · rw [List.length_map, List.length_map]; lia
    · rw [posts_app hj]; rfl
  · rintro ρ H' ⟨rfl, o, rfl⟩
    have e : (ksD ss).length = ss.length := by unfold ksD; rw [List.length_map]
    rw [e, List.take_length, List.set_set, set_self A.sd]
    exact p_ret rfl fin
theorem posts_pl {l : List (Str × Str)} : ∀ v ∈ l.map postAV, PlV v := pl_map fun _ => pl_post
theorem strs_pl {α : Type} {l : List α} {f : α → Str} : ∀ v ∈ l.map fun p => AV.str (f p), PlV v := pl_map fun _ => plv_str
noncomputable def tri (ps : List Pm) (ss : List Sm) : AH := [.lst (ps.map fun p => .str p.name), .lst (ss.map fun s => .str s.name), .lst ((postsM ss).map postAV)]
theorem tri_len : (H ++ tri ps ss).length = H.length + 3 := by rw [List.length_append]; rfl
theorem tri_0 : (H ++ tri ps ss)[H.length]? = some (.lst (ps.map fun p => .str p.name)) := get_l0
theorem tri_1 : (H ++ tri ps ss)[H.length + 1]? = some (.lst (ss.map fun s => .str s.name)) := get_l1
theorem get_l2 {o o' o'' : AO} {l : AH} : (H ++ o :: o' :: o'' :: l)[H.length + 2]? = some o'' := by simp
theorem tri_2 : (H ++ tri ps ss)[H.length + 2]? = some (.lst ((postsM ss).map postAV)) := get_l2
theorem tri_ev (W : Law05 R) (B : BookOf 0 H b ps ss) (G : Good n ps ss) {ρ : RE} (h0 : ρ[0]? = some (some (.ref b))) : lstE false [(moE gmC (R (k + 1) false) 6 (varE 0) []), (moE gmC (R (k + 1) false) 7 (varE 0) []), (moE gmC (R (k + 1) false) 8 (varE 0) [])] ρ H = .ok (.lst [.ref H.length, .ref (H.length + 1), .ref (H.length + 2)]) (H ++ tri ps ss) := by
  obtain ⟨fs, hb⟩ := B.at
  have B1 := B.up (Up.app (l := [AO.lst (ps.map fun p => .str p.name)]))
  have B2 := B1.up (Up.app (l := [AO.lst (ss.map fun s => .str s.name)]))
  obtain ⟨fs1, hb1⟩ := B1.at
  obtain ⟨fs2, hb2⟩ := B2.at
  have e1 := people_of (k := k) W B
  have e2 := shifts_of (k := k) W B1
  have e3 := posts_of (k := k) W B2 G
  have q2 : (H ++ [AO.lst (ps.map fun p => .str p.name)]).length = H.length + 1 := by rw [List.length_append]; rfl
  have q3 : ((H ++ [AO.lst (ps.map fun p => .str p.name)]) ++ [AO.lst (ss.map fun s => .str s.name)]).length = H.length + 2 := by rw [List.length_append, q2]; rfl
  have q4 : ((H ++ [AO.lst (ps.map fun p => .str p.name)]) ++ [AO.lst (ss.map fun s => .str s.name)]) ++ [AO.lst ((postsM ss).map postAV)] = H ++ tri ps ss := by rw [List.append_assoc, List.append_assoc]; rfl
  rw [q2] at e2
  rw [q3, q4] at e3
  exact e_lst (l_three (e_mo (e_var h0) hb (i := 18) rfl l_nil e1) (e_mo (e_var h0) hb1 (i := 19) rfl l_nil e2) (e_mo (e_var h0) hb2 (i := 20) rfl l_nil e3)) (by simp) rfl
theorem due_ev (W : Law05 R) (A : KeptAt H kk kp ks prs ss) (ep : prs.map (·.2) = ps) (G : Good n ps ss) {ρ : RE} (h1 : ρ[1]? = some (some (.ref kk))) : lstE false [(biE false (.list false) [(subE (varE 1) (cstE (.str "people")))]), (biE false (.list false) [(subE (varE 1) (cstE (.str "shifts")))]), (callE (R (k + 1) false) 45 [(varE 1)])] ρ H = .ok (.lst [.lst (ps.map fun p => .str p.name), .lst (ss.map fun s => .str s.name), .lst ((postsM ss).map postAV)]) H := by
  have l1 : (kpD prs).length ≤ 1000 := by
    unfold kpD; rw [List.length_map]
    have h1 := G.pf; have := G.le; rw [← ep, List.length_map] at h1
    lia
  have l2 : (ksD ss).length ≤ 1000 := by
    unfold ksD; rw [List.length_map]
    have := G.sf; have := G.le
    lia
  have e1 : biA false (.list false) [.ref kp] H = .ok (.lst (ps.map fun p => .str p.name)) H := by
    rw [list_dc (dc_at A.pd) l1, ← ep]
    unfold kpD
    rw [List.map_map, List.map_map]; rfl
  have e2 : biA false (.list false) [.ref ks] H = .ok (.lst (ss.map fun s => .str s.name)) H := by
    rw [list_dc (dc_at A.sd) l2]
    unfold ksD
    rw [List.map_map]; rfl
  exact e_lst (l_three (e_bi (l_one (A.kr.people (e_var h1))) e1) (e_bi (l_one (A.kr.shifts (e_var h1))) e2) (e_call (l_one (e_var h1)) (kept_posts W A G))) (by simp) rfl
theorem lists_run (W : Law05 R) {Q Q' : Nat → Prop} (B : BookQ Q H b ps ss) (K : KeptQ Q' H kk ps ss) (G : Good n ps ss) : ∃ H', R (k + 2) false 61 [.ref b, .ref kk] H = .ok (.bool true) H' ∧ Up H.length H H' := by
  rw [W.l_lists _ _ _ _ rfl]
  suffices key : ∀ PG : OutS → Prop, (∀ H', Up H.length H H' → PG (.ret (.bool true) H')) → PG (d05_l_lists (R (k + 1)) false (rho0 [.ref b, .ref kk] 5) H) from key (fun o => ∃ H', o.done = .ok (.bool true) H' ∧ Up H.length H H') fun H' h => ⟨H', rfl, h⟩
  intro PG fin
  have gp := G.pf
  have gs := G.sf
  have ge := G.le
  have pl := posts_len G.nf
  refine p_asg (a := .lst [.ref H.length, .ref (H.length + 1), .ref (H.length + 2)]) (H₁ := H ++ tri ps ss) (tri_ev W (B.of fun _ _ => Nat.zero_le _) G rfl) ?_
  refine x3_3 ((K.up (Up.app (l := tri ps ss))).ex) fun kp ks prs A ep _ => ?_
  refine p_asg (a := .lst [.lst (ps.map fun p => .str p.name), .lst (ss.map fun s => .str s.name), .lst ((postsM ss).map postAV)]) (H₁ := H ++ tri ps ss) (due_ev W A ep G rfl) ?_
  show PG (seqS _ [some (.ref b), some (.ref kk), some (.lst [.ref H.length, .ref (H.length + 1), .ref (H.length + 2)]), some (.lst [.lst (ps.map fun p => .str p.name), .lst (ss.map fun s => .str s.name), .lst ((postsM ss).map postAV)]), none] _)
  have isl : IsL (H ++ tri ps ss).length (H ++ tri ps ss) (.ref (H.length + 2)) ((postsM ss).map postAV) := .inr ⟨_, rfl, by rw [tri_len]; lia, tri_2⟩
  have cp : compE false false (varE 5) (subE (varE 2) (cstE (.int 2))) (ntE (isiE gmC (varE 5) [.tup])) [some (.ref b), some (.ref kk), some (.lst [.ref H.length, .ref (H.length + 1), .ref (H.length + 2)]), some (.lst [.lst (ps.map fun p => .str p.name), .lst (ss.map fun s => .str s.name), .lst ((postsM ss).map postAV)]), none] (H ++ tri ps ss) = .ok (.lst []) (H ++ tri ps ss) := by
    refine e_compF (a := .ref (H.length + 2)) (H₁ := H ++ tri ps ss) (l := postsM ss) (fx := postAV) (fy := postAV) (p := fun _ => false) (e_sub rfl rfl rfl) isl (by lia) (fun x _ => e_nt (x := true) (e_isi rfl rfl)) (fun _ _ q => nomatch q) ?_
    rw [filter_no]; rfl
  refine p_skip (H₁ := H ++ tri ps ss) (e_bop (c := false) (e_nt (x := true) (e_isi (e_sub rfl rfl rfl) (isl_ref tri_2))) (e_last (e_cmp cp rfl rfl))) ?_
  generalize hX : AV.str "x" = X
  refine p_for (a := .rng 0 3) (H₁ := H ++ tri ps ss) (xs := span 0 3) (n := 3) rfl (range_src (by decide) (by decide)) rfl
    (fun j ρ H' => A2 (H' = H ++ [.lst ((ps.map fun p => AV.str p.name) ++ if 0 < j then [X] else []), .lst ((ss.map fun s => AV.str s.name) ++ if 1 < j then [X] else []), .lst (((postsM ss).map postAV) ++ if 2 < j then [X] else [])]) (∃ o, ρ = [some (.ref b), some (.ref kk), some (.lst [.ref H.length, .ref (H.length + 1), .ref (H.length + 2)]), some (.lst [.lst (ps.map fun p => .str p.name), .lst (ss.map fun s => .str s.name), .lst ((postsM ss).map postAV)]), o])) ⟨by simp [tri], _, rfl⟩ ?_ ?_
  · rintro J j v ρ H' hv ⟨rfl, o, rfl⟩ hJ
    match j, hv with
    | 0, hv =>
      cases hv
      simp only [Nat.lt_irrefl, if_false, List.append_nil, Nat.not_lt_zero]
      generalize hH : H ++ [AO.lst (ps.map fun p => AV.str p.name), .lst (ss.map fun s => AV.str s.name), .lst ((postsM ss).map postAV)] = H0
      have g : H0[H.length]? = some (.lst (ps.map fun p => AV.str p.name)) := by rw [← hH]; exact get_l0
      show Nx _ _ ((_ : DS) [some (.ref b), some (.ref kk), some (.lst [.ref H.length, .ref (H.length + 1), .ref (H.length + 2)]), some (.lst [.lst (ps.map fun p => .str p.name), .lst (ss.map fun s => .str s.name), .lst ((postsM ss).map postAV)]), some (.int 0)] _)
      refine p_skip (H₁ := H0) (e_bop (c := false) (e_nt (x := true) (e_isi (e_sub rfl rfl rfl) (isl_ref g))) (e_last (e_cmp (e_sub rfl rfl rfl) (e_sub rfl rfl rfl) (same_ne (N := H.length + 1) (M := 0) strs_pl (.inr ⟨_, rfl, by lia, g⟩) (.inl rfl))))) ?_
      refine p_expr (e_append (n := H.length) (e_sub rfl rfl rfl) g (l_one rfl) g (by rw [List.length_map]; lia)) (nx_next (hJ _ _ ⟨?_, _, rfl⟩))
      rw [← hH, set_l0, hX]; simp
    | 1, hv =>
      cases hv
      generalize hL : (ps.map fun p => AV.str p.name) ++ (if 0 < 1 then [X] else []) = L0
      simp only [Nat.lt_irrefl, if_false, List.append_nil, show ¬ 2 < 1 by decide]
      generalize hH : H ++ [AO.lst L0, .lst (ss.map fun s => AV.str s.name), .lst ((postsM ss).map postAV)] = H0
      have g : H0[H.length + 1]? = some (.lst (ss.map fun s => AV.str s.name)) := by rw [← hH]; exact get_l1
      show Nx _ _ ((_ : DS) [some (.ref b), some (.ref kk), some (.lst [.ref H.length, .ref (H.length + 1), .ref (H.length + 2)]), some (.lst [.lst (ps.map fun p => .str p.name), .lst (ss.map fun s => .str s.name), .lst ((postsM ss).map postAV)]), some (.int 1)] _)
      refine p_skip (H₁ := H0) (e_bop (c := false) (e_nt (x := true) (e_isi (e_sub rfl rfl rfl) (isl_ref g))) (e_last (e_cmp (e_sub rfl rfl rfl) (e_sub rfl rfl rfl) (same_ne (N := H.length + 2) (M := 0) strs_pl (.inr ⟨_, rfl, by lia, g⟩) (.inl rfl))))) ?_
      refine p_expr (e_append (n := H.length + 1) (e_sub rfl rfl rfl) g (l_one rfl) g (by rw [List.length_map]; lia)) (nx_next (hJ _ _ ⟨?_, _, rfl⟩))
      rw [← hH, set_l1, hX, ← hL]; simp
    | 2, hv =>
      cases hv
      generalize hL : (ps.map fun p => AV.str p.name) ++ (if 0 < 2 then [X] else []) = L0
      generalize hM : (ss.map fun s => AV.str s.name) ++ (if 1 < 2 then [X] else []) = L1
      simp only [Nat.lt_irrefl, if_false, List.append_nil]
      generalize hH : H ++ [AO.lst L0, .lst L1, .lst ((postsM ss).map postAV)] = H0
      have g : H0[H.length + 2]? = some (.lst ((postsM ss).map postAV)) := by rw [← hH]; exact get_l2
      show Nx _ _ ((_ : DS) [some (.ref b), some (.ref kk), some (.lst [.ref H.length, .ref (H.length + 1), .ref (H.length + 2)]), some (.lst [.lst (ps.map fun p => .str p.name), .lst (ss.map fun s => .str s.name), .lst ((postsM ss).map postAV)]), some (.int 2)] _)
      refine p_skip (H₁ := H0) (e_bop (c := false) (e_nt (x := true) (e_isi (e_sub rfl rfl rfl) (isl_ref g))) (e_last (e_cmp (e_sub rfl rfl rfl) (e_sub rfl rfl rfl) (same_ne (N := H.length + 3) (M := 0) posts_pl (.inr ⟨_, rfl, by lia, g⟩) (.inl rfl))))) ?_
      refine p_expr (e_append (n := H.length + 2) (e_sub rfl rfl rfl) g (l_one rfl) g (by rw [List.length_map]; lia)) (nx_next (hJ _ _ ⟨?_, _, rfl⟩))
      rw [← hH, hX, ← hL, ← hM, List.set_append_right _ _ (by lia), show H.length + 2 - H.length = 2 by lia]; rfl
    | n + 3, hv => cases hv
  · rintro ρ H' ⟨rfl, o, rfl⟩
    exact p_ret rfl (fin _ Up.app)
end
section
variable {P : OutS → Prop} {ρ : RE} {H H₁ : AH} {e : DE} {es : List DE} {r : List DS} {b : DS} {hot : Bool} {c : Nat} {t : Tg}
theorem p_retX (h : e ρ H = .exc c H₁) (q : P (.exc c ρ H₁)) : P (seqS (retS e :: r) ρ H) := by
  show P ((retS e ρ H).then _); unfold retS; rw [h]; exact q
theorem p_forX (h : e ρ H = .exc c H₁) (q : P (.exc c ρ H₁)) : P (seqS (forS hot t e b :: r) ρ H) := by
  show P ((forS hot t e b ρ H).then _); unfold forS; rw [h]; exact q
theorem e_attrX {k : Nat} (h : e ρ H = .exc c H₁) : attrE k e ρ H = .exc c H₁ := by unfold attrE; rw [h]; rfl
theorem l_oneX (h : e ρ H = .exc c H₁) : evL [e] ρ H = .exc c H₁ := by show (e ρ H).bind _ = _; rw [h]; rfl
theorem e_biX {f : Bi} (h : evL es ρ H = .exc c H₁) : biE hot f es ρ H = .exc c H₁ := by unfold biE; rw [h]; rfl
theorem viaX {d : OutS} (key : ∀ PG : OutS → Prop, (∀ ρ, PG (.exc c ρ H)) → PG d) : d.done = .exc c H := key (fun o => o.done = .exc c H) fun _ => rfl
end
section
variable {R : Nat → Bool → FT} {k n N b : Nat} {H : AH} {ps : List Pm} {ss : List Sm} {x : Str} {PG : OutS → Prop}
theorem no_skills (W : Law05 R) (B : BookOf N H b ps ss) (hx : x ∉ ps.map (·.name)) : R (k + 2) false 21 [.ref b, .str x] H = .exc 5 H := by
  rw [W.skills_of _ _ _ _ rfl]
  refine x4_4 (B.ex) fun fd wd prs srs A e5' e6' hN => ?_
  rw [← names_eq e5'] at hx
  exact viaX fun PG fin => p_retX (e_biX (l_oneX (e_attrX (e_mo rfl A.book (i := 16) rfl (l_one rfl) (no_person_run (k := k) W.bk A hx))))) (fin _)
theorem no_rests (W : Law05 R) (B : BookOf N H b ps ss) (hx : x ∉ ps.map (·.name)) : R (k + 2) false 22 [.ref b, .str x] H = .exc 5 H := by
  rw [W.rests_of _ _ _ _ rfl]
  refine x4_4 (B.ex) fun fd wd prs srs A e5' e6' hN => ?_
  rw [← names_eq e5'] at hx
  exact viaX fun PG fin => p_retX (e_biX (l_oneX (e_attrX (e_mo rfl A.book (i := 16) rfl (l_one rfl) (no_person_run (k := k) W.bk A hx))))) (fin _)
theorem no_limit (W : Law05 R) (B : BookOf N H b ps ss) (hx : x ∉ ps.map (·.name)) : R (k + 2) false 23 [.ref b, .str x] H = .exc 5 H := by
  rw [W.limit_of _ _ _ _ rfl]
  refine x4_4 (B.ex) fun fd wd prs srs A e5' e6' hN => ?_
  rw [← names_eq e5'] at hx
  exact viaX fun PG fin => p_retX (e_attrX (e_mo rfl A.book (i := 16) rfl (l_one rfl) (no_person_run (k := k) W.bk A hx))) (fin _)
theorem no_stretch (W : Law05 R) (B : BookOf N H b ps ss) (hx : x ∉ ss.map (·.name)) : R (k + 2) false 24 [.ref b, .str x] H = .exc 5 H := by
  rw [W.stretch_of _ _ _ _ rfl]
  refine x4_4 (B.ex) fun fd wd prs srs A e5' e6' hN => ?_
  rw [← names_eqS e6'] at hx
  exact viaX fun PG fin => p_retX (e_attrX (e_mo rfl A.book (i := 17) rfl (l_one rfl) (no_shift_run (k := k) W.bk A hx))) (fin _)
theorem no_shift_count (W : Law05 R) (B : BookOf N H b ps ss) (hx : x ∉ ss.map (·.name)) {y : Str} : R (k + 2) false 25 [.ref b, .str x, .str y] H = .exc 5 H := by
  rw [W.count_of _ _ _ _ rfl]
  refine x4_4 (B.ex) fun fd wd prs srs A e5' e6' hN => ?_
  rw [← names_eqS e6'] at hx
  exact viaX fun PG fin => p_forX (e_attrX (e_mo rfl A.book (i := 17) rfl (l_one rfl) (no_shift_run (k := k) W.bk A hx))) (fin _)
theorem nopost_run (W : Law05 R) (B : BookOf N H b ps ss) (G : Good n ps ss) {s : Sm} (hs : s ∈ ss) {x : Str} (hx : x ∉ s.needs.map (·.1)) : R (k + 3) false 64 [.ref b, .str s.name, .str x] H = .ok (.bool true) H := by
  rw [W.l_no_post _ _ _ _ rfl]
  obtain ⟨fs, hb⟩ := B.at
  refine via fun PG fin => ?_
  refine p_try (r := [retS (cstE (.bool false))]) fun P n1 n2 n3 => ?_
  exact p_exprX (e_mo rfl hb (i := 25) rfl (l_two rfl rfl) (no_count (k := k) W B G hs hx)) (n3 _ _ _ fin)
theorem miss_hand (W : Law05 R) {C i : Int} : handS gmC [(0, some 3, (d05_l_all_missing_b1 (R (k + 1)) false))] 5 [some (.ref b), some (.int C), some (.int i), none] H = .next [some (.ref b), some (.int (C + 1)), some (.int i), none] H := by
  have e : d05_l_all_missing_b1 (R (k + 1)) false [some (.ref b), some (.int C), some (.int i), some (.exc 5)] H = .next [some (.ref b), some (.int (C + 1)), some (.int i), some (.exc 5)] H := by
    have q : cmpA H .Eq (.str (word 5)) (.str "missing") = some true := by rw [eq_strs]; exact congrArg some (decide_eq_true rfl)
    exact s_asg (a := .int (C + 1)) (H₁ := H) (e_bin rfl (e_bi (l_one (e_cmp (e_call (l_one rfl) (word_run (k := k) W 5 (by decide) (by decide))) rfl q)) rfl) addI) rfl
  show dropJ (some 3) (d05_l_all_missing_b1 (R (k + 1)) false [some (.ref b), some (.int C), some (.int i), some (.exc 5)] H) = _
  rw [e]; rfl
theorem miss_turn (W : Law05 R) {J : RE → AH → Prop} {C i : Int} (hb : ∀ P : OutS → Prop, P (.exc 5 [some (.ref b), some (.int C), some (.int i), none] H) → P (d05_l_all_missing_b5 (R (k + 1)) false [some (.ref b), some (.int C), some (.int i), none] H)) (hJ : J [some (.ref b), some (.int (C + 1)), some (.int i), none] H) :
    Nx J PG (d05_l_all_missing_b6 (R (k + 1)) false [some (.ref b), some (.int C), some (.int i), none] H) := by
  refine p_try (PG := Nx J PG) (r := []) fun P n1 n2 n3 => hb P (n3 _ _ _ ?_)
  rw [miss_hand W]
  exact hJ
theorem missing_run (W : Law05 R) (B : BookOf N H b ps ss) (G : Good n ps ss) : R (k + 3) false 65 [.ref b] H = .ok (.bool true) H := by
  rw [W.l_missing _ _ _ _ rfl]
  obtain ⟨fs, hb⟩ := B.at
  refine via fun PG fin => ?_
  refine p_asg (a := .int 0) (H₁ := H) rfl ?_
  refine p_for (a := .rng 0 5) (H₁ := H) (xs := span 0 5) (n := 5) rfl (range_src (by decide) (by decide)) rfl
    (fun j ρ H' => A2 (H' = H) (Ex2 fun (C : Int) o => C = j ∧ ρ = [some (.ref b), some (.int C), o, none])) ⟨rfl, 0, _, rfl, rfl⟩ ?_ ?_
  · rintro J j v ρ H' hv ⟨rfl, C, o, hC, rfl⟩ hJ
    have next : ∀ i : Int, J [some (.ref b), some (.int (C + 1)), some (.int i), none] H' := fun i => hJ _ _ ⟨rfl, _, _, by lia, rfl⟩
    clear hJ hC
    match j, hv with
    | 0, hv =>
      cases hv
      exact miss_turn (i := 0) W (fun P q => p_if (x := true) (H₁ := H') (e_cmp rfl rfl rfl) (fun _ => p_exprX (P := Th _ _) (e_mo rfl hb (i := 21) rfl (l_one rfl) (no_skills (k := k) W B G.nob)) q) fun q => nomatch q) (next 0)
    | 1, hv =>
      cases hv
      exact miss_turn (i := 1) W (fun P q => p_if (x := false) (H₁ := H') (e_cmp rfl rfl rfl) (fun q => nomatch q) fun _ =>
        p_if (P := Th _ _) (x := true) (H₁ := H') (e_cmp rfl rfl rfl) (fun _ => p_exprX (P := Th _ _) (e_mo rfl hb (i := 22) rfl (l_one rfl) (no_rests (k := k) W B G.nob)) q) fun q => nomatch q) (next 1)
    | 2, hv =>
      cases hv
      exact miss_turn (i := 2) W (fun P q => p_if (x := false) (H₁ := H') (e_cmp rfl rfl rfl) (fun q => nomatch q) fun _ =>
        p_if (P := Th _ _) (x := false) (H₁ := H') (e_cmp rfl rfl rfl) (fun q => nomatch q) fun _ =>
        p_if (P := Th _ _) (x := true) (H₁ := H') (e_cmp rfl rfl rfl) (fun _ => p_exprX (P := Th _ _) (e_mo rfl hb (i := 23) rfl (l_one rfl) (no_limit (k := k) W B G.nob)) q) fun q => nomatch q) (next 2)
    | 3, hv =>
      cases hv
      exact miss_turn (i := 3) W (fun P q => p_if (x := false) (H₁ := H') (e_cmp rfl rfl rfl) (fun q => nomatch q) fun _ =>
        p_if (P := Th _ _) (x := false) (H₁ := H') (e_cmp rfl rfl rfl) (fun q => nomatch q) fun _ =>
        p_if (P := Th _ _) (x := false) (H₁ := H') (e_cmp rfl rfl rfl) (fun q => nomatch q) fun _ =>
        p_if (P := Th _ _) (x := true) (H₁ := H') (e_cmp rfl rfl rfl) (fun _ => p_exprX (P := Th _ _) (e_mo rfl hb (i := 24) rfl (l_one rfl) (no_stretch (k := k) W B G.nev)) q) fun q => nomatch q) (next 3)
    | 4, hv =>
      cases hv
      exact miss_turn (i := 4) W (fun P q => p_if (x := false) (H₁ := H') (e_cmp rfl rfl rfl) (fun q => nomatch q) fun _ =>
        p_if (P := Th _ _) (x := false) (H₁ := H') (e_cmp rfl rfl rfl) (fun q => nomatch q) fun _ =>
        p_if (P := Th _ _) (x := false) (H₁ := H') (e_cmp rfl rfl rfl) (fun q => nomatch q) fun _ =>
        p_if (P := Th _ _) (x := false) (H₁ := H') (e_cmp rfl rfl rfl) (fun q => nomatch q) fun _ =>
        p_exprX (P := Th _ _) (e_mo rfl hb (i := 25) rfl (l_two rfl rfl) (no_shift_count (k := k) W B G.nev)) q) (next 4)
    | n + 5, hv => cases hv
  · rintro ρ H' ⟨rfl, C, o, hC, rfl⟩
    have hC : C = 5 := hC
    subst hC
    exact p_ret rfl fin
end
section
variable {R : Nat → Bool → FT} {k n N b kk kp ks x y : Nat} {H H' : AH} {prs : List (Nat × Pm)} {ps : List Pm} {ss : List Sm} {PG : OutS → Prop} {col : Nat → Nat}
theorem dc_lt {m : Nat} {z : Nat × List (Key × AV)} (h : dcOf H (.ref m) = some z) : m < H.length := by
  refine Nat.lt_of_not_le fun q => ?_
  rw [dcOf_at (List.getElem?_eq_none q)] at h
  cases h
theorem KR.up (K : KR H kk kp ks prs ss) (u : Up H.length H H') : KR H' kk kp ks prs ss := ⟨u.get K.top, (dc_same (u.2 _ (dc_lt K.pd))).trans K.pd, (dc_same (u.2 _ (dc_lt K.sd))).trans K.sd, fun p hp => u.get (K.rs p hp)⟩
theorem KeptAt.lockP (A : KeptAt H kk kp ks prs ss) : KR (H.set kp (.ldict (kpD prs))) kk kp ks prs ss := by
  have nd := A.nodup
  have n1 : kp ≠ kk := fun q => (List.nodup_cons.mp nd).1 (q ▸ .head _)
  have n2 : kp ≠ ks := fun q => (List.nodup_cons.mp (List.nodup_cons.mp nd).2).1 (q ▸ .head _)
  have n3 : ∀ p ∈ prs, kp ≠ p.1 := fun p hp q => (List.nodup_cons.mp (List.nodup_cons.mp nd).2).1 (q ▸ .tail _ (List.mem_map_of_mem hp))
  exact ⟨(get_set_ne n1).trans A.top, dc_loc (get_set_eq (A.lt _ (.tail _ (.head _)))), (dc_same (get_set_ne n2)).trans (dc_at A.sd), fun p hp => (get_set_ne (n3 p hp)).trans (A.rs p hp)⟩
theorem KeptAt.lockS (A : KeptAt H kk kp ks prs ss) : KR (H.set ks (.ldict (ksD ss))) kk kp ks prs ss := by
  have nd := A.nodup
  have n1 : ks ≠ kk := fun q => (List.nodup_cons.mp nd).1 (q ▸ .tail _ (.head _))
  have n2 : ks ≠ kp := fun q => (List.nodup_cons.mp (List.nodup_cons.mp nd).2).1 (q ▸ .head _)
  have n3 : ∀ p ∈ prs, ks ≠ p.1 := fun p hp q => (List.nodup_cons.mp (List.nodup_cons.mp (List.nodup_cons.mp nd).2).2).1 (q ▸ List.mem_map_of_mem hp)
  exact ⟨(get_set_ne n1).trans A.top, (dc_same (get_set_ne n2)).trans (dc_at A.pd), dc_loc (get_set_eq (A.lt _ (.tail _ (.tail _ (.head _))))), fun p hp => (get_set_ne (n3 p hp)).trans (A.rs p hp)⟩
theorem ne_int {i : Int} : cmpA H .NotEq (.int i) (.int i) = some false := by
  show some (!(decide (i = i))) = _
  rw [decide_eq_true rfl]; rfl
theorem pl_ne {v : AV} (h : PlV v) : cmpA H .NotEq v v = some false := by
  obtain ⟨d, h1, h2⟩ := h
  show (eqA H v v).map (!·) = _
  unfold eqA
  rw [show den deep H v = some d from h1 H 18]
  show some (!(PyData.eqv d d)) = _
  rw [h2]; rfl
theorem dens_refs {r r' : Nat} {l : List AV} (hr : H[r]? = some (.lst l)) (hr' : H[r']? = some (.lst l)) (h : ∀ v ∈ l, PlV v) : DenS H (.ref r) (.ref r') := by
  obtain ⟨d, h1, h2, h3⟩ := dens_list hr fun v hv => (h v hv).pk
  obtain ⟨d', g1, g2, _⟩ := dens_list hr' fun v hv => (h v hv).pk
  rw [h2] at g2
  cases g2
  exact ⟨d, h1, g1, h3⟩
noncomputable def duo (p : Pm) : AH := [.lst (p.skills.map .str), .lst (p.rests.map stAV)]
theorem duo_0 {p : Pm} : (H ++ duo p)[H.length]? = some (.lst (p.skills.map .str)) := get_l0
theorem duo_1 {p : Pm} : (H ++ duo p)[H.length + 1]? = some (.lst (p.rests.map stAV)) := get_l1
theorem sts_pl {l : List (Int × Int)} : ∀ v ∈ l.map stAV, PlV v := pl_map fun _ => pl_st
theorem pair_ev (W : Law05 R) (B : BookOf N H b ps ss) (G : Good n ps ss) {p : Pm} (hp : p ∈ ps) {ρ : RE} {i : Nat} (h0 : ρ[0]? = some (some (.ref b))) (hi : ρ[i]? = some (some (.str p.name))) :
    lstE false [(moE gmC (R (k + 2) false) 9 (varE 0) [(varE i)]), (moE gmC (R (k + 2) false) 10 (varE 0) [(varE i)])] ρ H = .ok (.lst [.ref H.length, .ref (H.length + 1)]) (H ++ duo p) := by
  obtain ⟨fs, hb⟩ := B.at
  have B1 := B.up (Up.app (l := [AO.lst (p.skills.map .str)]))
  obtain ⟨fs1, hb1⟩ := B1.at
  have e1 := skills_of (k := k) W B G hp
  have e2 := rests_of (k := k) W B1 G hp
  rw [List.length_append, List.append_assoc] at e2
  exact e_lst (l_two (e_mo (e_var h0) hb (i := 21) rfl (l_one (e_var hi)) e1) (e_mo (e_var h0) hb1 (i := 22) rfl (l_one (e_var hi)) e2)) (by simp) rfl
theorem rowp_P (W : Law05 R) (B : BookOf N H b ps ss) (K : KR H kk kp ks prs ss) (ep : prs.map (·.2) = ps) (G : Good n ps ss) {q : Nat × Pm} (hq : q ∈ prs) {o3 o4 o5 o6 : Option AV}
    (fin : ∀ H' o3 o4, Up H.length H H' → PG (.next [some (.ref b), some (.ref kk), some (.str q.2.name), o3, o4, o5, o6] H')) : PG (d05_l_rows_b3 (R (k + 2)) false [some (.ref b), some (.ref kk), some (.str q.2.name), o3, o4, o5, o6] H) := by
  have hp : q.2 ∈ ps := ep ▸ List.mem_map_of_mem hq
  have hnd : (prs.map (·.2.name)).Nodup := by have := G.pn; rw [← ep, List.map_map] at this; exact this
  have lk : (kpD prs).lookup (.str q.2.name) = some (kpV q) := look_keys (f := fun p : Nat × Pm => p.2.name) (g := kpV) hq hnd
  obtain ⟨fs, hb⟩ := B.at
  have lm := G.lm _ hp
  have hk := G.kf _ hp
  have hr := G.rf _ hp
  have ge := G.le
  have nk : numOK (.int q.2.limit) 31 = true := by
    simp only [numOK, Bool.and_eq_true, decide_eq_true_eq]; exact lm
  refine p_asg (a := kpV q) (H₁ := H) (e_sub (K.people rfl) rfl (sub_dc K.pd lk)) ?_
  refine p_asg (a := .lst [.ref H.length, .ref (H.length + 1)]) (H₁ := H ++ duo q.2) (pair_ev W B G hp (i := 2) rfl rfl) ?_
  show PG (seqS _ [some (.ref b), some (.ref kk), some (.str q.2.name), some (.lst [.lst (q.2.skills.map .str), .int q.2.limit, .ref q.1]), some (.lst [.ref H.length, .ref (H.length + 1)]), o5, o6] _)
  have u1 : Up H.length H (H ++ duo q.2) := Up.app
  have B1 := B.up u1
  have hb1 := u1.get hb
  refine p_skip (H₁ := H ++ duo q.2) (e_bop (c := false) (e_cmp rfl (e_lst (l_two (e_sub rfl rfl rfl) (e_sub rfl rfl rfl)) (by simp) rfl) (pair_ne (dens_list duo_0 strs_k) (dens_refs duo_1 (u1.get (K.rs q hq)) sts_pl))) (e_bop (c := false) (e_nt (x := true) (e_call (l_two (e_mo rfl hb1 (i := 23) rfl (l_one rfl) (limit_of (k := k) W B1 G.pn hp)) rfl) ((counted_run W (.int _)).trans (by rw [nk])))) (e_last (e_cmp (e_mo rfl hb1 (i := 23) rfl (l_one rfl) (limit_of (k := k) W B1 G.pn hp)) (e_sub rfl rfl rfl) ne_int)))) ?_
  refine p_expr (e_append (n := H.length) (e_sub rfl rfl rfl) duo_0 (l_one rfl) duo_0 (by rw [List.length_map]; lia)) ?_
  have g1 : ((H ++ duo q.2).set H.length (.lst (q.2.skills.map .str ++ [.str "x"])))[H.length + 1]? = some (.lst (q.2.rests.map stAV)) := (get_set_ne (by lia)).trans duo_1
  refine p_expr (e_clear (n := H.length + 1) (e_sub rfl rfl rfl) g1 (by rw [List.length_map]; lia)) ?_
  have u3 : Up H.length H (((H ++ duo q.2).set H.length (.lst (q.2.skills.map .str ++ [.str "x"]))).set (H.length + 1) (.lst [])) := by
    refine ⟨by rw [List.length_set, List.length_set]; exact u1.1, fun m hm => ?_⟩
    rw [get_set_ne (by lia), get_set_ne (by lia)]
    exact u1.2 m hm
  generalize ((H ++ duo q.2).set H.length (.lst (q.2.skills.map .str ++ [.str "x"]))).set (H.length + 1) (.lst []) = H3 at u3
  have u4 : Up H.length H (H3 ++ duo q.2) := u3.trans (Up.app.mono u3.1)
  refine p_skip (H₁ := H3 ++ duo q.2) (e_cmp (pair_ev W (B.up u3) G hp (i := 2) rfl rfl) (e_lst (l_two (e_sub rfl rfl rfl) (e_sub rfl rfl rfl)) (by simp) rfl) (pair_ne (dens_list duo_0 strs_k) (dens_refs duo_1 (u4.get (K.rs q hq)) sts_pl))) ?_
  exact fin _ _ _ u4
theorem rows1_P (W : Law05 R) (hxy : x ≠ y) (B : BookQ (fun n => col n = x) H b ps ss) (K : KeptQ (fun n => col n = y) H kk ps ss) (G : Good n ps ss) {r : List DS}
    (fin : ∀ H' o2 o3 o4, Up H.length H H' → PG (seqS r [some (.ref b), some (.ref kk), o2, o3, o4, none, none] H')) : PG (seqS (forS false (.one 2) (subE (varE 1) (cstE (.str "people"))) (d05_l_rows_b3 (R (k + 2)) false) :: r) [some (.ref b), some (.ref kk), none, none, none, none, none] H) := by
  refine x3_3 (K.ex) fun kp ks prs A ep hN => ?_
  have hkp : kp < H.length := A.lt _ (.tail _ (.head _))
  have hl : (H.set kp (.ldict (kpD prs))).length = H.length := List.length_set
  have B1 : BookOf 0 (H.set kp (.ldict (kpD prs))) b ps ss := (B.put (r := kp) fun e => hxy (e.symm.trans (hN kp (.tail _ (.head _))))).of fun _ _ => Nat.zero_le _
  refine p_forD (m := kp) (es := kpD prs) (H₁ := H) (A.kr.people rfl) A.pd
    (fun j ρ H' => A2 (Up (H.set kp (.ldict (kpD prs))).length (H.set kp (.ldict (kpD prs))) H') (Ex3 fun o2 o3 o4 => ρ = [some (.ref b), some (.ref kk), o2, o3, o4, none, none])) ⟨Up.refl, _, _, _, rfl⟩ (fun j ρ H' h => h.1.get (get_set_eq hkp)) ?_ ?_
  · rintro J j v ρ H' hv ⟨u, o2, o3, o4, rfl⟩ hJ
    unfold kpD at hv
    rw [List.map_map, List.getElem?_map] at hv
    refine x1_2 (Option.map_eq_some_iff.mp hv) fun q hj e2' => ?_; subst e2'
    show Nx _ _ ((_ : DS) [some (.ref b), some (.ref kk), some (.str q.2.name), o3, o4, none, none] _)
    exact rowp_P (PG := Nx _ _) W (B1.up u) (A.lockP.up u) ep G (List.mem_of_getElem? hj) fun H2 o3 o4 u2 => hJ _ _ ⟨u.trans (u2.mono u.1), _, _, _, rfl⟩
  · rintro ρ H' ⟨u, o2, o3, o4, rfl⟩
    rw [hl] at u
    exact fin _ _ _ _ (lock_up A.pd u)
theorem rows2_P (W : Law05 R) (hxy : x ≠ y) (B : BookQ (fun n => col n = x) H b ps ss) (K : KeptQ (fun n => col n = y) H kk ps ss) (G : Good n ps ss) {r : List DS} {o2 o3 o4 : Option AV}
    (fin : ∀ o5 o6, PG (seqS r [some (.ref b), some (.ref kk), o2, o3, o4, o5, o6] H)) : PG (seqS (forS false (.one 5) (subE (varE 1) (cstE (.str "shifts"))) (d05_l_rows_b2 (R (k + 3)) false) :: r) [some (.ref b), some (.ref kk), o2, o3, o4, none, none] H) := by
  refine x3_3 (K.ex) fun kp ks prs A ep hN => ?_
  have hks : ks < H.length := A.lt _ (.tail _ (.tail _ (.head _)))
  have B1 : BookOf 0 (H.set ks (.ldict (ksD ss))) b ps ss := (B.put (r := ks) fun e => hxy (e.symm.trans (hN ks (.tail _ (.tail _ (.head _)))))).of fun _ _ => Nat.zero_le _
  have K1 := A.lockS
  obtain ⟨fs, hb⟩ := B1.at
  have loc : (H.set ks (.ldict (ksD ss)))[ks]? = some (.ldict (ksD ss)) := get_set_eq hks
  have back : (H.set ks (.ldict (ksD ss))).set ks (.dict (ksD ss)) = H := by rw [List.set_set, set_self A.sd]
  generalize hHl : H.set ks (.ldict (ksD ss)) = Hl at *
  refine p_forD (m := ks) (es := ksD ss) (H₁ := H) (A.kr.shifts rfl) A.sd
    (fun j ρ H' => A2 (H' = Hl) (Ex2 fun o5 o6 => ρ = [some (.ref b), some (.ref kk), o2, o3, o4, o5, o6])) ⟨hHl, _, _, rfl⟩ (fun j ρ H' h => by rw [h.1]; exact loc) ?_ ?_
  · rintro J j v ρ H' hv ⟨rfl, o5, o6, rfl⟩ hJ
    unfold ksD at hv
    rw [List.map_map, List.getElem?_map] at hv
    refine x1_2 (Option.map_eq_some_iff.mp hv) fun s hj e2' => ?_; subst e2'
    have hs := List.mem_of_getElem? hj
    have lk : (ksD ss).lookup (.str s.name) = some (ksV s) := look_keys (f := fun s : Sm => s.name) (g := ksV) hs G.sn
    have hf := G.nf s hs
    show Nx _ _ ((_ : DS) [some (.ref b), some (.ref kk), o2, o3, o4, some (.str s.name), o6] _)
    refine p_skip (H₁ := H') (e_cmp (a := stAV s.hours) (e_mo rfl hb (i := 24) rfl (l_one rfl) (stretch_of (k := k + 1) W B1 G.sn hs)) (e_sub (e_sub (K1.shifts rfl) rfl (sub_dc K1.sd lk)) rfl rfl) (pl_ne pl_st)) ?_
    refine p_skip (H₁ := H') (e_nt (x := true) (e_call (l_three rfl rfl rfl) (nopost_run W B1 G hs (G.nsk s hs)))) ?_
    refine p_for (P := Nx _ _) (a := .lst (s.needs.map needAV)) (H₁ := H') (xs := s.needs.map needAV) (n := (s.needs.map needAV).length) (e_sub (e_sub (K1.shifts rfl) rfl (sub_dc K1.sd lk)) rfl rfl) rfl rfl
      (fun j ρ H2 => A2 (H2 = H') (∃ o6, ρ = [some (.ref b), some (.ref kk), o2, o3, o4, some (.str s.name), o6])) ⟨rfl, _, rfl⟩ ?_ ?_
    · rintro J2 i v ρ H2 hv ⟨rfl, o6, rfl⟩ hJ2
      rw [List.getElem?_map] at hv
      refine x1_2 (Option.map_eq_some_iff.mp hv) fun m hi e2' => ?_; subst e2'
      have hm := List.mem_of_getElem? hi
      have nk : numOK (.int m.2) 9 = true := by
        simp only [numOK, Bool.and_eq_true, decide_eq_true_eq]; exact G.cn s hs m hm
      show Nx _ _ ((_ : DS) [some (.ref b), some (.ref kk), o2, o3, o4, some (.str s.name), some (needAV m)] _)
      exact p_skip (H₁ := H2) (e_bop (c := false) (e_nt (x := true) (e_call (l_two (e_mo rfl hb (i := 25) rfl (l_two rfl (e_sub rfl rfl sub2_0)) (count_of (k := k + 1) W B1 G hs hm)) rfl) ((counted_run W (.int _)).trans (by rw [nk])))) (e_last (e_cmp (e_mo rfl hb (i := 25) rfl (l_two rfl (e_sub rfl rfl sub2_0)) (count_of (k := k + 1) W B1 G hs hm)) (e_sub rfl rfl sub2_1) ne_int))) (nx_next (hJ2 _ _ ⟨rfl, _, rfl⟩))
    · rintro ρ H2 ⟨rfl, o6, rfl⟩
      exact nx_next (hJ _ _ ⟨rfl, _, _, rfl⟩)
  · rintro ρ H' ⟨rfl, o5, o6, rfl⟩
    rw [back]
    exact fin _ _
theorem rows_run (W : Law05 R) (hxy : x ≠ y) (B : BookQ (fun n => col n = x) H b ps ss) (K : KeptQ (fun n => col n = y) H kk ps ss) (G : Good n ps ss) : ∃ H', R (k + 4) false 62 [.ref b, .ref kk] H = .ok (.bool true) H' ∧ Up H.length H H' := by
  rw [W.l_rows _ _ _ _ rfl]
  suffices key : ∀ PG : OutS → Prop, (∀ H', Up H.length H H' → PG (.ret (.bool true) H')) → PG (d05_l_rows (R (k + 3)) false (rho0 [.ref b, .ref kk] 7) H) from key (fun o => ∃ H', o.done = .ok (.bool true) H' ∧ Up H.length H H') fun H' h => ⟨H', rfl, h⟩
  intro PG fin
  refine rows1_P (k := k + 1) W hxy B K G fun H' o2 o3 o4 u => ?_
  exact rows2_P (k := k) W hxy (B.up u) (K.up u) G fun o5 o6 => p_ret rfl (fin _ u)
end
noncomputable def oldAV (e : Nat × List AV) : AV := .tup [.ref e.1, .lst e.2]
structure Olds (col : Nat → Nat) (H : AH) (o N : Nat) : Prop where
  ex : ∃ os : List (Nat × List AV), H[o]? = some (.lst (os.map oldAV)) ∧ col o = 4 ∧ os.length ≤ N ∧ ∀ e ∈ os, H[e.1]? = some (.lst e.2) ∧ col e.1 = 4 ∧ e.1 ≠ o ∧ ∀ v ∈ e.2, PlV v
section
variable {ρ : RE} {H H' H₁ H₂ : AH} {x y o N : Nat} {col col' : Nat → Nat}
theorem e_extend {e : DE} {es : List DE} {n : Nat} {xs ys zs : List AV} (h1 : e ρ H = .ok (.ref n) H₁) (h3 : H₁[n]? = some (.lst zs)) (h2 : evL es ρ H₁ = .ok [.lst ys] H₂) (h4 : H₂[n]? = some (.lst xs)) (hl : xs.length + ys.length ≤ 1000000) : mbE .extend e es ρ H = .ok .none (H₂.set n (.lst (xs ++ ys))) := by
  have k1 : kindM (.ref n) H₁ = 2 := by show (match H₁[n]? with | some (.lst _) => 2 | some (.dict _) => 3 | _ => 0) = 2; rw [h3]
  have k2 : kindM (.ref n) H₂ = 2 := by show (match H₂[n]? with | some (.lst _) => 2 | some (.dict _) => 3 | _ => 0) = 2; rw [h4]
  unfold mbE
  rw [h1]
  show orBad (bmId (kindM (.ref n) H₁) .extend) _ = _
  rw [k1]
  show (evL es ρ H₁).bind _ = _
  rw [h2]
  show (if 2 = kindM (.ref n) H₂ then mbA .extend (.ref n) [.lst ys] H₂ else .bad) = _
  rw [k2, if_pos rfl, mb_lst h4, if_pos (Nat.le_trans (Nat.le_add_right _ _) hl)]
  exact if_pos hl
theorem Olds.mv (O : Olds col H o N) (M : Mv x y col H col' H') (hx : 4 ≠ x) (hy : 4 ≠ y) : Olds col' H' o N := by
  refine x1_4 (O.ex) fun os h1 h2 h3 h4 => ?_
  have g : ∀ {n : Nat} {z : AO}, H[n]? = some z → n < H.length := fun h => (List.getElem?_eq_some_iff.mp h).1
  have k : ∀ {n : Nat} {z : AO}, H[n]? = some z → col n = 4 → H'[n]? = some z := fun h c => (M.st _ (g h) (by rw [c]; exact hx) (by rw [c]; exact hy)).trans h
  exact ⟨os, k h1 h2, (M.co o (g h1)).trans h2, h3, fun e he => ⟨k (h4 e he).1 (h4 e he).2.1, (M.co _ (g (h4 e he).1)).trans (h4 e he).2.1, (h4 e he).2.2⟩⟩
theorem Olds.more (O : Olds col H o N) {M : Nat} (h : N ≤ M) : Olds col H o M := by
  refine x1_4 (O.ex) fun os h1 h2 h3 h4 => ?_
  exact ⟨os, h1, h2, Nat.le_trans h3 h, h4⟩
end
noncomputable abbrev Fo := Nat × AV × List AV
structure FoOK (M N : Nat) (H : AH) (e : Fo) : Prop where
  at_ : H[e.1]? = some (.lst e.2.2)
  ge : M ≤ e.1
  due : IsL N H e.2.1 e.2.2
  pl : ∀ v ∈ e.2.2, PlV v
  len : e.2.2.length ≤ 1000
noncomputable def foF (l : List Fo) : AV := .lst (l.map fun e => .ref e.1)
noncomputable def foD (l : List Fo) : AV := .lst (l.map fun e => e.2.1)
section
variable {R : Nat → Bool → FT} {k n N M b kk kp ks x y o : Nat} {H H' : AH} {prs : List (Nat × Pm)} {ps : List Pm} {ss : List Sm} {PG : OutS → Prop} {col : Nat → Nat} {e : Fo} {l : List Fo}
theorem FoOK.up (F : FoOK M N H e) (hN : N ≤ H.length) (u : Up H.length H H') : FoOK M N H' e := ⟨u.get F.at_, F.ge, F.due.up (u.mono hN), F.pl, F.len⟩
theorem FoOK.dens (F : FoOK M N H e) : DenS H (.ref e.1) e.2.1 := by
  have h1 := F.at_
  have h2 := F.pl
  rcases F.due with d | ⟨r, d, _, hr⟩
  · rw [d]; exact dens_list h1 fun v hv => (h2 v hv).pk
  · rw [d]; exact dens_refs h1 hr h2
theorem fo_den (h : ∀ e ∈ l, FoOK M N H e) : DenL H (l.map fun e => .ref e.1) (l.map fun e => e.2.1) := by
  induction l with
  | nil => exact .nil
  | cons e r ih => exact .cons (h e (.head _)).dens (ih fun e he => h e (.tail _ he))
theorem lst_set {m r : Nat} {es : List (Key × AV)} {z : AO} {ys : List AV} (hm : H[m]? = some (.ldict es)) (hr : H[r]? = some (.lst ys)) : (H.set m z)[r]? = some (.lst ys) := by
  refine (get_set_ne fun q => ?_).trans hr
  subst q
  rw [hm] at hr
  cases hr
theorem FoOK.free {m : Nat} {es : List (Key × AV)} {z : AO} (F : FoOK M N H e) (hm : H[m]? = some (.ldict es)) : FoOK M N (H.set m z) e := by
  refine ⟨lst_set hm F.at_, F.ge, ?_, F.pl, F.len⟩
  rcases F.due with d | ⟨r, d, hr, h⟩
  · exact .inl d
  · exact .inr ⟨r, d, hr, lst_set hm h⟩
noncomputable def triF (L : Nat) (ps : List Pm) (ss : List Sm) : List Fo := [(L, .lst (ps.map fun p => .str p.name), ps.map fun p => .str p.name), (L + 1, .lst (ss.map fun s => .str s.name), ss.map fun s => .str s.name), (L + 2, .lst ((postsM ss).map postAV), (postsM ss).map postAV)]
theorem triF_ok (G : Good n ps ss) : ∀ e ∈ triF H.length ps ss, FoOK H.length N (H ++ tri ps ss) e := by
  have gp := G.pf
  have gs := G.sf
  have ge := G.le
  have pl := posts_len G.nf
  intro e he
  unfold triF at he
  rcases List.mem_cons.mp he with rfl | he
  · exact ⟨tri_0, Nat.le_refl _, .inl rfl, strs_pl, by rw [List.length_map]; lia⟩
  rcases List.mem_cons.mp he with rfl | he
  · exact ⟨tri_1, Nat.le_succ _, .inl rfl, strs_pl, by rw [List.length_map]; lia⟩
  cases List.mem_singleton.mp he
  exact ⟨tri_2, Nat.le_add_right _ 2, .inl rfl, posts_pl, by rw [List.length_map]; lia⟩
noncomputable def duoF (L : Nat) (q : Nat × Pm) : List Fo := [(L, .lst (q.2.skills.map .str), q.2.skills.map .str), (L + 1, .ref q.1, q.2.rests.map stAV)]
theorem duoF_ok (G : Good n ps ss) {q : Nat × Pm} (hp : q.2 ∈ ps) (hM : M ≤ H.length) (hN : q.1 < N) (hr : H[q.1]? = some (.lst (q.2.rests.map stAV))) : ∀ e ∈ duoF H.length q, FoOK M N (H ++ duo q.2) e := by
  have hk := G.kf _ hp
  have hs := G.rf _ hp
  have ge := G.le
  intro e he
  unfold duoF at he
  rcases List.mem_cons.mp he with rfl | he
  · exact ⟨duo_0, hM, .inl rfl, pl_map fun _ => plv_str, by rw [List.length_map]; lia⟩
  cases List.mem_singleton.mp he
  exact ⟨duo_1, Nat.le_succ_of_le hM, .inr ⟨_, rfl, hN, Up.app.get hr⟩, sts_pl, by rw [List.length_map]; lia⟩
theorem beside_run (W : Law05 R) (hxy : x ≠ y) (B : BookQ (fun n => col n = x) H b ps ss) (K : KeptQ (fun n => col n = y) H kk ps ss) (G : Good n ps ss) (O : Olds col H o N) (hN : N + 203 ≤ 1000000) :
    ∃ H' col', R (k + 3) false 63 [.ref b, .ref kk, .ref o] H = .ok (.bool true) H' ∧ Mv 4 4 col H col' H' ∧ Olds col' H' o (N + 203) := by
  rw [W.l_beside _ _ _ _ rfl]
  suffices key : ∀ PG : OutS → Prop, (∀ H' col', Mv 4 4 col H col' H' → Olds col' H' o (N + 203) → PG (.ret (.bool true) H')) → PG (d05_l_beside (R (k + 2)) false (rho0 [.ref b, .ref kk, .ref o] 6) H) from key (fun z => ∃ H' col', z.done = .ok (.bool true) H' ∧ Mv 4 4 col H col' H' ∧ Olds col' H' o (N + 203)) fun H' col' h1 h2 => ⟨H', col', rfl, h1, h2⟩
  intro PG fin
  have gp := G.pf
  have ge := G.le
  have u0 : Up H.length H (H ++ tri ps ss) := Up.app
  refine p_asg (a := foF (triF H.length ps ss)) (H₁ := H ++ tri ps ss) (tri_ev (k := k + 1) W (B.of fun _ _ => Nat.zero_le _) G rfl) ?_
  refine x3_3 ((K.up u0).ex) fun kp ks prs A ep hQ => ?_
  refine p_asg (a := foD (triF H.length ps ss)) (H₁ := H ++ tri ps ss) (due_ev (k := k + 1) W A ep G rfl) ?_
  show PG (seqS _ [some (.ref b), some (.ref kk), some (.ref o), some (foF (triF H.length ps ss)), some (foD (triF H.length ps ss)), none] _)
  have hpl : prs.length ≤ 100 := by
    rw [← ep, List.length_map] at gp; lia
  have hkp : kp < (H ++ tri ps ss).length := A.lt _ (.tail _ (.head _))
  have hl : ((H ++ tri ps ss).set kp (.ldict (kpD prs))).length = (H ++ tri ps ss).length := List.length_set
  have hkc : col kp ≠ x := fun e => hxy (e.symm.trans (hQ kp (.tail _ (.head _))))
  have B1 : BookOf 0 ((H ++ tri ps ss).set kp (.ldict (kpD prs))) b ps ss := ((B.up u0).put (r := kp) hkc).of fun _ _ => Nat.zero_le _
  have K1 := A.lockP
  have hnd : (prs.map (·.2.name)).Nodup := by have := G.pn; rw [← ep, List.map_map] at this; exact this
  have loc : ((H ++ tri ps ss).set kp (.ldict (kpD prs)))[kp]? = some (.ldict (kpD prs)) := get_set_eq hkp
  have hM : H.length ≤ ((H ++ tri ps ss).set kp (.ldict (kpD prs))).length := by rw [hl]; exact u0.1
  have F0 : ∀ e ∈ triF H.length ps ss, FoOK H.length ((H ++ tri ps ss).set kp (.ldict (kpD prs))).length ((H ++ tri ps ss).set kp (.ldict (kpD prs))) e := by
    intro e he
    have F := triF_ok (H := H) (N := ((H ++ tri ps ss).set kp (.ldict (kpD prs))).length) G e he
    have d : e.2.1 = .lst e.2.2 := by
      unfold triF at he
      rcases List.mem_cons.mp he with rfl | he
      · rfl
      rcases List.mem_cons.mp he with rfl | he
      · rfl
      cases List.mem_singleton.mp he; rfl
    refine ⟨(get_set_ne fun q => ?_).trans F.at_, F.ge, .inl d, F.pl, F.len⟩
    have := F.at_
    rw [← q, A.pd] at this
    cases this
  refine p_forD (m := kp) (es := kpD prs) (H₁ := H ++ tri ps ss) (A.kr.people rfl) A.pd
    (fun j ρ H' => A2 (Up ((H ++ tri ps ss).set kp (.ldict (kpD prs))).length ((H ++ tri ps ss).set kp (.ldict (kpD prs))) H') (Ex2 fun (l : List Fo) o5 => A3 (ρ = [some (.ref b), some (.ref kk), some (.ref o), some (foF l), some (foD l), o5]) (l.length = 3 + 2 * j) (∀ e ∈ l, FoOK H.length ((H ++ tri ps ss).set kp (.ldict (kpD prs))).length H' e))) ⟨Up.refl, _, _, rfl, rfl, F0⟩ (fun j ρ H' h => h.1.get loc) ?_ ?_
  · rintro J j v ρ H' hv ⟨u, l, o5, rfl, ll, F⟩ hJ
    have hjl : j < prs.length := by
      have := (List.getElem?_eq_some_iff.mp hv).1
      unfold kpD at this
      rw [List.length_map, List.length_map] at this
      exact this
    unfold kpD at hv
    rw [List.map_map, List.getElem?_map] at hv
    refine x1_2 (Option.map_eq_some_iff.mp hv) fun q hj e2' => ?_; subst e2'
    have hq := List.mem_of_getElem? hj
    have hp : q.2 ∈ ps := ep ▸ List.mem_map_of_mem hq
    have lk : (kpD prs).lookup (.str q.2.name) = some (kpV q) := look_keys (f := fun p : Nat × Pm => p.2.name) (g := kpV) hq hnd
    have sz : 1000 ≤ sizeLine := by decide
    have K2 := K1.up u
    have v2 : Up H'.length H' (H' ++ duo q.2) := Up.app
    have K3 := K2.up v2
    have q1 : q.1 < ((H ++ tri ps ss).set kp (.ldict (kpD prs))).length := (List.getElem?_eq_some_iff.mp (K1.rs q hq)).1
    show Nx _ _ ((_ : DS) [some (.ref b), some (.ref kk), some (.ref o), some (foF l), some (foD l), some (.str q.2.name)] _)
    refine p_asg (a := foF (l ++ duoF H'.length q)) (H₁ := H' ++ duo q.2) (e_bin rfl (pair_ev (k := k) W (B1.up u) G hp (i := 5) rfl rfl) ((addL (by rw [List.length_map]; simp; lia)).trans ?_)) ?_
    · unfold foF
      rw [List.map_append]; rfl
    refine p_asg (a := foD (l ++ duoF H'.length q)) (H₁ := H' ++ duo q.2) (e_bin rfl (e_lst (l_two (e_sub (e_sub (K3.people rfl) rfl (sub_dc K3.pd lk)) rfl rfl) (e_sub (e_sub (K3.people rfl) rfl (sub_dc K3.pd lk)) rfl rfl)) (by simp) rfl) ((addL (by rw [List.length_map]; simp; lia)).trans ?_)) (nx_next (hJ _ _ ⟨u.trans (v2.mono u.1), l ++ duoF H'.length q, _, rfl, ?_, fun e he => ?_⟩))
    · unfold foD
      rw [List.map_append]; rfl
    · rw [List.length_append, ll]
      show 3 + 2 * j + 2 = _
      lia
    · rcases List.mem_append.mp he with he | he
      · exact (F e he).up u.1 v2
      · exact duoF_ok G hp (Nat.le_trans hM u.1) q1 (K2.rs q hq) e he
  · rintro ρ H' ⟨u, l, o5, rfl, ll, F⟩
    have e : (kpD prs).length = prs.length := by unfold kpD; rw [List.length_map]
    rw [e] at ll
    have loc' := u.get loc
    rw [hl] at u
    have w := lock_up A.pd u
    have F2 : ∀ e ∈ l, FoOK H.length ((H ++ tri ps ss).set kp (.ldict (kpD prs))).length (H'.set kp (.dict (kpD prs))) e := fun e he => (F e he).free loc'
    clear F loc' u
    have w1 : Up H.length H (H'.set kp (.dict (kpD prs))) := u0.trans (w.mono u0.1)
    clear w
    generalize H'.set kp (.dict (kpD prs)) = H2 at w1 F2
    refine p_skip (H₁ := H2) (e_cmp rfl rfl (fo_den F2).ne) ?_
    refine x1_4 (O.ex) fun os h1 h2 h3 h4 => ?_
    have ho := (List.getElem?_eq_some_iff.mp h1).1
    refine p_expr (e_extend (n := o) (zs := os.map oldAV) (ys := l.map fun e => .tup [.ref e.1, .lst e.2.2]) (H₂ := H2) rfl (w1.get h1) (l_one (e_mapF (a := foF l) (H₁ := H2) (l := l) (fx := fun e => .ref e.1) (fy := fun e => .tup [.ref e.1, .lst e.2.2]) rfl (.inl rfl) (by lia) (fun e he => e_tup (l_two rfl (e_bi (l_one rfl) (IsL.list (N := H2.length) (.inr ⟨_, rfl, (List.getElem?_eq_some_iff.mp (F2 e he).at_).1, (F2 e he).at_⟩) (F2 e he).len))) (by simp)) rfl)) (w1.get h1) (by rw [List.length_map, List.length_map]; lia)) ?_
    refine p_ret rfl (fin _ (paint col H.length 4) ⟨by rw [List.length_set]; exact w1.1, fun m hm => paint_lt hm, fun m hm q _ => ?_⟩ ⟨os ++ l.map fun e => (e.1, e.2.2), ?_, (paint_lt ho).trans h2, ?_, fun e he => ?_⟩)
    · rw [get_set_ne (show o ≠ m from fun e => q (e ▸ h2))]
      exact w1.2 m hm
    · rw [get_set_eq (Nat.lt_of_lt_of_le ho w1.1), List.map_append, List.map_map]; rfl
    · rw [List.length_append, List.length_map, ll]; lia
    · rcases List.mem_append.mp he with he | he
      · obtain ⟨a1, a2, a3, a4⟩ := h4 e he
        have he' := (List.getElem?_eq_some_iff.mp a1).1
        exact ⟨(get_set_ne (Ne.symm a3)).trans (w1.get a1), (paint_lt he').trans a2, a3, a4⟩
      · obtain ⟨f, hf, rfl⟩ := List.mem_map.mp he
        have ff := F2 f hf
        have hne : o ≠ f.1 := by have := ff.ge; lia
        exact ⟨(get_set_ne hne).trans ff.at_, paint_ge ff.ge, Ne.symm hne, ff.pl⟩
end
noncomputable def cx (t : Bool) : Nat := if t then 1 else 0
noncomputable def cy (t : Bool) : Nat := if t then 3 else 2
structure Sta (bs ks : Bool → Nat) (o n N : Nat) (H : AH) : Prop where
  ex : ∃ (col : Nat → Nat) (ps : Bool → List Pm) (ss : Bool → List Sm), (∀ t, BookQ (fun m => col m = cx t) H (bs t) (ps t) (ss t)) ∧ (∀ t, KeptQ (fun m => col m = cy t) H (ks t) (ps t) (ss t)) ∧ (∀ t, Good n (ps t) (ss t)) ∧ Olds col H o N
section
variable {R : Nat → Bool → FT} {k o n N : Nat} {H H' : AH} {bs ks : Bool → Nat} {PG : OutS → Prop}
theorem Sta.up (S : Sta bs ks o n N H) (u : Up H.length H H') : Sta bs ks o n N H' := by
  refine x3_4 (S.ex) fun col ps ss B K G O => ?_
  exact ⟨col, ps, ss, fun t => (B t).up u, fun t => (K t).up u, G, O.mv (x := 0) (y := 0) (.up u) (by decide) (by decide)⟩
theorem Sta.deed (W : Law05 R) (S : Sta bs ks o n N H) (hn : n < 100) (t : Bool) {c m : Int} : ∃ H', R (k + 6) false 60 [.ref (bs t), .ref (ks t), .int c, .int m] H = .ok (.bool true) H' ∧ Sta bs ks o (n + 1) N H' := by
  refine x3_4 (S.ex) fun col ps ss B K G O => ?_
  obtain ⟨H', e, D⟩ := deed_run (k := k) (x := cx t) (y := cy t) (c := c) (m := m) W (by cases t <;> decide) (by cases t <;> decide) (by cases t <;> decide) (B t) (K t) (G t) hn
  refine ⟨H', e, ?_⟩
  refine x3_4 (D.ex) fun col' ps' ss' B' K' G' M => ?_
  refine ⟨col', fun s => if s = t then ps' else ps s, fun s => if s = t then ss' else ss s, fun s => ?_, fun s => ?_, fun s => ?_, O.mv M (by cases t <;> decide) (by cases t <;> decide)⟩
  · by_cases h : s = t
    · subst h
      show BookQ _ _ _ (if _ then _ else _) (if _ then _ else _)
      rw [if_pos rfl, if_pos rfl]; exact B'
    · show BookQ _ _ _ (if _ then _ else _) (if _ then _ else _)
      rw [if_neg h, if_neg h]
      exact (B s).mv M (by cases s <;> cases t <;> first | exact absurd rfl h | decide) (by cases s <;> cases t <;> first | exact absurd rfl h | decide)
  · by_cases h : s = t
    · subst h
      show KeptQ _ _ _ (if _ then _ else _) (if _ then _ else _)
      rw [if_pos rfl, if_pos rfl]; exact K'
    · show KeptQ _ _ _ (if _ then _ else _) (if _ then _ else _)
      rw [if_neg h, if_neg h]
      exact (K s).mv M (by cases s <;> cases t <;> first | exact absurd rfl h | decide) (by cases s <;> cases t <;> first | exact absurd rfl h | decide)
  · by_cases h : s = t
    · subst h
      show Good _ (if _ then _ else _) (if _ then _ else _)
      rw [if_pos rfl, if_pos rfl]; exact G'
    · show Good _ (if _ then _ else _) (if _ then _ else _)
      rw [if_neg h, if_neg h]
      exact (G s).more hn
theorem Sta.lists (W : Law05 R) (S : Sta bs ks o n N H) (t : Bool) : ∃ H', R (k + 2) false 61 [.ref (bs t), .ref (ks t)] H = .ok (.bool true) H' ∧ Sta bs ks o n N H' := by
  refine x3_4 (S.ex) fun col ps ss B K G O => ?_
  obtain ⟨H', e, u⟩ := lists_run (k := k) W (B t) (K t) (G t)
  exact ⟨H', e, S.up u⟩
theorem Sta.rows (W : Law05 R) (S : Sta bs ks o n N H) (t : Bool) : ∃ H', R (k + 4) false 62 [.ref (bs t), .ref (ks t)] H = .ok (.bool true) H' ∧ Sta bs ks o n N H' := by
  refine x3_4 (S.ex) fun col ps ss B K G O => ?_
  obtain ⟨H', e, u⟩ := rows_run (k := k) W (by cases t <;> decide) (B t) (K t) (G t)
  exact ⟨H', e, S.up u⟩
theorem Sta.beside (W : Law05 R) (S : Sta bs ks o n N H) (hN : N + 203 ≤ 1000000) (t : Bool) : ∃ H', R (k + 3) false 63 [.ref (bs t), .ref (ks t), .ref o] H = .ok (.bool true) H' ∧ Sta bs ks o n (N + 203) H' := by
  refine x3_4 (S.ex) fun col ps ss B K G O => ?_
  obtain ⟨H', col', e, M, O'⟩ := beside_run (k := k) W (by cases t <;> decide) (B t) (K t) (G t) O hN
  exact ⟨H', e, col', ps, ss, fun s => (B s).mv M (by cases s <;> decide) (by cases s <;> decide), fun s => (K s).mv M (by cases s <;> decide) (by cases s <;> decide), G, O'⟩
theorem Sta.missing (W : Law05 R) (S : Sta bs ks o n N H) (t : Bool) : R (k + 3) false 65 [.ref (bs t)] H = .ok (.bool true) H := by
  refine x3_4 (S.ex) fun col ps ss B K G O => ?_
  exact missing_run (N := 0) W ((B t).of fun _ _ => Nat.zero_le _) (G t)
theorem Sta.more (S : Sta bs ks o n N H) {M : Nat} (h : N ≤ M) : Sta bs ks o n M H := by
  refine x3_4 (S.ex) fun col ps ss B K G O => ?_
  exact ⟨col, ps, ss, B, K, G, O.more h⟩
noncomputable def start : AH := [.inst 2 (bfs 1 2), .dict [], .dict [], .inst 2 (bfs 4 5), .dict [], .dict [], .lst [], .dict (topD 8 9), .dict [], .dict [], .dict (topD 11 12), .dict [], .dict []]
noncomputable def col0 (m : Nat) : Nat := if m < 3 then 0 else if m < 6 then 1 else if m < 7 then 4 else if m < 10 then 2 else 3
noncomputable def bs0 (t : Bool) : Nat := if t then 3 else 0
noncomputable def ks0 (t : Bool) : Nat := if t then 10 else 7
theorem good0 : Good 0 [] [] := ⟨List.nodup_nil, List.nodup_nil, (fun _ h => nomatch h), (fun _ h => nomatch h), by decide, Nat.le_refl _, Nat.le_refl _, (fun _ h => nomatch h), (fun _ h => nomatch h), (fun _ h => nomatch h), (fun _ h => nomatch h), (fun h => nomatch h), (fun h => nomatch h), (fun _ h => nomatch h)⟩
theorem sta0 : Sta bs0 ks0 6 0 0 start := by
  refine ⟨col0, fun _ => [], fun _ => [], fun t => ?_, fun t => ?_, fun _ => good0, [], rfl, rfl, Nat.le_refl _, fun e h => nomatch h⟩
  · cases t with
    | false => exact ⟨1, 2, [], [], ⟨rfl, rfl, rfl, (fun _ h => nomatch h), (fun _ h => nomatch h), by decide, by decide⟩, rfl, rfl, by decide⟩
    | true => exact ⟨4, 5, [], [], ⟨rfl, rfl, rfl, (fun _ h => nomatch h), (fun _ h => nomatch h), by decide, by decide⟩, rfl, rfl, by decide⟩
  · cases t with
    | false => exact ⟨8, 9, [], ⟨rfl, rfl, rfl, (fun _ h => nomatch h), by decide⟩, rfl, by decide⟩
    | true => exact ⟨11, 12, [], ⟨rfl, rfl, rfl, (fun _ h => nomatch h), by decide⟩, rfl, by decide⟩
theorem sub_t {bs : Bool → Nat} {t : Bool} : subA (.lst [.ref (bs false), .ref (bs true)]) (.int (if t then 1 else 0)) H = .ok (.ref (bs t)) H := by cases t <;> rfl
noncomputable def rL (xs : List Int) (bs ks : Bool → Nat) (o : Nat) (o5 o6 : Option AV) : RE := [some (.lst (xs.map .int)), some (.lst [.ref (bs false), .ref (bs true)]), some (.ref o), some (.lst [.ref (ks false), .ref (ks true)]), some (.int 20), o5, o6]
theorem turn_P (W : Law05 R) (S : Sta bs ks o n N H) (hn : n < 100) (hN : N + 203 ≤ 1000000) {xs : List Int} (hx : xs.length ≤ 63) {D : Int} (d0 : 0 ≤ D) (d1 : 2 * D + 1 < xs.length) {o6 : Option AV}
    (fin : ∀ H' o6, Sta bs ks o (n + 1) (N + 203) H' → PG (.next (rL xs bs ks o (some (.int D)) o6) H')) : PG (d05_law_b1 (R (k + 6)) false (rL xs bs ks o (some (.int D)) o6) H) := by
  obtain ⟨c, hc⟩ : ∃ c, xs[(2 * D).toNat]? = some c := ⟨_, List.getElem?_eq_getElem (by lia)⟩
  obtain ⟨m, hm⟩ : ∃ m, xs[(2 * D + 1).toNat]? = some m := ⟨_, List.getElem?_eq_getElem (by lia)⟩
  have gc : ∀ H : AH, subA (.lst (xs.map .int)) (.int (2 * D)) H = .ok (.int c) H := fun H => subL (by lia) (by rw [List.getElem?_map, hc]; rfl) (by rw [List.length_map]; lia)
  have gm : ∀ H : AH, subA (.lst (xs.map .int)) (.int (2 * D + 1)) H = .ok (.int m) H := fun H => subL (by lia) (by rw [List.getElem?_map, hm]; rfl) (by rw [List.length_map]; lia)
  have ec : ∀ (ρ : RE) (H : AH), ρ[0]? = some (some (.lst (xs.map .int))) → ρ[5]? = some (some (.int D)) → subE (varE 0) (binE false .Mult (cstE (.int 2)) (varE 5)) ρ H = .ok (.int c) H := fun ρ H h0 h5 => e_sub (e_var h0) (e_bin rfl (e_var h5) (mulI (.inl (by decide)))) (gc H)
  have em : ∀ (ρ : RE) (H : AH), ρ[0]? = some (some (.lst (xs.map .int))) → ρ[5]? = some (some (.int D)) → subE (varE 0) (binE false .Add (binE false .Mult (cstE (.int 2)) (varE 5)) (cstE (.int 1))) ρ H = .ok (.int m) H := fun ρ H h0 h5 => e_sub (e_var h0) (e_bin (e_bin rfl (e_var h5) (mulI (.inl (by decide)))) rfl addI) (gm H)
  clear gc gm hc hm
  obtain ⟨t, ht⟩ : ∃ t : Bool, c % 2 = if t then 1 else 0 := by
    by_cases h : c % 2 = 1
    · exact ⟨true, h⟩
    · exact ⟨false, by show c % 2 = 0; lia⟩
  refine p_asg (a := .int (if t then 1 else 0)) (H₁ := H) (e_bin (ec _ _ rfl rfl) rfl ((mod_ok (by decide)).trans (by rw [ht]))) ?_
  show PG (seqS _ (rL xs bs ks o (some (.int D)) (some (.int (if t then 1 else 0)))) H)
  obtain ⟨H1, e1, S1⟩ := S.deed (k := k) (c := c) (m := m + 3 * D) W hn t
  refine p_skip (H₁ := H1) (e_nt (x := true) (e_call (l_cons (e_sub rfl rfl sub_t) (l_three (e_sub rfl rfl sub_t) (ec _ _ rfl rfl) (e_bin (em _ _ rfl rfl) (e_bin rfl rfl (mulI (.inl (by decide)))) addI))) e1)) ?_
  obtain ⟨H2, e2, S2⟩ := S1.lists (k := k + 4) W false
  obtain ⟨H3, e3, S3⟩ := S2.lists (k := k + 4) W true
  refine p_skip (H₁ := H3) (e_bop (c := false) (e_nt (x := true) (e_call (l_two (e_sub rfl rfl rfl) (e_sub rfl rfl rfl)) e2)) (e_last (e_nt (x := true) (e_call (l_two (e_sub rfl rfl rfl) (e_sub rfl rfl rfl)) e3)))) ?_
  obtain ⟨H4, e4, S4⟩ := S3.rows (k := k + 2) W t
  refine p_skip (H₁ := H4) (e_nt (x := true) (e_call (l_two (e_sub rfl rfl sub_t) (e_sub rfl rfl sub_t)) e4)) ?_
  by_cases hb : m % 4 = 1
  · obtain ⟨H5, e5, S5⟩ := S4.beside (k := k + 3) W hN t
    refine p_skip (H₁ := H5) (e_bop (c := true) (e_cmp (e_bin (em _ _ rfl rfl) rfl (mod_ok (by decide))) rfl (ceq_int.trans (by rw [decide_eq_true hb]))) (e_last (e_nt (x := true) (e_call (l_three (e_sub rfl rfl sub_t) (e_sub rfl rfl sub_t) rfl) e5)))) ?_
    exact fin _ _ S5
  · refine p_skip (H₁ := H4) (e_stop (c := true) (e_cmp (e_bin (em _ _ rfl rfl) rfl (mod_ok (by decide))) rfl (ceq_int.trans (by rw [decide_eq_false hb]; rfl)))) ?_
    exact fin _ _ (S4.more (Nat.le_add_right _ _))
theorem olds_ev (S : Sta bs ks o n N H) (hN : N ≤ 1000000) {ρ : RE} (h2 : ρ[2]? = some (some (.ref o))) (hl : ρ.length = 7) : compE false false (varE 7) (varE 2) (cmpE (subE (varE 7) (cstE (.int 0))) [.NotEq] [(subE (varE 7) (cstE (.int 1)))]) ρ H = .ok (.lst []) H := by
  refine x3_4 (S.ex) fun col ps ss B K G O => ?_
  refine x1_4 (O.ex) fun os h1 _ h3 h4 => ?_
  refine e_compF (a := .ref o) (H₁ := H) (l := os) (fx := oldAV) (fy := oldAV) (p := fun _ => false) (e_var h2) (.inr ⟨_, rfl, (List.getElem?_eq_some_iff.mp h1).1, h1⟩) (Nat.le_trans h3 hN) (fun e he => ?_) (fun _ _ q => nomatch q) ?_
  · have g := (h4 e he).1
    exact e_cmp (e_sub (var_new hl) rfl sub2_0) (e_sub (var_new hl) rfl sub2_1) (same_ne (N := H.length) (M := 0) (h4 e he).2.2.2 (.inr ⟨_, rfl, (List.getElem?_eq_some_iff.mp g).1, g⟩) (.inl rfl))
  · rw [filter_no]; rfl
theorem start_ev {ρ : RE} : lstE false [(dct2E (cstE (.str "people")) dct0E (cstE (.str "shifts")) dct0E), (dct2E (cstE (.str "people")) dct0E (cstE (.str "shifts")) dct0E)] ρ [.inst 2 (bfs 1 2), .dict [], .dict [], .inst 2 (bfs 4 5), .dict [], .dict [], .lst []] = .ok (.lst [.ref 7, .ref 10]) start := by
  have e1 : dct2E (cstE (.str "people")) dct0E (cstE (.str "shifts")) dct0E ρ [.inst 2 (bfs 1 2), .dict [], .dict [], .inst 2 (bfs 4 5), .dict [], .dict [], .lst []] = .ok (.ref 7) [.inst 2 (bfs 1 2), .dict [], .dict [], .inst 2 (bfs 4 5), .dict [], .dict [], .lst [], .dict (topD 8 9), .dict [], .dict []] := by kernel_rfl
  have e2 : dct2E (cstE (.str "people")) dct0E (cstE (.str "shifts")) dct0E ρ [.inst 2 (bfs 1 2), .dict [], .dict [], .inst 2 (bfs 4 5), .dict [], .dict [], .lst [], .dict (topD 8 9), .dict [], .dict []] = .ok (.ref 10) start := by kernel_rfl
  exact e_lst (l_two e1 e2) (by simp) rfl
theorem law05 (W : Law05 R) {xs : List Int} (hx : xs.length ≤ 63) : ∃ H', R (k + 7) false 66 [.lst (xs.map .int)] [] = .ok (.bool true) H' := by
  rw [W.law _ _ _ _ rfl]
  suffices key : ∀ PG : OutS → Prop, (∀ H', PG (.ret (.bool true) H')) → PG (d05_law (R (k + 6)) false (rho0 [.lst (xs.map .int)] 7) []) from key (fun z => ∃ H', z.done = .ok (.bool true) H') fun H' => ⟨H', rfl⟩
  intro PG fin
  refine p_asg (a := .lst [.ref 0, .ref 3]) (H₁ := [.inst 2 (bfs 1 2), .dict [], .dict [], .inst 2 (bfs 4 5), .dict [], .dict []]) (e_lst (l_two (book_new W.bk) (book_new W.bk)) (by simp) rfl) ?_
  refine p_asg (a := .ref 6) (H₁ := [.inst 2 (bfs 1 2), .dict [], .dict [], .inst 2 (bfs 4 5), .dict [], .dict [], .lst []]) rfl ?_
  refine p_asg (a := .lst [.ref 7, .ref 10]) (H₁ := start) start_ev ?_
  refine p_asg (a := .int 20) (H₁ := start) rfl ?_
  show PG (seqS _ (rL xs bs0 ks0 6 none none) start)
  have hlen : biA false .len [.lst (xs.map .int)] start = .ok (.int xs.length) start := by
    have := IsL.len (N := 0) (H := start) (a := .lst (xs.map .int)) (.inl rfl) (by rw [List.length_map]; lia)
    rw [List.length_map] at this; exact this
  generalize hL : (xs.length : Int) = L at hlen
  refine p_skip (H₁ := start) (e_cmp (e_bi (l_one rfl) hlen) rfl (show some (decide (63 < L)) = _ by rw [decide_eq_false (by lia)])) ?_
  have emin : ∀ H : AH, biA false .min [.int 20, .int (L / 2)] H = .ok (.int (if L / 2 < 20 then L / 2 else 20)) H := fun H => rfl
  have hT0 : (if L / 2 < 20 then L / 2 else 20) ≤ 20 := by split <;> lia
  have hT1 : (if L / 2 < 20 then L / 2 else 20) ≤ L / 2 := by split <;> lia
  have hT2 : 0 ≤ (if L / 2 < 20 then L / 2 else 20) := by split <;> lia
  generalize (if L / 2 < 20 then L / 2 else 20) = T at *
  refine p_for (a := .rng 0 T) (H₁ := start) (xs := span 0 T) (n := T.toNat) (e_bi (l_one (e_bi (l_two rfl (e_bin (e_bi (l_one rfl) hlen) rfl (div_ok (by decide)))) (emin _))) rfl) (range_src hT2 (by lia)) span_l.symm
    (fun j ρ H' => A2 (Sta bs0 ks0 6 j (203 * j) H') (Ex2 fun o5 o6 => ρ = rL xs bs0 ks0 6 o5 o6)) ⟨sta0, _, _, rfl⟩ ?_ ?_
  · rintro J j v ρ H' hv ⟨S, o5, o6, rfl⟩ hJ
    obtain ⟨D, rfl, d0, dj, dT⟩ := spanD hv
    exact turn_P (PG := Nx _ _) W S (by lia) (by lia) hx d0 (by lia) fun H2 o6 S2 => hJ _ _ ⟨S2, _, _, rfl⟩
  · rintro ρ H' ⟨S, o5, o6, rfl⟩
    rw [span_l] at S
    refine p_skip (H₁ := H') (e_cmp (olds_ev S (by lia) rfl rfl) rfl rfl) ?_
    obtain ⟨H2, e2, S2⟩ := S.rows (k := k + 2) W false
    obtain ⟨H3, e3, S3⟩ := S2.rows (k := k + 2) W true
    refine p_skip (H₁ := H3) (e_bop (c := false) (e_nt (x := true) (e_call (l_two (e_sub rfl rfl rfl) (e_sub rfl rfl rfl)) e2)) (e_last (e_nt (x := true) (e_call (l_two (e_sub rfl rfl rfl) (e_sub rfl rfl rfl)) e3)))) ?_
    exact p_ret (e_call (l_one (e_sub rfl rfl rfl)) (S3.missing (k := k + 3) W false)) (fin _)
end
set_option Elab.async false
set_option maxRecDepth 100000
set_option maxHeartbeats 8000000
theorem ends05 (w : World) : openEnds treeTable PySem.Challenge.pw_uf030014_05 w 6000 = ends PySem.Challenge.pw_uf030014_05 w 6000 3755 (lit05 w) (thr05 w) := ends_cut (by decide) (boot05 w) (halfS05 w) (halfT05 w)
theorem left05 : LeftO PySem.Challenge.rw_uf030014_05.row.prog q05 [] (xtOf PySem.Challenge.rw_uf030014_05 q05) (fun s => tx05.ask (fragAt 600 s.heap)) (fun _ => tx05.said) 6000 :=
  left_and (p := PySem.Challenge.pw_uf030014_05) (fun w => (congrArg _ (ends05 w)).trans (base05 w)) fun w => (congrArg _ (ends05 w)).trans (map_and (fit05 w) (body05 w))
theorem wellSaid05 : PySem.Challenge.rw_uf030014_05.wellSaid = true := by kernel_rfl
theorem isDef05 : (defOf q05 PySem.Challenge.rw_uf030014_05.row.name).isSome = true := by kernel_rfl
end Mine
set_option maxRecDepth 100000 in
set_option maxHeartbeats 8000000 in
theorem PySem.Challenge.cw_uf030014_05_holds : PySem.Challenge.rw_uf030014_05.Holds := by
  refine Mine.head_of Mine.wellSaid05 Mine.isDef05 Mine.left05 (by kernel_rfl) (by kernel_rfl) (by rfl) (by decide +kernel) ⟨rfl, rfl, rfl, rfl, rfl, by decide +kernel⟩ (by w_witness2) ?_
  intro w s₀ s₁ mg mb G Y fa o pm cd doc dV kV ho hd hcd hD hmg hg args vals as hpre hlay hrd hwl hlo
  obtain ⟨K, KX, hK⟩ := Y
  refine Ground.open G ?_
  intro T B D TE TW
  have T' := topRead_of T
  have sr := T.seer (by kernel_rfl)
  clear hd hcd hD TE TW D B G ho T
  wrow_args hpre hlay hrd hwl hlo
  rename_i xs _ _ _ _ _ _ _ l vs _ hL _ hW _ hI _ hn _
  let S : Mine.Stat := { prog := PySem.Challenge.rw_uf030014_05.row.prog, w := w, base := s₁.heap, K := K, pr := _, loose := _, mg := mg, mb := mb, hK := KX, hT := T', seer := sr, X := Mine.exA K Mine.tx05.T, cl := Mine.clA K Mine.tx05.T, fa := Mine.faA K Mine.tx05.T Mine.tx05.src, T := Mine.tx05.T }
  have F := Mine.Tx.facts (t := Mine.tx05) (S := S) rfl rfl rfl rfl hK
  exact Mine.law_ok (l := PySem.Challenge.rw_uf030014_05) (i := 66) S Mine.tx05.G rfl rfl rfl rfl hg hmg F.1 rfl (F.2 20 false) hI hL hW hn fun ys hy => Mine.law05 (k := 13) Mine.law05R hy
