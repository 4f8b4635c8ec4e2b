import PyProof.Rows.All
import PyProof.ForAny
import PyProof.CompUse
import PyProof.StrWalks
import PyProof.DictWalks
import PyProof.ExcBaseAll.ValueError
import PyProof.StationsW
import PyProof.StrOps2
import PyProof.WalksMore
import PyProof.RulesAs
import PyProof.NsDelKeeps
import PyProof.WalksPairs
import PyProof.Rows.ListMul
import PyProof.Rows.ListMulCarried
import PyProof.Rows.TopTwo
import PyProof.RulesAssignMore
import Wide.Tac
import Wide.BridgeG
import Wide.Loose
import Wide.Line
import Open.Line
import OpenK.TopRead
import OpenK.KWalk
import OpenK.KLine
import OpenK.KRaise
import KE.KItem
import KE.LcSums
import KE.KListMore
import KE.KDictAny
import KE.KDictList
import KE.KDictSum
import KE.KDictObj
import OpenK.KOwn
import KE.KIsAll
import KE.KSorted
import KE.KxSplit
import PySem.Challenge.RW_uf030014_10
open PySem PySem.W PyProof.Rows
set_option genInjectivity false
set_option genSizeOf false
set_option backward.eqns.nonrecursive false
set_option backward.match.sparseCases false
set_option Elab.async false
set_option autoImplicit false
set_option linter.unusedVariables false
namespace Mine.Internal
theorem qLm {α β:Type} {f:α→β} {l:List α}:(l.map f).length=l.length:=List.length_map _
theorem qLa {α:Type} {a b:List α}:(a++b).length=a.length+b.length:=List.length_append
theorem qGm {α β:Type} {f:α→β} {l:List α} {i:Nat}:(l.map f)[i]?=l[i]?.map f:=List.getElem?_map
theorem qLt {α:Type} {n:Nat} {l:List α}:(l.take n).length=min n l.length:=List.length_take
theorem qMa {α β:Type} {f:α→β} {a b:List α}:(a++b).map f=a.map f++b.map f:=List.map_append
theorem qMo {α:Type} {l:List α} {i:Nat} {a:α} (h:l[i]?=some a):a∈l:=List.mem_of_getElem? h
theorem qMs {α:Type} {a b:α} (h:a∈[b]):a=b:=List.mem_singleton.mp h
theorem qMm {α β:Type} {f:α→β} {l:List α} {b:β} (h:b∈l.map f):∃ a,a∈l∧f a=b:=List.mem_map.mp h
theorem qOb {α β:Type} {o:Option α} {f:α→Option β} {b:β} (h:o.bind f=some b):∃ a,o=some a∧f a=some b:=Option.bind_eq_some_iff.mp h
theorem qGg {α:Type} {l:List α} {i:Nat} (h:i<l.length):l[i]?=some l[i]:=List.getElem?_eq_getElem h
theorem qGl {α:Type} {a b:List α} {i:Nat} (h:i<a.length):(a++b)[i]?=a[i]?:=List.getElem?_append_left h
theorem qAa {α:Type} {a b c:List α}:a++b++c=a++(b++c):=List.append_assoc _ _ _
theorem qBt {a b:Bool}:((a && b)=true)=(a=true∧b=true):=Bool.and_eq_true a b
theorem qMp {α:Type} {a:α} {s t:List α} (h:a∈s++t):a∈s∨a∈t:=List.mem_append.mp h
theorem gsi {α:Type} {l:List α} {i:Nat} {a:α} (h:l[i]?=some a):∃ h:i<l.length,l[i]=a:=List.getElem?_eq_some_iff.mp h
theorem oms {α β:Type} {f:α→β} {x:Option α} {b:β} (h:x.map f=some b):∃ a,x=some a∧f a=b:=Option.map_eq_some_iff.mp h
inductive AV where
 | none
 | bool (b:Bool)
 | int (i:Int)
 | str (s:Str)
 | tup (xs:List AV)
 | lst (xs:List AV)
 | ref (n:Nat)
 | rng (a b:Int)
 | exc (c:Nat)
set_option genInjectivity true in
inductive Key where
 | str (s:Str)
 | int (i:Int)
 deriving DecidableEq
inductive AO where
 | lst (xs:List AV)
 | dict (es:List (Key×AV))
 /-- a dict that a loop goes over: it stays -/
 | ldict (es:List (Key×AV))
 | inst (c:Nat) (fs:List (Option AV))
noncomputable abbrev AH:=List AO
inductive Out (α:Type) where
 | ok (a:α) (H:AH)
 | exc (c:Nat) (H:AH)
 | bad
noncomputable def Out.bind {α β:Type} (o:Out α) (f:α→AH→Out β):Out β:=match o with
 | .ok a H=>f a H
 | .exc c H=>.exc c H
 | .bad=>.bad
inductive OutS where
 | next (ρ:List (Option AV)) (H:AH)
 | ret (a:AV) (H:AH)
 | exc (c:Nat) (ρ:List (Option AV)) (H:AH)
 | bad
noncomputable abbrev RE:=List (Option AV)
noncomputable abbrev DS:=RE→AH→OutS
noncomputable def AV.isNone:AV→Bool
 | .none=>true
 | _=>false
noncomputable def clip (k:Option Int) (n:Nat) (dflt:Nat):Nat:=match k with
 | none=>dflt
 | some k=>if k<0 then (if k+n<0 then 0 else (k+n).toNat) else if k<n then k.toNat else n
noncomputable def cut {α:Type} (xs:List α) (lo hi:Option Int):List α:=(xs.drop (clip lo xs.length 0)).take (clip hi xs.length xs.length-clip lo xs.length 0)
noncomputable def freeH (l:Option Nat) (H:AH):AH:=match l with
 | none=>H
 | some n=>match H[n]? with
  | some (.ldict es)=>H.set n (.dict es)
  | _=>H
inductive Bm where
 | append | clear | get | pop | join
structure Gm where
 mth:List (List (Option Nat))
 na:Nat
 up:List (List Nat)
inductive Ty where
 | int | bool | str | tup | lst
inductive Kd where
 | int | str | tup | lst
noncomputable def Kd.ty:Kd→Ty
 | .int=>.int
 | .str=>.str
 | .tup=>.tup
 | .lst=>.lst
noncomputable def Ty.same:Ty→Ty→Bool
 | .int,t=>match t with
  | .int=>true
  | _=>false
 | .bool,t=>false
 | .str,t=>match t with
  | .str=>true
  | _=>false
 | .tup,t=>match t with
  | .tup=>true
  | _=>false
 | .lst,t=>match t with
  | .lst=>true
  | _=>false
noncomputable def isK (k:Kd) (t:Ty):Bool:=k.ty.same t
structure Tb where
 fns:List (Option Str)
 cls:List Str
 exs:List Str
 an:List Str
 mn:List Str
 gi:List (Str×Int)
noncomputable def OutS.then (o:OutS) (k:DS):OutS:=match o with
 | .next ρ H=>k ρ H
 | o=>o
noncomputable def OutS.free (l:Option Nat):OutS→OutS
 | .next ρ H=>.next ρ (freeH l H)
 | .ret a H=>.ret a (freeH l H)
 | .exc c ρ H=>.exc c ρ (freeH l H)
 | .bad=>.bad
noncomputable def OutS.done:OutS→Out AV
 | .next _ H=>.ok .none H
 | .ret a H=>.ok a H
 | .exc c _ H=>.exc c H
 | .bad=>.bad
structure Stat where
 prog:Program
 w:World
 base:Heap
 K:Frag
 pr:Program
 loose:List Str
 mg:Str→Option Value
 mb:Str→Option Value
 hK:K.In base
 hT:TopRead pr loose mg mb base
 seer:base.NoSeer
 /-- the exceptions' classes,the other classes,the functions,the names -/
 X:Nat→Option Addr
 cl:Nat→Option Addr
 fa:Nat→Option Addr
 T:Tb
noncomputable abbrev Stat.an (S:Stat):List Str:=S.T.an
structure Cx where
 S:Stat
 A:Around
 fe:List Env
 d:Nat
 hot:Bool
 pv:List Addr×List Addr
noncomputable def Cx.fs (C:Cx):List Addr:=C.fe.filterMap (·.frame)
noncomputable def Key.ok:Key→Bool
 | .str x=>PyData.strOk x
 | .int _=>true
noncomputable def Bm.name:Bm→Str
 | .append => "append"
 | .clear => "clear"
 | .get => "get"
 | .pop => "pop"
 | .join => "join"
noncomputable def clsOK (K:Frag) (C:Addr):Bool :=
 (findIn K (.ref C) "__getattribute__" == some (some (.builtin "object.__getattribute__"))) && (findIn K (.ref C) "__getattr__" == some none) &&
 (findIn K (.ref C) "__setattr__" == some (some (.builtin "object.__setattr__"))) && plainOver K C && hasDictIn K C && makesIn K C
noncomputable def veMro:List Value:=[.type "ValueError", .type "Exception", .type "BaseException", .type "object"]
noncomputable def seesIn (K:Frag) (D:Addr):Bool:=(clsIn K D).isSome && findIn K (.ref D) "__getattribute__" == some (some (.builtin "BaseException.__getattribute__")) && findIn K (.ref D) "__getattr__" == some none &&
 findIn K (.ref D) "__class__" == some (some (.builtin "object.__class__")) && specialIn K (.builtin "object.__class__") "__get__" == some (some (.builtin "getset_descriptor.__get__")) && takesIn K (.builtin "object.__class__") == some true &&
 mroIn K D (.type "object") == some true && mroIn K D (.type "BaseException") == some true
noncomputable def Kd.type:Kd→String
 | .int => "int"
 | .str => "str"
 | .tup => "tuple"
 | .lst => "list"
noncomputable def biNames:List Str:=["len", "range", "list", "min", "max", "sum", "sorted", "int", "isinstance", "bool", "str", "tuple", "dict", "ValueError"]
noncomputable def plainPrm (p:Arguments) (names:List Str):Bool:=p.posonlyargs.isEmpty && p.kwonlyargs.isEmpty && p.vararg.isNone && p.kwarg.isNone && decide (p.args.map (·.arg)=names) && decide names.Nodup
noncomputable def scopeOK (sc:Scope) (prm:List Str):Bool :=
 sc.kind == .function && !sc.isCoroutine && !sc.isGenerator && (prm.all fun x=>sc.names.lookup x == some .local || sc.names.lookup x == some .cell) && (sc.names.all fun y=>y.2 != .free)
noncomputable def nsOK (ns:List (Option Str)) (prm:List Str):Bool:=decide (ns.take prm.length=prm.map some) && decide (ns.filterMap id).Nodup && decide (prm.length≤ns.length)
noncomputable def noDef:Value→Bool
 | .none=>true
 | _=>false
noncomputable def fdOK (K:Frag) (prm:List Str) (ns:List (Option Str)) (fd:FuncData):Bool :=
 decide (fd.globals=mainGlobals) && decide (fd.builtins=builtinsNs) && fd.closure.isEmpty && codeIn K fd.code fd.qualname && plainPrm fd.params prm && noDef fd.defaults && scopeOK fd.scope prm && nsOK ns prm
noncomputable def funOf:Data→Option FuncData
 | .func fd=>some fd
 | _=>none
noncomputable def stmsOf:FuncBody→Option (List Stmt)
 | .stmts b=>some b
 | _=>none
noncomputable def fnAt (K:Frag) (f:Addr) (prm:List Str) (ns:List (Option Str)):Option (List (Str×NameKind)×List Stmt):=(K.lookup f).bind fun o=>(funOf o.data).bind fun fd=>if fdOK K prm ns fd then (stmsOf fd.body).map fun b=>(fd.scope.names,b) else none
structure Df where
 prm:List Str
 names:List (Str×NameKind)
 body:List Stmt
noncomputable def Df.ns (f:Df):List (Option Str):=(f.prm++(f.names.filter fun y=>(y.2 == .local || y.2 == .cell) && !(f.prm.any fun x=>x == y.1)).map (·.1)).map some
noncomputable def dfIn (x:Str):List Stmt→Option Df
 | []=>none
 | .FunctionDef n a b _ _ _ sc _ _ _::r=>if n == x then some ⟨a.args.map (·.arg),sc.names,b⟩ else dfIn x r
 | _::r=>dfIn x r
noncomputable def clIn (x:Str):List Stmt→List Stmt
 | []=>[]
 | .ClassDef n _ _ b _ _ _ _ _ _ _::r=>if n == x then b else clIn x r
 | _::r=>clIn x r
set_option genCtorIdx false in
inductive At where
 | top (x:Str)
 | meth (c m:Nat)
noncomputable def dfAt (p:Program) (T:Tb):At→Option Df
 | .top x=>dfIn x p.main.body
 | .meth c m=>(T.cls[c]?).bind fun x=>(T.mn[m]?).bind fun y=>dfIn y (clIn x p.main.body)
noncomputable def refOf:Value→Option Addr
 | .ref a=>some a
 | _=>none
noncomputable def intOf:Value→Option Int
 | .int i _=>some i
 | _=>none
noncomputable def glRef (K:Frag) (x:Str):Option Addr:=(nsIn K mainGlobals x).bind fun o=>o.bind refOf
noncomputable def exA (K:Frag) (T:Tb) (c:Nat):Option Addr:=(T.exs[c]?).bind (glRef K)
noncomputable def clA (K:Frag) (T:Tb) (c:Nat):Option Addr:=(T.cls[c]?).bind (glRef K)
noncomputable def atA' (K:Frag) (D:Addr) (x:Str):Option Addr:=(findIn K (.ref D) x).bind fun o=>o.bind refOf
noncomputable def faAt (K:Frag) (T:Tb):At→Option Addr
 | .top x=>glRef K x
 | .meth c m=>(clA K T c).bind fun D=>(T.mn[m]?).bind (atA' K D)
noncomputable def faA (K:Frag) (T:Tb) (src:List At) (i:Nat):Option Addr:=(src[i]?).bind (faAt K T)
noncomputable def fitCls (K:Frag) (T:Tb) (x:Str):Bool:=match glRef K x with
 | some D=>clsOK K D && keepIn K (.ref D) && T.an.all fun a=>findIn K (.ref D) a == some none
 | none=>false
noncomputable def fitMth (K:Frag) (T:Tb) (src:List At) (c m:Nat):Option Nat→Bool
 | none=>true
 | some f=>match clA K T c with
  | none=>true
  | some D=>match T.mn[m]?,faA K T src f with
   | some x,some fa=>!(T.an.any fun a=>a == x) && findIn K (.ref D) x == some (some (.ref fa)) && isFn K (.ref fa) && fnIn K fa
   | _,_=>false
noncomputable def fitExc (K:Frag) (x:Str):Bool:=match glRef K x with
 | some D=>excIn K D veMro "ValueError.__new__" && seesIn K D
 | none=>false
noncomputable def fitUp (K:Frag) (T:Tb) (c d:Nat) (l:List Nat):Bool:=match exA K T c,exA K T d with
 | some D,some E=>subIn K (.ref D) (.ref E) == some (l.any fun x=>decide (x=d))
 | _,_=>true
noncomputable def fitFn (K:Frag) (T:Tb) (src:List At) (f:Nat):Option Str→Bool
 | none=>true
 | some x=>match faA K T src f with
  | some a=>nsIn K mainGlobals x == some (some (.ref a)) && fnIn K a
  | none=>false
noncomputable def fitGi (K:Frag) (x:Str) (i:Int):Bool:=(nsIn K mainGlobals x).bind (fun o=>o.bind intOf) == some i
noncomputable def tyA (K:Frag) (T:Tb):Ty→Option Value
 | .int=>some (.type "int")
 | .bool=>some (.type "bool")
 | .str=>some (.type "str")
 | .tup=>some (.type "tuple")
 | .lst=>some (.type "list")
noncomputable def tys:List Ty:=[.int,.bool,.str,.tup,.lst]
noncomputable def kds:List Kd:=[.int,.str,.tup,.lst]
noncomputable def fitK (K:Frag) (T:Tb) (t:Value) (f:Ty→Bool):Bool:=tys.all fun ty=>match tyA K T ty with
 | some v=>kitOne K t v == some (f ty)
 | none=>true
noncomputable def each {α:Type} (l:List α) (f:Nat→α→Bool):Bool:=l.zipIdx.all fun p=>f p.2 p.1
noncomputable def fitB (K:Frag) (T:Tb) (G:Gm) (src:List At):Bool :=
 T.cls.all (fitCls K T) && decide T.an.Nodup && decide (G.na=T.an.length) && decide (T.an.length≤1000) && each G.mth (fun c l=>each l fun m f=>fitMth K T src c m f) && decide (T.mn[0]?=some ("__init__" : Str)) &&
 T.exs.all (fitExc K) && each G.up (fun c l=>each T.exs fun d _=>fitUp K T c d l) && each T.fns (fitFn K T src) && (T.gi.all fun p=>fitGi K p.1 p.2) && (biNames.all fun x=>nsIn K mainGlobals x == some none) &&
 (kds.all fun k=>fitK K T (.type k.type) (isK k))
noncomputable def bodyK (K:Frag) (T:Tb) (a:At) (f:Option Df):Option (List (Str×NameKind)×List Stmt):=f.bind fun f=>(faAt K T a).bind fun fa=>fnAt K fa f.prm f.ns
noncomputable def fragAt (n:Nat) (h:Heap):Frag:=(List.range n).filterMap fun a=>(h.get? a).map fun o=>(a,o)
noncomputable def xtOf (l:OpenLaw) (q:Program) (s:Shared):Bool:=xlAt q [] s && recOk (RowW.records l.row.toRowW) s
structure Tx where
 prog:Program
 T:Tb
 G:Gm
 src:List At
 mts:List (Nat×Nat×Nat)
noncomputable def Tx.ask (t:Tx) (K:Frag):Bool×List (Option (List (Str×NameKind)×List Stmt)):=(fitB K t.T t.G t.src,t.src.map fun a=>bodyK K t.T a (dfAt t.prog t.T a))
noncomputable def Tx.said (t:Tx):Bool×List (Option (List (Str×NameKind)×List Stmt)):=(true,t.src.map fun a=>(dfAt t.prog t.T a).map fun f=>(f.names,f.body))
noncomputable def topN (tb:String→Option Builtin) (p:Program) (w:World) (n₀:Nat) (ann:Option Value):Nat→Shared→Thread→Option (Shared×Thread)
 | 0,s,t=>some (s,t)
 | n+1,s,t=>match through t with
  | true=>none
  | false=>match stepOk n₀ ann t with
   | false=>none
   | true=>match step (denote tb) p w s t with
    | .go s' t'=>topN tb p w n₀ ann n s' t'
    | .halt _ _=>none
noncomputable def en (w:World) (s:Str) (t:Tok) (v:Value):DictEntry:=⟨if s.cps.isEmpty then 0 else reduceHash (w.params.strHash s.cps),.str s t,v⟩
noncomputable def topF (p:Program) (i:Nat):Option Stmt:=p.main.body[i]?
noncomputable def inF (p:Program) (i j:Nat):Option Stmt:=match p.main.body[i]? with
 | some (.ClassDef _ _ _ body ..)=>body[j]?
 | _=>none
noncomputable def fd (s:Option Stmt) (name qual:Str) (d k doc m code ct:Value) (g b:Addr):FuncData:=match s with
 | some (.FunctionDef _ a body _ _ _ sc ..)=>{ name,qualname:=qual,params:=a,body:=.stmts body,scope:=sc,globals:=g,closure:=[],defaults:=d,kwdefaults:=k,doc,pyModule:=m,annotations:=none,code,closureTuple:=ct,builtins:=b }
 | _=>default
noncomputable def tu0:Obj:=⟨.type "tuple", none,.seq ⟨[]⟩ 0,⟨[]⟩⟩
noncomputable def fl0:Obj:=⟨.none,none,.fields ⟨[]⟩,⟨[]⟩⟩
noncomputable def cp (t:Tok):Value:=.str "/claim/cut.py" t
noncomputable def zi (i:Int):Value:=.int i 0
noncomputable def co (l:List Value):Obj:=⟨.type "code", none,.fields ⟨l⟩,⟨[]⟩⟩
noncomputable def fo (f:FuncData):Obj:=⟨.type "function", none,.func f,⟨[]⟩⟩
noncomputable def fo' (f:FuncData):Obj:=⟨.none,none,.func f,⟨[]⟩⟩
noncomputable def tu (l:List Value):Obj:=⟨.type "tuple", none,.seq ⟨l⟩ 0,⟨[]⟩⟩
noncomputable def s0 (p:Program) (w:World) (N:Nat):Shared:=(fencedOpening treeTable p w N).getD {}
noncomputable def ann0 (p:Program) (w:World) (N:Nat):Option Value:=(s0 p w N).heap.nsMap mainGlobals "__annotations__"
noncomputable def stk (p:Program) (w:World) (N:Nat):List Frame:=match topN treeTable p w (s0 p w N).heap.objs.size (ann0 p w N) 12 (s0 p w N) (topStub p) with
 | some (_,t)=>t.stack
 | none=>[]
noncomputable def thr (p:Program) (w:World) (N i:Nat) (pos:Pos) (env:Env):Thread :=
 ⟨((execs ((behindTheImports p).drop i) env).onRaise (leaving env)).bind fun x=>.pure (.done x),.body (behindTheImports p) env,pos,stk p w N⟩
noncomputable def chk (p:Program) (s₀ s₁:Shared):Option Shared:=match staticsOk (importedModules p.main.body) s₀.heap s₁.heap && namesBound p s₁.heap && gensDone s₁ && laidKept s₀.heap s₁.heap with
 | true=>some s₁
 | false=>none
noncomputable def ends (p:Program) (w:World) (N m:Nat) (s:Shared) (t:Thread):Option Shared :=
 (topRun treeTable p w (s0 p w N).heap.objs.size (ann0 p w N) m s t).bind (chk p (s0 p w N))
noncomputable def anC:List Str:=["skills", "limit", "away", "hours", "needs", "folk", "work", "places", "days", "fits", "at", "most"]
noncomputable def mnC:List Str:=["__init__", "add_person", "add_rest", "add_shift", "person", "shift", "people", "shifts", "posts", "skills_of", "rests_of", "limit_of", "stretch_of", "count_of", "may", "left_by", "sought", "done", "shift_on"]
noncomputable def gmC:Gm where
 mth:=[[some 10,none,none,none,none,none,none,none,none,none,none,none,none,none,none,none,none,none,none],[some 11,none,none,none,none,none,none,none,none,none,none,none,none,none,none,none,none,none,none],[some 12,some 13,some 14,some 15,some 16,some 17,some 18,some 19,some 20,some 21,some 22,some 23,some 24,some 25,some 26,none,none,none,none],[some 28,none,none,none,none,none,none,none,none,none,none,none,none,none,none,some 29,some 30,some 31,some 32]]
 na:=12
 up:=[[0],[1,0],[2,0],[3,0],[4,0],[5,0],[6,0]]
noncomputable def cell (xs:List Int) (k:Int):Int:=xs.getD k.toNat 0
structure Pm where
 name:Str
 skills:List Str
 limit:Int
 rests:List (Int×Int)
noncomputable def stAV (p:Int×Int):AV:=.tup [.int p.1,.int p.2]
noncomputable def pv (q:Option Nat×Pm):AV:=.tup [.str q.2.name,.lst (q.2.skills.map .str),.int q.2.limit,match q.1 with | some r=>.ref r | none=>.lst (q.2.rests.map stAV)]
structure Dk where
 day:Nat→Int
 fits:Nat→List Str
 most:Str→Int
noncomputable def daysL (D:Dk) (n:Nat):List AV:=(List.range n).map fun x=>.int (D.day x)
structure Sd where
 H0:AH
 D:Dk
 P:List Str
 n:Nat
 pl:List AV
noncomputable def Sd.b (S:Sd):Nat:=S.H0.length
noncomputable def Sd.inst (S:Sd):List (Option AV):=[none,none,none,none,none,none,none,some (.ref (S.b+1)),some (.lst (daysL S.D S.n)),some (.ref (S.b+2)),some (.ref (S.b+3)),some (.ref (S.b+4))]
noncomputable def Sd.m (S:Sd) (G:AH):Nat:=S.b+5+S.P.length+G.length
noncomputable def tb10:Tb where
 fns:=[some ("is_whole" : Str),some ("is_stretch" : Str),some ("meets" : Str),some ("day_of" : Str),some ("in_one_day" : Str),some ("is_name" : Str),some ("checked_skills" : Str),some ("checked_needs" : Str),some ("_law_cell" : Str),some ("_law_sign" : Str),none,none,none,none,none,none,none,none,none,none,none,none,none,none,none,none,none,some ("day_at" : Str),none,none,none,none,none,some ("dealt" : Str),some ("_law_tail" : Str),some ("_law_name_by" : Str),some ("_law_called" : Str),some ("_law_person" : Str),some ("_law_shift" : Str),some ("_law_tight" : Str),some ("_law_parts" : Str),some ("_law_rested" : Str),some ("_law_refused_deed" : Str),some ("_law_book_of" : Str),some ("_law_may" : Str),some ("_law_posts" : Str),some ("_law_wanted" : Str),some ("_law_days" : Str),some ("_law_room" : Str),some ("_law_places" : Str),some ("_law_row_holds" : Str),some ("_law_is_rota" : Str),some ("_law_is_short" : Str),some ("_law_stays" : Str),some ("law" : Str)]
 cls:=["Person", "Shift", "Book", "Deal"]
 exs:=["RotaError", "BadName", "BadStretch", "BadCount", "Twice", "Missing"]
 an:=anC
 mn:=mnC
 gi:=[("LAST", 1000000),("DAY", 24),("LONGEST", 20),("MOST_DAYS", 31),("MOST_COUNT", 9)]
noncomputable def tx10:Tx where
 prog:=PySem.Challenge.pw_uf030014_10
 T:=tb10
 G:=gmC
 src:=[At.top "is_whole", At.top "is_stretch", At.top "meets", At.top "day_of", At.top "in_one_day", At.top "is_name", At.top "checked_skills", At.top "checked_needs", At.top "_law_cell", At.top "_law_sign", At.meth 0 0,At.meth 1 0,At.meth 2 0,At.meth 2 1,At.meth 2 2,At.meth 2 3,At.meth 2 4,At.meth 2 5,At.meth 2 6,At.meth 2 7,At.meth 2 8,At.meth 2 9,At.meth 2 10,At.meth 2 11,At.meth 2 12,At.meth 2 13,At.meth 2 14,At.top "day_at", At.meth 3 0,At.meth 3 15,At.meth 3 16,At.meth 3 17,At.meth 3 18,At.top "dealt", At.top "_law_tail", At.top "_law_name_by", At.top "_law_called", At.top "_law_person", At.top "_law_shift", At.top "_law_tight", At.top "_law_parts", At.top "_law_rested", At.top "_law_refused_deed", At.top "_law_book_of", At.top "_law_may", At.top "_law_posts", At.top "_law_wanted", At.top "_law_days", At.top "_law_room", At.top "_law_places", At.top "_law_row_holds", At.top "_law_is_rota", At.top "_law_is_short", At.top "_law_stays", At.top "law"]
 mts:=[(25,20,22),(45,14,21),(71,15,30),(82,33,74),(83,11,13),(120,20,22),(127,11,13),(136,11,13),(137,12,14),(197,16,18),(256,17,19),(269,19,31),(270,18,20),(273,19,86),(283,18,20),(296,18,20),(300,18,20),(362,21,23)]
noncomputable def q10:Program:=view PySem.Challenge.pw_uf030014_10 [1,2,3,4,5,6,7,9,11,12,14,15,16,17,18,19,21,22,24,25,26,27,28,29,30,32,33,34,35,36,37,38,39,40,41,42,43,44,45,46,47,48,49,50,51,52,53,54]
noncomputable def tF10:=topF PySem.Challenge.pw_uf030014_10
noncomputable def iF10:=inF PySem.Challenge.pw_uf030014_10
noncomputable def lit10 (w:World):Shared:={ toks:=523,heap:={ objs:=⟨[⟨(.type "dict"),none,(.dict ⟨[en w "__name__" 1 (.str "builtins" 160),en w "__doc__" 2 (.builtin "builtins.__doc__:str#opaque"),en w "__package__" 3 (.builtin "builtins.__package__:str#opaque"),en w "__loader__" 4 (.builtin "builtins.__loader__:shared#opaque"),en w "__spec__" 5 (.builtin "builtins.__spec__#opaque"),en w "__build_class__" 6 (.builtin "__build_class__"),en w "__import__" 7 (.builtin "__import__"),en w "abs" 8 (.builtin "abs"),en w "all" 9 (.builtin "all"),en w "any" 10 (.builtin "any"),en w "ascii" 11 (.builtin "ascii"),en w "bin" 12 (.builtin "bin"),en w "breakpoint" 13 (.builtin "breakpoint"),en w "callable" 14 (.builtin "callable"),en w "chr" 15 (.builtin "chr"),en w "compile" 16 (.builtin "compile"),en w "delattr" 17 (.builtin "delattr"),en w "dir" 18 (.builtin "dir"),en w "divmod" 19 (.builtin "divmod"),en w "eval" 20 (.builtin "eval"),en w "exec" 21 (.builtin "exec"),en w "format" 22 (.builtin "format"),en w "getattr" 23 (.builtin "getattr"),en w "globals" 24 (.builtin "globals"),en w "hasattr" 25 (.builtin "hasattr"),en w "hash" 26 (.builtin "hash"),en w "hex" 27 (.builtin "hex"),en w "id" 28 (.builtin "id"),en w "input" 29 (.builtin "input"),en w "isinstance" 30 (.builtin "isinstance"),en w "issubclass" 31 (.builtin "issubclass"),en w "iter" 32 (.builtin "iter"),en w "aiter" 33 (.builtin "aiter"),en w "len" 34 (.builtin "len"),en w "locals" 35 (.builtin "locals"),en w "max" 36 (.builtin "max"),en w "min" 37 (.builtin "min"),en w "next" 38 (.builtin "next"),en w "anext" 39 (.builtin "anext"),en w "oct" 40 (.builtin "oct"),en w "ord" 41 (.builtin "ord"),en w "pow" 42 (.builtin "pow"),en w "print" 43 (.builtin "print"),en w "repr" 44 (.builtin "repr"),en w "round" 45 (.builtin "round"),en w "setattr" 46 (.builtin "setattr"),en w "sorted" 47 (.builtin "sorted"),en w "sum" 48 (.builtin "sum"),en w "vars" 49 (.builtin "vars"),en w "None" 50 .none,en w "Ellipsis" 51 .ellipsis,en w "NotImplemented" 52 .notImplemented,en w "False" 53 (.bool false),en w "True" 54 (.bool true),en w "bool" 55 (.type "bool"),en w "memoryview" 56 (.type "memoryview"),en w "bytearray" 57 (.type "bytearray"),en w "bytes" 58 (.type "bytes"),en w "classmethod" 59 (.type "classmethod"),en w "complex" 60 (.type "complex"),en w "dict" 61 (.type "dict"),en w "enumerate" 62 (.type "enumerate"),en w "filter" 63 (.type "filter"),en w "float" 64 (.type "float"),en w "frozenset" 65 (.type "frozenset"),en w "property" 66 (.type "property"),en w "int" 67 (.type "int"),en w "list" 68 (.type "list"),en w "map" 69 (.type "map"),en w "object" 70 (.type "object"),en w "range" 71 (.type "range"),en w "reversed" 72 (.type "reversed"),en w "set" 73 (.type "set"),en w "slice" 74 (.type "slice"),en w "staticmethod" 75 (.type "staticmethod"),en w "str" 76 (.type "str"),en w "super" 77 (.type "super"),en w "tuple" 78 (.type "tuple"),en w "type" 79 (.type "type"),en w "zip" 80 (.type "zip"),en w "__debug__" 81 (.bool true),en w "BaseException" 82 (.type "BaseException"),en w "BaseExceptionGroup" 83 (.type "BaseExceptionGroup"),en w "Exception" 84 (.type "Exception"),en w "GeneratorExit" 85 (.type "GeneratorExit"),en w "KeyboardInterrupt" 86 (.type "KeyboardInterrupt"),en w "SystemExit" 87 (.type "SystemExit"),en w "ArithmeticError" 88 (.type "ArithmeticError"),en w "AssertionError" 89 (.type "AssertionError"),en w "AttributeError" 90 (.type "AttributeError"),en w "BufferError" 91 (.type "BufferError"),en w "EOFError" 92 (.type "EOFError"),en w "ImportError" 93 (.type "ImportError"),en w "LookupError" 94 (.type "LookupError"),en w "MemoryError" 95 (.type "MemoryError"),en w "NameError" 96 (.type "NameError"),en w "OSError" 97 (.type "OSError"),en w "ReferenceError" 98 (.type "ReferenceError"),en w "RuntimeError" 99 (.type "RuntimeError"),en w "StopAsyncIteration" 100 (.type "StopAsyncIteration"),en w "StopIteration" 101 (.type "StopIteration"),en w "SyntaxError" 102 (.type "SyntaxError"),en w "SystemError" 103 (.type "SystemError"),en w "TypeError" 104 (.type "TypeError"),en w "ValueError" 105 (.type "ValueError"),en w "Warning" 106 (.type "Warning"),en w "FloatingPointError" 107 (.type "FloatingPointError"),en w "OverflowError" 108 (.type "OverflowError"),en w "ZeroDivisionError" 109 (.type "ZeroDivisionError"),en w "BytesWarning" 110 (.type "BytesWarning"),en w "DeprecationWarning" 111 (.type "DeprecationWarning"),en w "EncodingWarning" 112 (.type "EncodingWarning"),en w "FutureWarning" 113 (.type "FutureWarning"),en w "ImportWarning" 114 (.type "ImportWarning"),en w "PendingDeprecationWarning" 115 (.type "PendingDeprecationWarning"),en w "ResourceWarning" 116 (.type "ResourceWarning"),en w "RuntimeWarning" 117 (.type "RuntimeWarning"),en w "SyntaxWarning" 118 (.type "SyntaxWarning"),en w "UnicodeWarning" 119 (.type "UnicodeWarning"),en w "UserWarning" 120 (.type "UserWarning"),en w "BlockingIOError" 121 (.type "BlockingIOError"),en w "ChildProcessError" 122 (.type "ChildProcessError"),en w "ConnectionError" 123 (.type "ConnectionError"),en w "FileExistsError" 124 (.type "FileExistsError"),en w "FileNotFoundError" 125 (.type "FileNotFoundError"),en w "InterruptedError" 126 (.type "InterruptedError"),en w "IsADirectoryError" 127 (.type "IsADirectoryError"),en w "NotADirectoryError" 128 (.type "NotADirectoryError"),en w "PermissionError" 129 (.type "PermissionError"),en w "ProcessLookupError" 130 (.type "ProcessLookupError"),en w "TimeoutError" 131 (.type "TimeoutError"),en w "IndentationError" 132 (.type "IndentationError"),en w "_IncompleteInputError" 133 (.type "_IncompleteInputError"),en w "IndexError" 134 (.type "IndexError"),en w "KeyError" 135 (.type "KeyError"),en w "ModuleNotFoundError" 136 (.type "ModuleNotFoundError"),en w "NotImplementedError" 137 (.type "NotImplementedError"),en w "PythonFinalizationError" 138 (.type "PythonFinalizationError"),en w "RecursionError" 139 (.type "RecursionError"),en w "UnboundLocalError" 140 (.type "UnboundLocalError"),en w "UnicodeError" 141 (.type "UnicodeError"),en w "BrokenPipeError" 142 (.type "BrokenPipeError"),en w "ConnectionAbortedError" 143 (.type "ConnectionAbortedError"),en w "ConnectionRefusedError" 144 (.type "ConnectionRefusedError"),en w "ConnectionResetError" 145 (.type "ConnectionResetError"),en w "TabError" 146 (.type "TabError"),en w "UnicodeDecodeError" 147 (.type "UnicodeDecodeError"),en w "UnicodeEncodeError" 148 (.type "UnicodeEncodeError"),en w "UnicodeTranslateError" 149 (.type "UnicodeTranslateError"),en w "ExceptionGroup" 150 (.type "ExceptionGroup"),en w "EnvironmentError" 151 (.type "OSError"),en w "IOError" 152 (.type "OSError"),en w "open" 153 (.builtin "open"),en w "quit" 154 (.builtin "builtins.quit#opaque"),en w "exit" 155 (.builtin "builtins.exit#opaque"),en w "copyright" 156 (.builtin "builtins.copyright#opaque"),en w "credits" 157 (.builtin "builtins.credits#opaque"),en w "license" 158 (.builtin "builtins.license#opaque"),en w "help" 159 (.builtin "builtins.help#opaque")]⟩ 159),⟨[]⟩⟩,
  ⟨(.type "dict"),none,(.dict ⟨[en w "builtins" 162 (.ref 4),en w "__main__" 163 (.ref 5)]⟩ 2),⟨[]⟩⟩,
  ⟨.none,none,(.dict ⟨[]⟩ 0),⟨[]⟩⟩,
  ⟨(.type "dict"),none,(.dict ⟨[en w "__name__" 165 (.str "rota.book" 434),en w "__doc__" 166 .none,en w "__package__" 167 .none,en w "__loader__" 168 (.builtin "__main__.__loader__#opaque"),en w "__spec__" 169 .none,en w "__annotations__" 170 (.ref 6),en w "__builtins__" 171 (.ref 4),en w "__file__" 173 (cp 172),en w "__cached__" 174 .none,en w "LAST" 190 (.int 1000000 189),en w "DAY" 192 (.int 24 191),en w "is_whole" 199 (.ref 21),en w "is_stretch" 206 (.ref 28),en w "meets" 214 (.ref 35),en w "day_of" 221 (.ref 42),en w "in_one_day" 228 (.ref 49),en w "day_at" 238 (.ref 56),en w "Deal" 315 (.ref 97),en w "dealt" 321 (.ref 106),en w "RotaError" 341 (.ref 116),en w "BadName" 357 (.ref 129),en w "BadStretch" 373 (.ref 141),en w "BadCount" 389 (.ref 153),en w "Twice" 405 (.ref 165),en w "Missing" 421 (.ref 177),en w "LONGEST" 425 (.int 20 424),en w "is_name" 433 (.ref 186),en w "MOST_DAYS" 437 (.int 31 436),en w "MOST_COUNT" 439 (.int 9 438),en w "Person" 471 (.ref 203),en w "Shift" 502 (.ref 224),en w "checked_skills" 511 (.ref 235),en w "checked_needs" 522 (.ref 242)]⟩ 33),⟨[]⟩⟩,
  ⟨(.type "module"),(some 0),.plain,⟨[]⟩⟩,
  ⟨(.type "module"),(some 3),.plain,⟨[]⟩⟩,
  ⟨(.type "dict"),none,(.dict ⟨[]⟩ 0),⟨[]⟩⟩,
  tu0,
  fl0,
  co [.str "<module>" 176,.str "<module>" 177,cp 178,zi 1,zi 0,zi 0,zi 0,zi 0,.ref 7,.bool false,zi 175,.ref 8,.none,.none,.none,.none,zi 179,zi 1,cp 180],
  ⟨(.type "frame"),none,.plain,⟨[(some (.ref 9)),(some (.ref 3)),(some (.ref 3)),none,(some (.str "__main__" 164)),none,(some (.ref 0))]⟩⟩,
  tu0,
  ⟨.none,none,(.fields ⟨[zi 4,zi 0,.ref 20,zi 6,zi 0,.ref 27,zi 10,zi 0,.ref 34,zi 12,zi 0,.ref 41,zi 14,zi 0,.ref 48,zi 17,zi 0,.ref 55,zi 20,zi 0,.ref 62,zi 75,zi 0,.ref 105,zi 91,zi 0,.ref 112,zi 93,zi 0,.ref 125,zi 95,zi 0,.ref 137,zi 97,zi 0,.ref 149,zi 99,zi 0,.ref 161,zi 101,zi 0,.ref 173,zi 105,zi 0,.ref 185,zi 115,zi 0,.ref 192,zi 121,zi 0,.ref 213,zi 126,zi 0,.ref 234,zi 135,zi 0,.ref 241]⟩),⟨[]⟩⟩,
  co [.str "<module>" 182,.str "<module>" 183,cp 184,zi 1,zi 0,zi 0,zi 0,zi 0,.ref 11,.bool false,zi 181,.ref 12,.none,.none,.none,.none,zi 185,zi 1,cp 186],
  ⟨(.type "frame"),none,.plain,⟨[(some (.ref 13)),(some (.ref 3)),(some (.ref 3)),none,(some (.str "__main__" 164)),none,(some (.ref 0))]⟩⟩,
  tu0,
  fl0,
  tu [.str "thing" 196],
  tu0,
  fo' (fd (tF10 3) "is_whole" "is_whole" .none .none .none .none .none .none 0 0),
  co [.str "is_whole" 193,.str "is_whole" 194,cp 195,zi 4,zi 1,zi 0,zi 0,zi 3,.ref 15,.bool true,zi 181,.ref 16,.none,.ref 17,.ref 18,.ref 19,zi 197,zi 4,cp 198],
  fo (fd (tF10 3) "is_whole" "is_whole" .none .none .none (.str "rota.hours" 187) (.ref 20) .none 3 0),
  tu0,
  fl0,
  tu [.str "pair" 203],
  tu0,
  fo' (fd (tF10 4) "is_stretch" "is_stretch" .none .none .none .none .none .none 0 0),
  co [.str "is_stretch" 200,.str "is_stretch" 201,cp 202,zi 6,zi 1,zi 0,zi 0,zi 3,.ref 22,.bool true,zi 181,.ref 23,.none,.ref 24,.ref 25,.ref 26,zi 204,zi 6,cp 205],
  fo (fd (tF10 4) "is_stretch" "is_stretch" .none .none .none (.str "rota.hours" 187) (.ref 27) .none 3 0),
  tu0,
  fl0,
  tu [.str "one" 210,.str "other" 211],
  tu0,
  fo' (fd (tF10 5) "meets" "meets" .none .none .none .none .none .none 0 0),
  co [.str "meets" 207,.str "meets" 208,cp 209,zi 10,zi 2,zi 0,zi 0,zi 3,.ref 29,.bool true,zi 181,.ref 30,.none,.ref 31,.ref 32,.ref 33,zi 212,zi 10,cp 213],
  fo (fd (tF10 5) "meets" "meets" .none .none .none (.str "rota.hours" 187) (.ref 34) .none 3 0),
  tu0,
  fl0,
  tu [.str "stretch" 218],
  tu0,
  fo' (fd (tF10 6) "day_of" "day_of" .none .none .none .none .none .none 0 0),
  co [.str "day_of" 215,.str "day_of" 216,cp 217,zi 12,zi 1,zi 0,zi 0,zi 3,.ref 36,.bool true,zi 181,.ref 37,.none,.ref 38,.ref 39,.ref 40,zi 219,zi 12,cp 220],
  fo (fd (tF10 6) "day_of" "day_of" .none .none .none (.str "rota.hours" 187) (.ref 41) .none 3 0),
  tu0,
  fl0,
  tu [.str "stretch" 225],
  tu0,
  fo' (fd (tF10 7) "in_one_day" "in_one_day" .none .none .none .none .none .none 0 0),
  co [.str "in_one_day" 222,.str "in_one_day" 223,cp 224,zi 14,zi 1,zi 0,zi 0,zi 3,.ref 43,.bool true,zi 181,.ref 44,.none,.ref 45,.ref 46,.ref 47,zi 226,zi 14,cp 227],
  fo (fd (tF10 7) "in_one_day" "in_one_day" .none .none .none (.str "rota.hours" 187) (.ref 48) .none 3 0),
  tu0,
  fl0,
  tu [.str "book" 234,.str "shift" 235],
  tu0,
  fo' (fd (tF10 9) "day_at" "day_at" .none .none .none .none .none .none 0 0),
  co [.str "day_at" 231,.str "day_at" 232,cp 233,zi 17,zi 2,zi 0,zi 0,zi 3,.ref 50,.bool true,zi 181,.ref 51,.none,.ref 52,.ref 53,.ref 54,zi 236,zi 17,cp 237],
  fo (fd (tF10 9) "day_at" "day_at" .none .none .none (.str "rota.checks" 229) (.ref 55) .none 3 0),
  tu0,
  ⟨(.type "builtin_function_or_method"),none,(.fields ⟨[(.builtin "type.__prepare__"),(.type "type")]⟩),⟨[]⟩⟩,
  ⟨(.type "dict"),none,(.dict ⟨[en w "__module__" 248 (.str "rota.deals" 239),en w "__qualname__" 250 (.str "Deal" 249),en w "__firstlineno__" 252 (.int 20 251),en w "__init__" 258 (.ref 68),en w "left_by" 264 (.ref 73),en w "sought" 279 (.ref 80),en w "done" 291 (.ref 87),en w "shift_on" 302 (.ref 94),en w "__static_attributes__" 308 (.ref 95)]⟩ 9),⟨[]⟩⟩,
  tu0,
  ⟨.none,none,(.fields ⟨[zi 22,zi 4,.ref 67,zi 34,zi 4,.ref 72,zi 43,zi 4,.ref 79,zi 62,zi 4,.ref 86,zi 70,zi 4,.ref 93]⟩),⟨[]⟩⟩,
  co [.str "Deal" 243,.str "Deal" 244,cp 245,zi 20,zi 0,zi 0,zi 0,zi 0,.ref 60,.bool false,zi 181,.ref 61,.none,.none,.none,.none,zi 246,zi 20,cp 247],
  ⟨(.type "frame"),none,.plain,⟨[(some (.ref 62)),(some (.ref 3)),(some (.ref 59)),none,(some (.str "rota.deals" 239)),none,(some (.ref 0))]⟩⟩,
  tu0,
  fl0,
  fo' (fd (iF10 11 0) "__init__" "Deal.__init__" .none .none .none .none .none .none 0 0),
  co [.str "__init__" 253,.str "Deal.__init__" 254,cp 255,zi 22,zi 2,zi 0,zi 0,zi 3,.ref 64,.bool true,zi 181,.ref 65,.none,.none,.none,.ref 66,zi 256,zi 22,cp 257],
  fo (fd (iF10 11 0) "__init__" "Deal.__init__" .none .none .none (.str "rota.deals" 239) (.ref 67) .none 3 0),
  tu0,
  fl0,
  fo' (fd (iF10 11 1) "left_by" "Deal.left_by" .none .none .none .none .none .none 0 0),
  co [.str "left_by" 259,.str "Deal.left_by" 260,cp 261,zi 34,zi 3,zi 0,zi 0,zi 3,.ref 69,.bool true,zi 181,.ref 70,.none,.none,.none,.ref 71,zi 262,zi 34,cp 263],
  fo (fd (iF10 11 1) "left_by" "Deal.left_by" .none .none .none (.str "rota.deals" 239) (.ref 72) .none 3 0),
  tu0,
  fl0,
  tu [.str "self" 268,.str "first" 269,.str "met" 270,.str "row" 271,.str "at" 272,.str "place" 273,.str "person" 274,.str "lefts" 275,.str "left" 276],
  tu0,
  fo' (fd (iF10 11 2) "sought" "Deal.sought" .none .none .none .none .none .none 0 0),
  co [.str "sought" 265,.str "Deal.sought" 266,cp 267,zi 43,zi 2,zi 0,zi 0,zi 3,.ref 74,.bool true,zi 181,.ref 75,.none,.ref 76,.ref 77,.ref 78,zi 277,zi 43,cp 278],
  fo (fd (iF10 11 2) "sought" "Deal.sought" .none .none .none (.str "rota.deals" 239) (.ref 79) .none 3 0),
  tu0,
  fl0,
  tu [.str "self" 283,.str "met" 284,.str "place" 285,.str "person" 286,.str "before" 287,.str "mover" 288],
  tu0,
  fo' (fd (iF10 11 3) "done" "Deal.done" .none .none .none .none .none .none 0 0),
  co [.str "done" 280,.str "Deal.done" 281,cp 282,zi 62,zi 4,zi 0,zi 0,zi 3,.ref 81,.bool true,zi 181,.ref 82,.none,.ref 83,.ref 84,.ref 85,zi 289,zi 62,cp 290],
  fo (fd (iF10 11 3) "done" "Deal.done" .none .none .none (.str "rota.deals" 239) (.ref 86) .none 3 0),
  tu0,
  fl0,
  tu [.str "self" 295,.str "person" 296,.str "left" 297,.str "place" 298,.str "held" 299],
  tu0,
  fo' (fd (iF10 11 4) "shift_on" "Deal.shift_on" .none .none .none .none .none .none 0 0),
  co [.str "shift_on" 292,.str "Deal.shift_on" 293,cp 294,zi 70,zi 4,zi 0,zi 0,zi 3,.ref 88,.bool true,zi 181,.ref 89,.none,.ref 90,.ref 91,.ref 92,zi 300,zi 70,cp 301],
  fo (fd (iF10 11 4) "shift_on" "Deal.shift_on" .none .none .none (.str "rota.deals" 239) (.ref 93) .none 3 0),
  tu [.str "at" 303,.str "days" 304,.str "fits" 305,.str "most" 306,.str "places" 307],
  ⟨(.type "dict"),none,(.dict ⟨[en w "__module__" 248 (.str "rota.deals" 239),en w "__firstlineno__" 252 (.int 20 251),en w "__init__" 258 (.ref 68),en w "left_by" 264 (.ref 73),en w "sought" 279 (.ref 80),en w "done" 291 (.ref 87),en w "shift_on" 302 (.ref 94),en w "__static_attributes__" 308 (.ref 95),en w "__dict__" 310 (.ref 98),en w "__weakref__" 312 (.ref 99),en w "__doc__" 313 .none]⟩ 4),⟨[]⟩⟩,
  ⟨(.type "type"),none,(.cls ⟨"Deal", [(.type "object")],[.ref 97,(.type "object")],96, "Deal", true,[],[],false,none,false⟩),⟨[none,none,(some (.str "Deal" 241)),(some (.str "Deal" 249)),(some (.builtin "object.__new__")),(some (.bool true))]⟩⟩,
  ⟨(.type "getset_descriptor"),none,(.fields ⟨[.str "__dict__" 309,.ref 97,(.builtin "function.__dict__"),(.builtin "function.__dict__#set")]⟩),⟨[]⟩⟩,
  ⟨(.type "getset_descriptor"),none,(.fields ⟨[.str "__weakref__" 311,.ref 97,(.builtin "ExceptionGroup.__weakref__"),.none]⟩),⟨[]⟩⟩,
  ⟨(.type "super"),none,(.fields ⟨[.ref 97,.ref 97,.ref 97]⟩),⟨[]⟩⟩,
  ⟨(.type "builtin_function_or_method"),none,(.fields ⟨[(.builtin "object.__init_subclass__"),.ref 97]⟩),⟨[]⟩⟩,
  tu0,
  fl0,
  fo' (fd (tF10 12) "dealt" "dealt" .none .none .none .none .none .none 0 0),
  co [.str "dealt" 316,.str "dealt" 317,cp 318,zi 75,zi 1,zi 0,zi 0,zi 3,.ref 102,.bool true,zi 181,.ref 103,.none,.none,.none,.ref 104,zi 319,zi 75,cp 320],
  fo (fd (tF10 12) "dealt" "dealt" .none .none .none (.str "rota.deals" 239) (.ref 105) .none 3 0),
  tu [(.type "ValueError")],
  ⟨(.type "builtin_function_or_method"),none,(.fields ⟨[(.builtin "type.__prepare__"),(.type "type")]⟩),⟨[]⟩⟩,
  ⟨(.type "dict"),none,(.dict ⟨[en w "__module__" 331 (.str "rota.errors" 322),en w "__qualname__" 333 (.str "RotaError" 332),en w "__firstlineno__" 335 (.int 91 334),en w "__static_attributes__" 336 (.ref 114)]⟩ 4),⟨[]⟩⟩,
  tu0,
  fl0,
  co [.str "RotaError" 326,.str "RotaError" 327,cp 328,zi 91,zi 0,zi 0,zi 0,zi 0,.ref 110,.bool false,zi 181,.ref 111,.none,.none,.none,.none,zi 329,zi 91,cp 330],
  ⟨(.type "frame"),none,.plain,⟨[(some (.ref 112)),(some (.ref 3)),(some (.ref 109)),none,(some (.str "rota.errors" 322)),none,(some (.ref 0))]⟩⟩,
  tu0,
  ⟨(.type "dict"),none,(.dict ⟨[en w "__module__" 331 (.str "rota.errors" 322),en w "__firstlineno__" 335 (.int 91 334),en w "__static_attributes__" 336 (.ref 114),en w "__weakref__" 338 (.ref 117),en w "__doc__" 339 .none]⟩ 3),⟨[]⟩⟩,
  ⟨(.type "type"),none,(.cls ⟨"RotaError", [(.type "ValueError")],[.ref 116,(.type "ValueError"),(.type "Exception"),(.type "BaseException"),(.type "object")],115, "RotaError", true,[],[.ref 129,.ref 141,.ref 153,.ref 165,.ref 177],false,none,false⟩),⟨[(some (.ref 107)),none,(some (.str "RotaError" 324)),(some (.str "RotaError" 332)),(some (.builtin "ValueError.__new__")),(some (.bool true))]⟩⟩,
  ⟨(.type "getset_descriptor"),none,(.fields ⟨[.str "__weakref__" 337,.ref 116,(.builtin "ExceptionGroup.__weakref__"),.none]⟩),⟨[]⟩⟩,
  ⟨(.type "super"),none,(.fields ⟨[.ref 116,.ref 116,.ref 116]⟩),⟨[]⟩⟩,
  ⟨(.type "builtin_function_or_method"),none,(.fields ⟨[(.builtin "object.__init_subclass__"),.ref 116]⟩),⟨[]⟩⟩,
  tu [.ref 116],
  ⟨(.type "builtin_function_or_method"),none,(.fields ⟨[(.builtin "type.__prepare__"),(.type "type")]⟩),⟨[]⟩⟩,
  ⟨(.type "dict"),none,(.dict ⟨[en w "__module__" 349 (.str "rota.errors" 322),en w "__qualname__" 351 (.str "BadName" 350),en w "__firstlineno__" 353 (.int 93 352),en w "__static_attributes__" 354 (.ref 127)]⟩ 4),⟨[]⟩⟩,
  tu0,
  fl0,
  co [.str "BadName" 344,.str "BadName" 345,cp 346,zi 93,zi 0,zi 0,zi 0,zi 0,.ref 123,.bool false,zi 181,.ref 124,.none,.none,.none,.none,zi 347,zi 93,cp 348],
  ⟨(.type "frame"),none,.plain,⟨[(some (.ref 125)),(some (.ref 3)),(some (.ref 122)),none,(some (.str "rota.errors" 322)),none,(some (.ref 0))]⟩⟩,
  tu0,
  ⟨(.type "dict"),none,(.dict ⟨[en w "__module__" 349 (.str "rota.errors" 322),en w "__firstlineno__" 353 (.int 93 352),en w "__static_attributes__" 354 (.ref 127),en w "__doc__" 355 .none]⟩ 2),⟨[]⟩⟩,
  ⟨(.type "type"),none,(.cls ⟨"BadName", [.ref 116],[.ref 129,.ref 116,(.type "ValueError"),(.type "Exception"),(.type "BaseException"),(.type "object")],128, "BadName", true,[],[],false,none,false⟩),⟨[(some (.ref 120)),none,(some (.str "BadName" 342)),(some (.str "BadName" 350)),(some (.builtin "ValueError.__new__")),(some (.bool true))]⟩⟩,
  ⟨(.type "super"),none,(.fields ⟨[.ref 129,.ref 129,.ref 129]⟩),⟨[]⟩⟩,
  ⟨(.type "builtin_function_or_method"),none,(.fields ⟨[(.builtin "object.__init_subclass__"),.ref 129]⟩),⟨[]⟩⟩,
  tu [.ref 116],
  ⟨(.type "builtin_function_or_method"),none,(.fields ⟨[(.builtin "type.__prepare__"),(.type "type")]⟩),⟨[]⟩⟩,
  ⟨(.type "dict"),none,(.dict ⟨[en w "__module__" 365 (.str "rota.errors" 322),en w "__qualname__" 367 (.str "BadStretch" 366),en w "__firstlineno__" 369 (.int 95 368),en w "__static_attributes__" 370 (.ref 139)]⟩ 4),⟨[]⟩⟩,
  tu0,
  fl0,
  co [.str "BadStretch" 360,.str "BadStretch" 361,cp 362,zi 95,zi 0,zi 0,zi 0,zi 0,.ref 135,.bool false,zi 181,.ref 136,.none,.none,.none,.none,zi 363,zi 95,cp 364],
  ⟨(.type "frame"),none,.plain,⟨[(some (.ref 137)),(some (.ref 3)),(some (.ref 134)),none,(some (.str "rota.errors" 322)),none,(some (.ref 0))]⟩⟩,
  tu0,
  ⟨(.type "dict"),none,(.dict ⟨[en w "__module__" 365 (.str "rota.errors" 322),en w "__firstlineno__" 369 (.int 95 368),en w "__static_attributes__" 370 (.ref 139),en w "__doc__" 371 .none]⟩ 2),⟨[]⟩⟩,
  ⟨(.type "type"),none,(.cls ⟨"BadStretch", [.ref 116],[.ref 141,.ref 116,(.type "ValueError"),(.type "Exception"),(.type "BaseException"),(.type "object")],140, "BadStretch", true,[],[],false,none,false⟩),⟨[(some (.ref 132)),none,(some (.str "BadStretch" 358)),(some (.str "BadStretch" 366)),(some (.builtin "ValueError.__new__")),(some (.bool true))]⟩⟩,
  ⟨(.type "super"),none,(.fields ⟨[.ref 141,.ref 141,.ref 141]⟩),⟨[]⟩⟩,
  ⟨(.type "builtin_function_or_method"),none,(.fields ⟨[(.builtin "object.__init_subclass__"),.ref 141]⟩),⟨[]⟩⟩,
  tu [.ref 116],
  ⟨(.type "builtin_function_or_method"),none,(.fields ⟨[(.builtin "type.__prepare__"),(.type "type")]⟩),⟨[]⟩⟩,
  ⟨(.type "dict"),none,(.dict ⟨[en w "__module__" 381 (.str "rota.errors" 322),en w "__qualname__" 383 (.str "BadCount" 382),en w "__firstlineno__" 385 (.int 97 384),en w "__static_attributes__" 386 (.ref 151)]⟩ 4),⟨[]⟩⟩,
  tu0,
  fl0,
  co [.str "BadCount" 376,.str "BadCount" 377,cp 378,zi 97,zi 0,zi 0,zi 0,zi 0,.ref 147,.bool false,zi 181,.ref 148,.none,.none,.none,.none,zi 379,zi 97,cp 380],
  ⟨(.type "frame"),none,.plain,⟨[(some (.ref 149)),(some (.ref 3)),(some (.ref 146)),none,(some (.str "rota.errors" 322)),none,(some (.ref 0))]⟩⟩,
  tu0,
  ⟨(.type "dict"),none,(.dict ⟨[en w "__module__" 381 (.str "rota.errors" 322),en w "__firstlineno__" 385 (.int 97 384),en w "__static_attributes__" 386 (.ref 151),en w "__doc__" 387 .none]⟩ 2),⟨[]⟩⟩,
  ⟨(.type "type"),none,(.cls ⟨"BadCount", [.ref 116],[.ref 153,.ref 116,(.type "ValueError"),(.type "Exception"),(.type "BaseException"),(.type "object")],152, "BadCount", true,[],[],false,none,false⟩),⟨[(some (.ref 144)),none,(some (.str "BadCount" 374)),(some (.str "BadCount" 382)),(some (.builtin "ValueError.__new__")),(some (.bool true))]⟩⟩,
  ⟨(.type "super"),none,(.fields ⟨[.ref 153,.ref 153,.ref 153]⟩),⟨[]⟩⟩,
  ⟨(.type "builtin_function_or_method"),none,(.fields ⟨[(.builtin "object.__init_subclass__"),.ref 153]⟩),⟨[]⟩⟩,
  tu [.ref 116],
  ⟨(.type "builtin_function_or_method"),none,(.fields ⟨[(.builtin "type.__prepare__"),(.type "type")]⟩),⟨[]⟩⟩,
  ⟨(.type "dict"),none,(.dict ⟨[en w "__module__" 397 (.str "rota.errors" 322),en w "__qualname__" 399 (.str "Twice" 398),en w "__firstlineno__" 401 (.int 99 400),en w "__static_attributes__" 402 (.ref 163)]⟩ 4),⟨[]⟩⟩,
  tu0,
  fl0,
  co [.str "Twice" 392,.str "Twice" 393,cp 394,zi 99,zi 0,zi 0,zi 0,zi 0,.ref 159,.bool false,zi 181,.ref 160,.none,.none,.none,.none,zi 395,zi 99,cp 396],
  ⟨(.type "frame"),none,.plain,⟨[(some (.ref 161)),(some (.ref 3)),(some (.ref 158)),none,(some (.str "rota.errors" 322)),none,(some (.ref 0))]⟩⟩,
  tu0,
  ⟨(.type "dict"),none,(.dict ⟨[en w "__module__" 397 (.str "rota.errors" 322),en w "__firstlineno__" 401 (.int 99 400),en w "__static_attributes__" 402 (.ref 163),en w "__doc__" 403 .none]⟩ 2),⟨[]⟩⟩,
  ⟨(.type "type"),none,(.cls ⟨"Twice", [.ref 116],[.ref 165,.ref 116,(.type "ValueError"),(.type "Exception"),(.type "BaseException"),(.type "object")],164, "Twice", true,[],[],false,none,false⟩),⟨[(some (.ref 156)),none,(some (.str "Twice" 390)),(some (.str "Twice" 398)),(some (.builtin "ValueError.__new__")),(some (.bool true))]⟩⟩,
  ⟨(.type "super"),none,(.fields ⟨[.ref 165,.ref 165,.ref 165]⟩),⟨[]⟩⟩,
  ⟨(.type "builtin_function_or_method"),none,(.fields ⟨[(.builtin "object.__init_subclass__"),.ref 165]⟩),⟨[]⟩⟩,
  tu [.ref 116],
  ⟨(.type "builtin_function_or_method"),none,(.fields ⟨[(.builtin "type.__prepare__"),(.type "type")]⟩),⟨[]⟩⟩,
  ⟨(.type "dict"),none,(.dict ⟨[en w "__module__" 413 (.str "rota.errors" 322),en w "__qualname__" 415 (.str "Missing" 414),en w "__firstlineno__" 417 (.int 101 416),en w "__static_attributes__" 418 (.ref 175)]⟩ 4),⟨[]⟩⟩,
  tu0,
  fl0,
  co [.str "Missing" 408,.str "Missing" 409,cp 410,zi 101,zi 0,zi 0,zi 0,zi 0,.ref 171,.bool false,zi 181,.ref 172,.none,.none,.none,.none,zi 411,zi 101,cp 412],
  ⟨(.type "frame"),none,.plain,⟨[(some (.ref 173)),(some (.ref 3)),(some (.ref 170)),none,(some (.str "rota.errors" 322)),none,(some (.ref 0))]⟩⟩,
  tu0,
  ⟨(.type "dict"),none,(.dict ⟨[en w "__module__" 413 (.str "rota.errors" 322),en w "__firstlineno__" 417 (.int 101 416),en w "__static_attributes__" 418 (.ref 175),en w "__doc__" 419 .none]⟩ 2),⟨[]⟩⟩,
  ⟨(.type "type"),none,(.cls ⟨"Missing", [.ref 116],[.ref 177,.ref 116,(.type "ValueError"),(.type "Exception"),(.type "BaseException"),(.type "object")],176, "Missing", true,[],[],false,none,false⟩),⟨[(some (.ref 168)),none,(some (.str "Missing" 406)),(some (.str "Missing" 414)),(some (.builtin "ValueError.__new__")),(some (.bool true))]⟩⟩,
  ⟨(.type "super"),none,(.fields ⟨[.ref 177,.ref 177,.ref 177]⟩),⟨[]⟩⟩,
  ⟨(.type "builtin_function_or_method"),none,(.fields ⟨[(.builtin "object.__init_subclass__"),.ref 177]⟩),⟨[]⟩⟩,
  tu0,
  fl0,
  tu [.str "text" 429,.str "sign" 430],
  tu0,
  fo' (fd (tF10 22) "is_name" "is_name" .none .none .none .none .none .none 0 0),
  co [.str "is_name" 426,.str "is_name" 427,cp 428,zi 105,zi 1,zi 0,zi 0,zi 3,.ref 180,.bool true,zi 181,.ref 181,.none,.ref 182,.ref 183,.ref 184,zi 431,zi 105,cp 432],
  fo (fd (tF10 22) "is_name" "is_name" .none .none .none (.str "rota.names" 422) (.ref 185) .none 3 0),
  tu0,
  ⟨(.type "builtin_function_or_method"),none,(.fields ⟨[(.builtin "type.__prepare__"),(.type "type")]⟩),⟨[]⟩⟩,
  ⟨(.type "dict"),none,(.dict ⟨[en w "__module__" 447 (.str "rota.book" 434),en w "__qualname__" 449 (.str "Person" 448),en w "__firstlineno__" 451 (.int 115 450),en w "__init__" 460 (.ref 200),en w "__static_attributes__" 464 (.ref 201)]⟩ 5),⟨[]⟩⟩,
  tu0,
  ⟨.none,none,(.fields ⟨[zi 117,zi 4,.ref 199]⟩),⟨[]⟩⟩,
  co [.str "Person" 442,.str "Person" 443,cp 444,zi 115,zi 0,zi 0,zi 0,zi 0,.ref 190,.bool false,zi 181,.ref 191,.none,.none,.none,.none,zi 445,zi 115,cp 446],
  ⟨(.type "frame"),none,.plain,⟨[(some (.ref 192)),(some (.ref 3)),(some (.ref 189)),none,(some (.str "rota.book" 434)),none,(some (.ref 0))]⟩⟩,
  tu0,
  fl0,
  tu [.str "self" 455,.str "skills" 456,.str "limit" 457],
  tu0,
  fo' (fd (iF10 26 0) "__init__" "Person.__init__" .none .none .none .none .none .none 0 0),
  co [.str "__init__" 452,.str "Person.__init__" 453,cp 454,zi 117,zi 3,zi 0,zi 0,zi 3,.ref 194,.bool true,zi 181,.ref 195,.none,.ref 196,.ref 197,.ref 198,zi 458,zi 117,cp 459],
  fo (fd (iF10 26 0) "__init__" "Person.__init__" .none .none .none (.str "rota.book" 434) (.ref 199) .none 3 0),
  tu [.str "away" 461,.str "limit" 462,.str "skills" 463],
  ⟨(.type "dict"),none,(.dict ⟨[en w "__module__" 447 (.str "rota.book" 434),en w "__firstlineno__" 451 (.int 115 450),en w "__init__" 460 (.ref 200),en w "__static_attributes__" 464 (.ref 201),en w "__dict__" 466 (.ref 204),en w "__weakref__" 468 (.ref 205),en w "__doc__" 469 .none]⟩ 4),⟨[]⟩⟩,
  ⟨(.type "type"),none,(.cls ⟨"Person", [(.type "object")],[.ref 203,(.type "object")],202, "Person", true,[],[],false,none,false⟩),⟨[none,none,(some (.str "Person" 440)),(some (.str "Person" 448)),(some (.builtin "object.__new__")),(some (.bool true))]⟩⟩,
  ⟨(.type "getset_descriptor"),none,(.fields ⟨[.str "__dict__" 465,.ref 203,(.builtin "function.__dict__"),(.builtin "function.__dict__#set")]⟩),⟨[]⟩⟩,
  ⟨(.type "getset_descriptor"),none,(.fields ⟨[.str "__weakref__" 467,.ref 203,(.builtin "ExceptionGroup.__weakref__"),.none]⟩),⟨[]⟩⟩,
  ⟨(.type "super"),none,(.fields ⟨[.ref 203,.ref 203,.ref 203]⟩),⟨[]⟩⟩,
  ⟨(.type "builtin_function_or_method"),none,(.fields ⟨[(.builtin "object.__init_subclass__"),.ref 203]⟩),⟨[]⟩⟩,
  tu0,
  ⟨(.type "builtin_function_or_method"),none,(.fields ⟨[(.builtin "type.__prepare__"),(.type "type")]⟩),⟨[]⟩⟩,
  ⟨(.type "dict"),none,(.dict ⟨[en w "__module__" 479 (.str "rota.book" 434),en w "__qualname__" 481 (.str "Shift" 480),en w "__firstlineno__" 483 (.int 121 482),en w "__init__" 492 (.ref 221),en w "__static_attributes__" 495 (.ref 222)]⟩ 5),⟨[]⟩⟩,
  tu0,
  ⟨.none,none,(.fields ⟨[zi 123,zi 4,.ref 220]⟩),⟨[]⟩⟩,
  co [.str "Shift" 474,.str "Shift" 475,cp 476,zi 121,zi 0,zi 0,zi 0,zi 0,.ref 211,.bool false,zi 181,.ref 212,.none,.none,.none,.none,zi 477,zi 121,cp 478],
  ⟨(.type "frame"),none,.plain,⟨[(some (.ref 213)),(some (.ref 3)),(some (.ref 210)),none,(some (.str "rota.book" 434)),none,(some (.ref 0))]⟩⟩,
  tu0,
  fl0,
  tu [.str "self" 487,.str "hours" 488,.str "needs" 489],
  tu0,
  fo' (fd (iF10 27 0) "__init__" "Shift.__init__" .none .none .none .none .none .none 0 0),
  co [.str "__init__" 484,.str "Shift.__init__" 485,cp 486,zi 123,zi 3,zi 0,zi 0,zi 3,.ref 215,.bool true,zi 181,.ref 216,.none,.ref 217,.ref 218,.ref 219,zi 490,zi 123,cp 491],
  fo (fd (iF10 27 0) "__init__" "Shift.__init__" .none .none .none (.str "rota.book" 434) (.ref 220) .none 3 0),
  tu [.str "hours" 493,.str "needs" 494],
  ⟨(.type "dict"),none,(.dict ⟨[en w "__module__" 479 (.str "rota.book" 434),en w "__firstlineno__" 483 (.int 121 482),en w "__init__" 492 (.ref 221),en w "__static_attributes__" 495 (.ref 222),en w "__dict__" 497 (.ref 225),en w "__weakref__" 499 (.ref 226),en w "__doc__" 500 .none]⟩ 4),⟨[]⟩⟩,
  ⟨(.type "type"),none,(.cls ⟨"Shift", [(.type "object")],[.ref 224,(.type "object")],223, "Shift", true,[],[],false,none,false⟩),⟨[none,none,(some (.str "Shift" 472)),(some (.str "Shift" 480)),(some (.builtin "object.__new__")),(some (.bool true))]⟩⟩,
  ⟨(.type "getset_descriptor"),none,(.fields ⟨[.str "__dict__" 496,.ref 224,(.builtin "function.__dict__"),(.builtin "function.__dict__#set")]⟩),⟨[]⟩⟩,
  ⟨(.type "getset_descriptor"),none,(.fields ⟨[.str "__weakref__" 498,.ref 224,(.builtin "ExceptionGroup.__weakref__"),.none]⟩),⟨[]⟩⟩,
  ⟨(.type "super"),none,(.fields ⟨[.ref 224,.ref 224,.ref 224]⟩),⟨[]⟩⟩,
  ⟨(.type "builtin_function_or_method"),none,(.fields ⟨[(.builtin "object.__init_subclass__"),.ref 224]⟩),⟨[]⟩⟩,
  tu0,
  fl0,
  tu [.str "skills" 506,.str "seen" 507,.str "skill" 508],
  tu0,
  fo' (fd (tF10 28) "checked_skills" "checked_skills" .none .none .none .none .none .none 0 0),
  co [.str "checked_skills" 503,.str "checked_skills" 504,cp 505,zi 126,zi 1,zi 0,zi 0,zi 3,.ref 229,.bool true,zi 181,.ref 230,.none,.ref 231,.ref 232,.ref 233,zi 509,zi 126,cp 510],
  fo (fd (tF10 28) "checked_skills" "checked_skills" .none .none .none (.str "rota.book" 434) (.ref 234) .none 3 0),
  tu0,
  fl0,
  tu [.str "needs" 515,.str "seen" 516,.str "found" 517,.str "skill" 518,.str "count" 519],
  tu0,
  fo' (fd (tF10 29) "checked_needs" "checked_needs" .none .none .none .none .none .none 0 0),
  co [.str "checked_needs" 512,.str "checked_needs" 513,cp 514,zi 135,zi 1,zi 0,zi 0,zi 3,.ref 236,.bool true,zi 181,.ref 237,.none,.ref 238,.ref 239,.ref 240,zi 520,zi 135,cp 521],
  fo (fd (tF10 29) "checked_needs" "checked_needs" .none .none .none (.str "rota.book" 434) (.ref 241) .none 3 0)]⟩ } }
noncomputable def thr10 (w:World):Thread:=thr PySem.Challenge.pw_uf030014_10 w 6000 30 ⟨135,0,147,16⟩ { scope:=Program.main PySem.Challenge.pw_uf030014_10 |>.scope,locals:=mainNs,globals:=mainNs,cells:=[],code:=.ref 13,frame:=some 14 }
set_option maxRecDepth 100000 in
set_option maxHeartbeats 8000000 in
theorem boot10:∀ w,((fencedOpening treeTable PySem.Challenge.pw_uf030014_10 w 6000).isSome && (s0 PySem.Challenge.pw_uf030014_10 w 6000).heap.isNs mainGlobals && (s0 PySem.Challenge.pw_uf030014_10 w 6000).gens.size == 0)=true:=by
 intro w
 kernel_rfl
set_option maxRecDepth 100000 in
set_option maxHeartbeats 8000000 in
theorem halfS10:∀ w,(topN treeTable PySem.Challenge.pw_uf030014_10 w (s0 PySem.Challenge.pw_uf030014_10 w 6000).heap.objs.size (ann0 PySem.Challenge.pw_uf030014_10 w 6000) 2467 (s0 PySem.Challenge.pw_uf030014_10 w 6000) (topStub PySem.Challenge.pw_uf030014_10)).map (fun x=>x.1)=some (lit10 w):=by
 intro w
 kernel_rfl
set_option maxRecDepth 100000 in
set_option maxHeartbeats 8000000 in
theorem halfT10:∀ w,(topN treeTable PySem.Challenge.pw_uf030014_10 w (s0 PySem.Challenge.pw_uf030014_10 w 6000).heap.objs.size (ann0 PySem.Challenge.pw_uf030014_10 w 6000) 2467 (s0 PySem.Challenge.pw_uf030014_10 w 6000) (topStub PySem.Challenge.pw_uf030014_10)).map (fun x=>x.2)=some (thr10 w):=by
 intro w
 kernel_rfl
set_option maxRecDepth 100000 in
set_option maxHeartbeats 8000000 in
theorem base10:∀ w,(ends PySem.Challenge.pw_uf030014_10 w 6000 3533 (lit10 w) (thr10 w)).map (fun s=>(openSeen q10 [] (importedModules (Program.main PySem.Challenge.pw_uf030014_10).body) (xtOf PySem.Challenge.rw_uf030014_10 q10) true s,()))=some (openGood q10 [],()):=by
 intro w
 kernel_rfl
set_option maxRecDepth 100000 in
set_option maxHeartbeats 8000000 in
theorem fit10:∀ w,(ends PySem.Challenge.pw_uf030014_10 w 6000 3533 (lit10 w) (thr10 w)).map (fun s=>fitB (fragAt 600 s.heap) tx10.T tx10.G tx10.src)=some true:=by
 intro w
 kernel_rfl
set_option maxRecDepth 100000 in
set_option maxHeartbeats 8000000 in
theorem body10:∀ w,(ends PySem.Challenge.pw_uf030014_10 w 6000 3533 (lit10 w) (thr10 w)).map (fun s=>(tx10.ask (fragAt 600 s.heap)).2)=some tx10.said.2:=by
 intro w
 kernel_rfl
open PySem PyProof.Rows
set_option autoImplicit false
set_option linter.unusedVariables false
theorem Zad {α:Type} {x:α} {P:Prop} (h:(none:Option α)=some x):P:=nomatch h
theorem Zco {P:Prop} (h:false=true):P:=nomatch h
theorem y2_2 {A0 A1:Sort _} {q:Prop} {p0 p1:A0→A1→Prop} {G:Prop} (h:q∧∃ a b,p0 a b∧p1 a b) (k:q→∀ a b,p0 a b→p1 a b→G):G:=by
 obtain ⟨h0,a,b,h1,h2⟩:=h; exact k h0 a b h1 h2
theorem w4 {p1 p2 p3 p4 G:Prop} (h:((p1∧p2)∧p3)∧p4) (k:p1→p2→p3→p4→G):G:=by
 obtain ⟨⟨⟨h1,h2⟩,h3⟩,h4⟩:=h; exact k h1 h2 h3 h4
theorem w5 {p1 p2 p3 p4 p5 G:Prop} (h:(((p1∧p2)∧p3)∧p4)∧p5) (k:p1→p2→p3→p4→p5→G):G:=by
 obtain ⟨⟨⟨⟨h1,h2⟩,h3⟩,h4⟩,h5⟩:=h; exact k h1 h2 h3 h4 h5
theorem w6 {p1 p2 p3 p4 p5 p6 G:Prop} (h:((((p1∧p2)∧p3)∧p4)∧p5)∧p6) (k:p1→p2→p3→p4→p5→p6→G):G:=by
 obtain ⟨⟨⟨⟨⟨h1,h2⟩,h3⟩,h4⟩,h5⟩,h6⟩:=h; exact k h1 h2 h3 h4 h5 h6
theorem w12 {p1 p2 p3 p4 p5 p6 p7 p8 p9 p10 p11 p12 G:Prop} (h:((((((((((p1∧p2)∧p3)∧p4)∧p5)∧p6)∧p7)∧p8)∧p9)∧p10)∧p11)∧p12) (k:p1→p2→p3→p4→p5→p6→p7→p8→p9→p10→p11→p12→G):G:=by
 obtain ⟨⟨⟨⟨⟨⟨⟨⟨⟨⟨⟨h1,h2⟩,h3⟩,h4⟩,h5⟩,h6⟩,h7⟩,h8⟩,h9⟩,h10⟩,h11⟩,h12⟩:=h; exact k h1 h2 h3 h4 h5 h6 h7 h8 h9 h10 h11 h12
theorem y1_2 {A0:Sort _} {q:Prop} {p0 p1:A0→Prop} {G:Prop} (h:q∧∃ a,p0 a∧p1 a) (k:q→∀ a,p0 a→p1 a→G):G:=by
 obtain ⟨h0,a,h1,h2⟩:=h; exact k h0 a h1 h2
theorem x0_3  {p0 p1 p2:Prop} {G:Prop} (h:p0∧p1∧p2) (k:p0→p1→p2→G):G:=by
 obtain ⟨h0,h1,h2⟩:=h; exact k h0 h1 h2
theorem x0_4  {p0 p1 p2 p3:Prop} {G:Prop} (h:p0∧p1∧p2∧p3) (k:p0→p1→p2→p3→G):G:=by
 obtain ⟨h0,h1,h2,h3⟩:=h; exact k h0 h1 h2 h3
theorem x0_6  {p0 p1 p2 p3 p4 p5:Prop} {G:Prop} (h:p0∧p1∧p2∧p3∧p4∧p5) (k:p0→p1→p2→p3→p4→p5→G):G:=by
 obtain ⟨h0,h1,h2,h3,h4,h5⟩:=h; exact k h0 h1 h2 h3 h4 h5
theorem x1_2 {A0:Sort _} {p0 p1:A0→Prop} {G:Prop} (h:∃ a0,p0 a0∧p1 a0) (k:∀ a0,p0 a0→p1 a0→G):G:=by
 obtain ⟨a0,h0,h1⟩:=h; exact k a0 h0 h1
theorem x1_3 {A0:Sort _} {p0 p1 p2:A0→Prop} {G:Prop} (h:∃ a0,p0 a0∧p1 a0∧p2 a0) (k:∀ a0,p0 a0→p1 a0→p2 a0→G):G:=by
 obtain ⟨a0,h0,h1,h2⟩:=h; exact k a0 h0 h1 h2
theorem x1_4 {A0:Sort _} {p0 p1 p2 p3:A0→Prop} {G:Prop} (h:∃ a0,p0 a0∧p1 a0∧p2 a0∧p3 a0) (k:∀ a0,p0 a0→p1 a0→p2 a0→p3 a0→G):G:=by
 obtain ⟨a0,h0,h1,h2,h3⟩:=h; exact k a0 h0 h1 h2 h3
theorem x1_5 {A0:Sort _} {p0 p1 p2 p3 p4:A0→Prop} {G:Prop} (h:∃ a0,p0 a0∧p1 a0∧p2 a0∧p3 a0∧p4 a0) (k:∀ a0,p0 a0→p1 a0→p2 a0→p3 a0→p4 a0→G):G:=by
 obtain ⟨a0,h0,h1,h2,h3,h4⟩:=h; exact k a0 h0 h1 h2 h3 h4
theorem x2_1 {A0:Sort _} {A1:Sort _} {p0:A0→A1→Prop} {G:Prop} (h:∃ a0 a1,p0 a0 a1) (k:∀ a0 a1,p0 a0 a1→G):G:=by
 obtain ⟨a0,a1,h0⟩:=h; exact k a0 a1 h0
theorem x2_2 {A0:Sort _} {A1:Sort _} {p0 p1:A0→A1→Prop} {G:Prop} (h:∃ a0 a1,p0 a0 a1∧p1 a0 a1) (k:∀ a0 a1,p0 a0 a1→p1 a0 a1→G):G:=by
 obtain ⟨a0,a1,h0,h1⟩:=h; exact k a0 a1 h0 h1
theorem x2_3 {A0:Sort _} {A1:Sort _} {p0 p1 p2:A0→A1→Prop} {G:Prop} (h:∃ a0 a1,p0 a0 a1∧p1 a0 a1∧p2 a0 a1) (k:∀ a0 a1,p0 a0 a1→p1 a0 a1→p2 a0 a1→G):G:=by
 obtain ⟨a0,a1,h0,h1,h2⟩:=h; exact k a0 a1 h0 h1 h2
theorem x2_4 {A0:Sort _} {A1:Sort _} {p0 p1 p2 p3:A0→A1→Prop} {G:Prop} (h:∃ a0 a1,p0 a0 a1∧p1 a0 a1∧p2 a0 a1∧p3 a0 a1) (k:∀ a0 a1,p0 a0 a1→p1 a0 a1→p2 a0 a1→p3 a0 a1→G):G:=by
 obtain ⟨a0,a1,h0,h1,h2,h3⟩:=h; exact k a0 a1 h0 h1 h2 h3
theorem x2_5 {A0:Sort _} {A1:Sort _} {p0 p1 p2 p3 p4:A0→A1→Prop} {G:Prop} (h:∃ a0 a1,p0 a0 a1∧p1 a0 a1∧p2 a0 a1∧p3 a0 a1∧p4 a0 a1) (k:∀ a0 a1,p0 a0 a1→p1 a0 a1→p2 a0 a1→p3 a0 a1→p4 a0 a1→G):G:=by
 obtain ⟨a0,a1,h0,h1,h2,h3,h4⟩:=h; exact k a0 a1 h0 h1 h2 h3 h4
theorem x2_6 {A0:Sort _} {A1:Sort _} {p0 p1 p2 p3 p4 p5:A0→A1→Prop} {G:Prop} (h:∃ a0 a1,p0 a0 a1∧p1 a0 a1∧p2 a0 a1∧p3 a0 a1∧p4 a0 a1∧p5 a0 a1) (k:∀ a0 a1,p0 a0 a1→p1 a0 a1→p2 a0 a1→p3 a0 a1→p4 a0 a1→p5 a0 a1→G):G:=by
 obtain ⟨a0,a1,h0,h1,h2,h3,h4,h5⟩:=h; exact k a0 a1 h0 h1 h2 h3 h4 h5
theorem x2_7 {A0:Sort _} {A1:Sort _} {p0 p1 p2 p3 p4 p5 p6:A0→A1→Prop} {G:Prop} (h:∃ a0 a1,p0 a0 a1∧p1 a0 a1∧p2 a0 a1∧p3 a0 a1∧p4 a0 a1∧p5 a0 a1∧p6 a0 a1) (k:∀ a0 a1,p0 a0 a1→p1 a0 a1→p2 a0 a1→p3 a0 a1→p4 a0 a1→p5 a0 a1→p6 a0 a1→G):G:=by
 obtain ⟨a0,a1,h0,h1,h2,h3,h4,h5,h6⟩:=h; exact k a0 a1 h0 h1 h2 h3 h4 h5 h6
theorem x3_2 {A0:Sort _} {A1:Sort _} {A2:Sort _} {p0 p1:A0→A1→A2→Prop} {G:Prop} (h:∃ a0 a1 a2,p0 a0 a1 a2∧p1 a0 a1 a2) (k:∀ a0 a1 a2,p0 a0 a1 a2→p1 a0 a1 a2→G):G:=by
 obtain ⟨a0,a1,a2,h0,h1⟩:=h; exact k a0 a1 a2 h0 h1
theorem x3_3 {A0:Sort _} {A1:Sort _} {A2:Sort _} {p0 p1 p2:A0→A1→A2→Prop} {G:Prop} (h:∃ a0 a1 a2,p0 a0 a1 a2∧p1 a0 a1 a2∧p2 a0 a1 a2) (k:∀ a0 a1 a2,p0 a0 a1 a2→p1 a0 a1 a2→p2 a0 a1 a2→G):G:=by
 obtain ⟨a0,a1,a2,h0,h1,h2⟩:=h; exact k a0 a1 a2 h0 h1 h2
theorem x3_4 {A0:Sort _} {A1:Sort _} {A2:Sort _} {p0 p1 p2 p3:A0→A1→A2→Prop} {G:Prop} (h:∃ a0 a1 a2,p0 a0 a1 a2∧p1 a0 a1 a2∧p2 a0 a1 a2∧p3 a0 a1 a2) (k:∀ a0 a1 a2,p0 a0 a1 a2→p1 a0 a1 a2→p2 a0 a1 a2→p3 a0 a1 a2→G):G:=by
 obtain ⟨a0,a1,a2,h0,h1,h2,h3⟩:=h; exact k a0 a1 a2 h0 h1 h2 h3
theorem x4_1 {A0:Sort _} {A1:Sort _} {A2:Sort _} {A3:Sort _} {p0:A0→A1→A2→A3→Prop} {G:Prop} (h:∃ a0 a1 a2 a3,p0 a0 a1 a2 a3) (k:∀ a0 a1 a2 a3,p0 a0 a1 a2 a3→G):G:=by
 obtain ⟨a0,a1,a2,a3,h0⟩:=h; exact k a0 a1 a2 a3 h0
theorem x4_2 {A0:Sort _} {A1:Sort _} {A2:Sort _} {A3:Sort _} {p0 p1:A0→A1→A2→A3→Prop} {G:Prop} (h:∃ a0 a1 a2 a3,p0 a0 a1 a2 a3∧p1 a0 a1 a2 a3) (k:∀ a0 a1 a2 a3,p0 a0 a1 a2 a3→p1 a0 a1 a2 a3→G):G:=by
 obtain ⟨a0,a1,a2,a3,h0,h1⟩:=h; exact k a0 a1 a2 a3 h0 h1
theorem x4_3 {A0:Sort _} {A1:Sort _} {A2:Sort _} {A3:Sort _} {p0 p1 p2:A0→A1→A2→A3→Prop} {G:Prop} (h:∃ a0 a1 a2 a3,p0 a0 a1 a2 a3∧p1 a0 a1 a2 a3∧p2 a0 a1 a2 a3) (k:∀ a0 a1 a2 a3,p0 a0 a1 a2 a3→p1 a0 a1 a2 a3→p2 a0 a1 a2 a3→G):G:=by
 obtain ⟨a0,a1,a2,a3,h0,h1,h2⟩:=h; exact k a0 a1 a2 a3 h0 h1 h2
theorem x4_4 {A0:Sort _} {A1:Sort _} {A2:Sort _} {A3:Sort _} {p0 p1 p2 p3:A0→A1→A2→A3→Prop} {G:Prop} (h:∃ a0 a1 a2 a3,p0 a0 a1 a2 a3∧p1 a0 a1 a2 a3∧p2 a0 a1 a2 a3∧p3 a0 a1 a2 a3) (k:∀ a0 a1 a2 a3,p0 a0 a1 a2 a3→p1 a0 a1 a2 a3→p2 a0 a1 a2 a3→p3 a0 a1 a2 a3→G):G:=by
 obtain ⟨a0,a1,a2,a3,h0,h1,h2,h3⟩:=h; exact k a0 a1 a2 a3 h0 h1 h2 h3
theorem x4_5 {A0:Sort _} {A1:Sort _} {A2:Sort _} {A3:Sort _} {p0 p1 p2 p3 p4:A0→A1→A2→A3→Prop} {G:Prop} (h:∃ a0 a1 a2 a3,p0 a0 a1 a2 a3∧p1 a0 a1 a2 a3∧p2 a0 a1 a2 a3∧p3 a0 a1 a2 a3∧p4 a0 a1 a2 a3) (k:∀ a0 a1 a2 a3,p0 a0 a1 a2 a3→p1 a0 a1 a2 a3→p2 a0 a1 a2 a3→p3 a0 a1 a2 a3→p4 a0 a1 a2 a3→G):G:=by
 obtain ⟨a0,a1,a2,a3,h0,h1,h2,h3,h4⟩:=h; exact k a0 a1 a2 a3 h0 h1 h2 h3 h4
theorem x4_7 {A0:Sort _} {A1:Sort _} {A2:Sort _} {A3:Sort _} {p0 p1 p2 p3 p4 p5 p6:A0→A1→A2→A3→Prop} {G:Prop} (h:∃ a0 a1 a2 a3,p0 a0 a1 a2 a3∧p1 a0 a1 a2 a3∧p2 a0 a1 a2 a3∧p3 a0 a1 a2 a3∧p4 a0 a1 a2 a3∧p5 a0 a1 a2 a3∧p6 a0 a1 a2 a3) (k:∀ a0 a1 a2 a3,p0 a0 a1 a2 a3→p1 a0 a1 a2 a3→p2 a0 a1 a2 a3→p3 a0 a1 a2 a3→p4 a0 a1 a2 a3→p5 a0 a1 a2 a3→p6 a0 a1 a2 a3→G):G:=by
 obtain ⟨a0,a1,a2,a3,h0,h1,h2,h3,h4,h5,h6⟩:=h; exact k a0 a1 a2 a3 h0 h1 h2 h3 h4 h5 h6
theorem x5_2 {A0:Sort _} {A1:Sort _} {A2:Sort _} {A3:Sort _} {A4:Sort _} {p0 p1:A0→A1→A2→A3→A4→Prop} {G:Prop} (h:∃ a0 a1 a2 a3 a4,p0 a0 a1 a2 a3 a4∧p1 a0 a1 a2 a3 a4) (k:∀ a0 a1 a2 a3 a4,p0 a0 a1 a2 a3 a4→p1 a0 a1 a2 a3 a4→G):G:=by
 obtain ⟨a0,a1,a2,a3,a4,h0,h1⟩:=h; exact k a0 a1 a2 a3 a4 h0 h1
theorem x5_6 {A0:Sort _} {A1:Sort _} {A2:Sort _} {A3:Sort _} {A4:Sort _} {p0 p1 p2 p3 p4 p5:A0→A1→A2→A3→A4→Prop} {G:Prop} (h:∃ a0 a1 a2 a3 a4,p0 a0 a1 a2 a3 a4∧p1 a0 a1 a2 a3 a4∧p2 a0 a1 a2 a3 a4∧p3 a0 a1 a2 a3 a4∧p4 a0 a1 a2 a3 a4∧p5 a0 a1 a2 a3 a4) (k:∀ a0 a1 a2 a3 a4,p0 a0 a1 a2 a3 a4→p1 a0 a1 a2 a3 a4→p2 a0 a1 a2 a3 a4→p3 a0 a1 a2 a3 a4→p4 a0 a1 a2 a3 a4→p5 a0 a1 a2 a3 a4→G):G:=by
 obtain ⟨a0,a1,a2,a3,a4,h0,h1,h2,h3,h4,h5⟩:=h; exact k a0 a1 a2 a3 a4 h0 h1 h2 h3 h4 h5
noncomputable abbrev Mp:=List (Addr×Addr)
def foot (M:Mp) (a:Addr):Prop:=∃ p∈M,a=p.1∨a=p.2
structure Wd where
 h:Heap
 M:Mp
 F:Addr→Prop
 X:Nat→Option Addr
def IsExc (h:Heap) (a D:Addr):Prop:=∃ o vs,h.get? a=some o∧o.cls=.ref D∧o.dict=none∧o.data=.fields vs
inductive VRel (w:Wd):Value→AV→Prop
 | none:VRel w .none .none
 | bool (b:Bool):VRel w (.bool b) (.bool b)
 | int (i:Int) (t:Tok):VRel w (.int i t) (.int i)
 | str (x:Str) (t:Tok) (ok:PyData.strOk x=true):VRel w (.str x t) (.str x)
 | tup {a:Addr} {vs:Array Value} {n:Nat} {xs:List AV}:IsT w.h a vs n→¬ w.F a→vs.toList.length=xs.length→(∀ (i:Nat) v x,vs.toList[i]?=some v→xs[i]?=some x→VRel w v x)→VRel w (.ref a) (.tup xs)
 | lst {a:Addr} {vs:Array Value} {n:Nat} {xs:List AV}:IsL w.h a vs n→¬ w.F a→vs.toList.length=xs.length→(∀ (i:Nat) v x,vs.toList[i]?=some v→xs[i]?=some x→VRel w v x)→VRel w (.ref a) (.lst xs)
 | ref {n:Nat} {p:Addr×Addr}:w.M[n]?=some p→VRel w (.ref p.1) (.ref n)
 | rng {r:Addr} {a b:Int} {t u v:Tok}:IsRange w.h r a b 1 t u v→¬ w.F r→VRel w (.ref r) (.rng a b)
 | exc {a D:Addr} {c:Nat}:IsExc w.h a D→w.X c=some D→¬ w.F a→VRel w (.ref a) (.exc c)
def VRels (w:Wd) (vs:List Value) (xs:List AV):Prop:=vs.length=xs.length∧∀ (i:Nat) v x,vs[i]?=some v→xs[i]?=some x→VRel w v x
noncomputable def VInv (w:Wd) (v:Value):AV→Prop
 | .none=>v=.none
 | .bool b=>v=.bool b
 | .int i=>∃ t,v=.int i t
 | .str x=>∃ t,v=.str x t∧PyData.strOk x=true
 | .tup xs=>∃ a vs n,v=.ref a∧IsT w.h a vs n∧¬ w.F a∧VRels w vs.toList xs
 | .lst xs=>∃ a vs n,v=.ref a∧IsL w.h a vs n∧¬ w.F a∧VRels w vs.toList xs
 | .ref n=>∃ p:Addr×Addr,v=.ref p.1∧w.M[n]?=some p
 | .rng a b=>∃ r t u x,v=.ref r∧IsRange w.h r a b 1 t u x∧¬ w.F r
 | .exc c=>∃ a D,v=.ref a∧IsExc w.h a D∧w.X c=some D∧¬ w.F a
theorem VRel.inv {w:Wd} {v:Value} {a:AV} (r:VRel w v a):VInv w v a:=match r with
 | .none=>rfl
 | .bool _=>rfl
 | .int _ t=>⟨t,rfl⟩
 | .str _ t ok=>⟨t,rfl,ok⟩
 | .tup ho n e r=>⟨_,_,_,rfl,ho,n,e,r⟩
 | .lst ho n e r=>⟨_,_,_,rfl,ho,n,e,r⟩
 | .ref e=>⟨_,rfl,e⟩
 | .rng ho n=>⟨_,_,_,_,rfl,ho,n⟩
 | .exc e x n=>⟨_,_,rfl,e,x,n⟩
def Held (o:Obj):Prop:=((∃ xs n,o.data=.seq xs n)∨∃ vs,o.data=.fields vs)∧∀ T,o.cls=.type T→T = "tuple" ∨ T = "list" ∨ T = "range"
theorem Held.nd {o:Obj} (h:Held o):∀ es ep,o.data≠.dict es ep:=fun _ _ q=>by
 rcases h.1 with ⟨_,_,e⟩ | ⟨_,e⟩<;>rw [q] at e<;>cases e
structure Kp (w w':Wd):Prop where
 keep:∀ b o,w.h.get? b=some o→¬ w.F b→Held o→w'.h.get? b=some o∧¬ w'.F b
 pre:∃ l,w'.M=w.M++l
 X:w'.X=w.X
theorem Kp.refl (w:Wd):Kp w w:=⟨fun _ _ e n _=>⟨e,n⟩,⟨[],by simp⟩,rfl⟩
theorem Kp.trans {w w' w'':Wd} (x:Kp w w') (y:Kp w' w''):Kp w w'' :=
 ⟨fun b o e n h=>let q:=x.keep b o e n h; y.keep b o q.1 q.2 h,by
  obtain ⟨l,e⟩:=x.pre
  obtain ⟨l',e'⟩:=y.pre
  exact ⟨l++l',by rw [e',e,qAa]⟩,y.X.trans x.X⟩
theorem Kp.at {w w':Wd} (k:Kp w w') {n:Nat} {p:Addr×Addr} (h:w.M[n]?=some p):w'.M[n]?=some p:=by
 obtain ⟨l,e⟩:=k.pre
 rw [e,qGl (gsi h).1]; exact h
theorem Kp.heldT {w w':Wd} (k:Kp w w') {a:Addr} {T:String} {d:Data} (hT:T = "tuple" ∨ T = "list" ∨ T = "range") (hd:(∃ xs n,d=.seq xs n)∨∃ vs,d=.fields vs) (e:w.h.get? a=some { cls:=.type T,dict:=none,data:=d,slots:=#[] }) (n:¬ w.F a):w'.h.get? a=some { cls:=.type T,dict:=none,data:=d,slots:=#[] }∧¬ w'.F a :=
 k.keep _ _ e n ⟨hd,fun _ q=>by injection q with q; exact q▸hT⟩
theorem Kp.isExc {w w':Wd} (k:Kp w w') {a D:Addr} (e:IsExc w.h a D) (n:¬ w.F a):IsExc w'.h a D∧¬ w'.F a:=by
 obtain ⟨o,vs,ho,hc,hn,hd⟩:=e
 have q:=k.keep _ _ ho n ⟨.inr ⟨vs,hd⟩,fun _ q=>by rw [hc] at q; cases q⟩
 exact ⟨⟨o,vs,q.1,hc,hn,hd⟩,q.2⟩
theorem VRel.keep {w w':Wd} (k:Kp w w') {v:Value} {a:AV} (r:VRel w v a):VRel w' v a:=by
 induction r with
 | none=>exact .none
 | bool b=>exact .bool b
 | int i t=>exact .int i t
 | str x t ok=>exact .str x t ok
 | tup ho n e _ ih=>have q:=k.heldT (.inl rfl) (.inl ⟨_,_,rfl⟩) ho n; exact .tup q.1 q.2 e ih
 | lst ho n e _ ih=>have q:=k.heldT (.inr (.inl rfl)) (.inl ⟨_,_,rfl⟩) ho n; exact .lst q.1 q.2 e ih
 | ref e=>exact .ref (k.at e)
 | rng ho n=>have q:=k.heldT (.inr (.inr rfl)) (.inr ⟨_,rfl⟩) ho n; exact .rng q.1 q.2
 | exc e x n=>have q:=k.isExc e n; exact .exc q.1 (k.X▸x) q.2
theorem VRels.keep {w w':Wd} (k:Kp w w') {vs:List Value} {as:List AV} (r:VRels w vs as):VRels w' vs as:=⟨r.1,fun i v x h1 h2=>(r.2 i v x h1 h2).keep k⟩
section
variable {w:Wd} {vs:List Value} {as:List AV}
theorem VRels.nil:VRels w [] []:=⟨rfl,fun _ _ _ h=>nomatch h⟩
theorem VRels.cons {v:Value} {a:AV} (x:VRel w v a) (r:VRels w vs as):VRels w (v::vs) (a::as) :=
 ⟨congrArg (·+1) r.1,fun i u y h1 h2=>match i,h1,h2 with
  | 0,h1,h2=>by cases h1; cases h2; exact x
  | i+1,h1,h2=>r.2 i u y h1 h2⟩
theorem VRels.un {u:Value} {a:AV} (r:VRels w (u::vs) (a::as)):VRel w u a∧VRels w vs as:=⟨r.2 0 _ _ rfl rfl,Nat.succ.inj r.1,fun i v x h1 h2=>r.2 (i+1) v x h1 h2⟩
theorem VRels.size {vs:Array Value} (r:VRels w vs.toList as):vs.size=as.length:=r.1
theorem VRels.get (r:VRels w vs as) (i:Nat) {a:AV} (e:as[i]?=some a):∃ v,vs[i]?=some v∧VRel w v a:=by
 have h:=(gsi e).1
 rw [← r.1] at h
 exact ⟨_,qGg h,r.2 i _ _ (qGg h) e⟩
theorem VRels.append {us:List Value} {bs:List AV} (r:VRels w vs as) (s:VRels w us bs):VRels w (vs++us) (as++bs):=by
 refine ⟨by rw [qLa,qLa,r.1,s.1],fun i v x h1 h2=>?_⟩
 rw [List.getElem?_append] at h1 h2
 rw [← r.1] at h2
 split at h1
 ·rename_i q; rw [if_pos q] at h2; exact r.2 i v x h1 h2
 ·rename_i q; rw [if_neg q] at h2; exact s.2 _ v x h1 h2
theorem VRels.snoc {v:Value} {a:AV} (r:VRels w vs as) (x:VRel w v a):VRels w (vs++[v]) (as++[a]):=r.append (.cons x .nil)
theorem VRels.pick (r:VRels w vs as):∀ is:List Nat,VRels w (is.filterMap fun i=>vs[i]?) (is.filterMap fun i=>as[i]?)
 | []=>.nil
 | i::is=>by
  simp only [List.filterMap_cons]
  cases q:as[i]? with
  | none =>
   have:vs[i]?=none:=by
    rw [List.getElem?_eq_none_iff] at q ⊢
    rw [r.1]; exact q
   rw [this]
   exact r.pick is
  | some a =>
   obtain ⟨v,hv,rv⟩:=r.get i q
   rw [hv]
   exact .cons rv (r.pick is)
theorem VRels.set {v:Value} {a:AV} (x:VRel w v a) (r:VRels w vs as) (n:Nat):VRels w (vs.set n v) (as.set n a):=by
 refine ⟨by rw [List.length_set,List.length_set,r.1],fun i u y h1 h2=>?_⟩
 rw [List.getElem?_set] at h1 h2
 split at h1
 ·rename_i q
  rw [if_pos q] at h2
  split at h1<;>cases h1
  split at h2<;>cases h2
  exact x
 ·rename_i q; rw [if_neg q] at h2; exact r.2 i u y h1 h2
end
theorem Zb9 {x:Str}:PyData.strOk x=true↔∀ c∈x.cps.toList,c<0x110000:=by
 unfold PyData.strOk
 rw [← Array.all_toList,List.all_eq_true]
 exact ⟨fun h c hc=>of_decide_eq_true (h c hc),fun h c hc=>decide_eq_true (h c hc)⟩
theorem Zgu {x y:Str} (hx:PyData.strOk x=true) (hy:PyData.strOk y=true):PyData.strOk (x++y)=true:=by
 rw [Zb9] at *
 intro c hc
 rw [Str.cps_append] at hc
 simp only [Array.toList_append,List.mem_append] at hc
 exact hc.elim (hx c) (hy c)
theorem Zeu {x y:Str} (hx:PyData.strOk x=true) (h:∀ c∈y.cps.toList,c∈x.cps.toList):PyData.strOk y=true:=by
 rw [Zb9] at *
 exact fun c hc=>hx c (h c hc)
theorem le_t {a b c:Nat} (h:a≤b) (g:Nat.ble b c=true):a≤c:=Nat.le_trans h (Nat.le_of_ble_eq_true g)
theorem lt_t {a b c:Nat} (h:a≤b) (g:Nat.ble (b+1) c=true):a<c:=Nat.lt_of_le_of_lt h (Nat.le_of_ble_eq_true g)
theorem n_lt {a b:Nat} {c:Int} (h:a≤b) (g:decide ((b:Int)<c)=true):(a:Int)<c:=Int.lt_of_le_of_lt (Int.ofNat_le.mpr h) (of_decide_eq_true g)
theorem i_le {a b c:Int} (h:a≤b) (g:decide (b≤c)=true):a≤c:=Int.le_trans h (of_decide_eq_true g)
theorem i_ll {a b c:Int} (h:a<b) (g:decide (b≤c)=true):a<c:=Int.lt_of_lt_of_le h (of_decide_eq_true g)
theorem sub0 {i n:Nat} (h:¬ i<n) (e:i-n=0):i=n:=Nat.le_antisymm (Nat.sub_eq_zero_iff_le.mp e) (Nat.not_lt.mp h)
theorem ZoY {a b c:Nat} (h:b≤c):min a b≤c:=Nat.le_trans (Nat.min_le_right _ _) h
theorem md {a n:Int} (h:decide (0<n)=true):0≤a%n∧a%n<n:=⟨Int.emod_nonneg _ (Int.ne_of_gt (of_decide_eq_true h)),Int.emod_lt_of_pos _ (of_decide_eq_true h)⟩
theorem mdn {a n:Int} (h:decide (0<n)=true):a%n=((a%n).toNat:Int):=(Int.toNat_of_nonneg (md h).1).symm
theorem m2 {a:Int}:a%2=0∨a%2=1:=Int.emod_two_eq a
theorem m3 {a:Int}:a%3=0∨a%3=1∨a%3=2:=by lia
theorem tnl {i:Int} {n:Nat} (h0:0≤i) (h:i<n):i.toNat<n:=(Int.toNat_lt h0).mpr h
theorem ZoP {b y:Int} (h:0≤b∧b≤2000) (g:0≤y∧y<100):0≤b∧b<b+1+y∧b+1+y≤1000000:=⟨h.1,Int.lt_of_lt_of_le (Int.lt_add_one_of_le (Int.le_refl b)) (Int.le_add_of_nonneg_right g.1),Int.le_trans (Int.add_le_add (Int.add_le_add_right h.2 1) (Int.le_of_lt g.2)) (by decide)⟩
theorem Zly {n:Nat}:0<(n:Int)+1:=Int.lt_add_one_of_le (Int.natCast_nonneg n)
theorem tinj {i j:Int} (hi:0≤i) (hj:0≤j) (e:i.toNat=j.toNat):i=j:=by rw [← Int.toNat_of_nonneg hi,← Int.toNat_of_nonneg hj,e]
open PySem PySem.W PyProof.Rows
noncomputable abbrev DE:=RE→AH→Out AV
noncomputable abbrev FT:=Nat→List AV→AH→Out AV
section
variable {α:Type}
noncomputable def asInt (a:AV) (k:Int→Out α):Out α:=match a with
 | .int i=>k i
 | _=>.bad
noncomputable def asBool (a:AV) (k:Bool→Out α):Out α:=match a with
 | .bool b=>k b
 | _=>.bad
noncomputable def asStr (a:AV) (k:Str→Out α):Out α:=match a with
 | .str x=>k x
 | _=>.bad
noncomputable def orBad {β:Type} (o:Option β) (k:β→Out α):Out α:=match o with
 | some x=>k x
 | none=>.bad
end
noncomputable def lsOf (H:AH):AV→Option (List AV)
 | .lst xs=>some xs
 | .ref n=>match H[n]? with
  | some (.lst xs)=>some xs
  | _=>none
 | _=>none
noncomputable def dcOf (H:AH):AV→Option (Nat×List (Key×AV))
 | .ref n=>match H[n]? with
  | some (.dict es)=>some (n,es)
  | some (.ldict es)=>some (n,es)
  | _=>none
 | _=>none
noncomputable def inOf (H:AH):AV→Option (Nat×Nat×List (Option AV))
 | .ref n=>match H[n]? with
  | some (.inst c fs)=>some (n,c,fs)
  | _=>none
 | _=>none
noncomputable def newL (mt:Bool) (xs:List AV) (H:AH):Out AV:=if mt then .ok (.ref H.length) (H++[.lst xs]) else .ok (.lst xs) H
noncomputable def keyOf:AV→Option Key
 | .str x=>some (.str x)
 | .int i=>some (.int i)
 | _=>none
noncomputable def Key.av:Key→AV
 | .str x=>.str x
 | .int i=>.int i
noncomputable def addA (mt:Bool) (a b:AV) (H:AH):Out AV:=match a with
 | .int i=>asInt b fun j=>.ok (.int (i+j)) H
 | .str x=>asStr b fun y=>if x.length+y.length≤sizeLine then .ok (.str (x++y)) H else .bad
 | a=>orBad (lsOf H a) fun xs=>orBad (lsOf H b) fun ys=>if xs.length+ys.length≤sizeLine then newL mt (xs++ys) H else .bad
noncomputable def mulA (a b:AV) (H:AH):Out AV:=asInt b fun j=>match a with
 | .int i=>if (-(2^64)<i∧i<2^64)∨(-(2^64)<j∧j<2^64) then .ok (.int (i*j)) H else .bad
 | .lst xs=>if -1000<j∧j<1000∧xs.length<1000 then .ok (.lst ((List.replicate j.toNat xs).flatten)) H else .bad
 | _=>.bad
noncomputable def binA (mt:Bool) (op:Operator) (a b:AV) (H:AH):Out AV:=match op with
 | .Add=>addA mt a b H
 | .Mult=>mulA a b H
 | .Sub=>asInt a fun i=>asInt b fun j=>.ok (.int (i-j)) H
 | .FloorDiv=>asInt a fun i=>asInt b fun j=>if 0<j∧j<1073741824 then .ok (.int (i / j)) H else .bad
 | .Mod=>asInt a fun i=>asInt b fun j=>if 0<j∧j<1073741824 then .ok (.int (i%j)) H else .bad
 | _=>.bad
noncomputable def denL (f:AV→Option PyData):List AV→Option (List PyData)
 | []=>some []
 | a::r=>(f a).bind fun d=>(denL f r).map (d::·)
noncomputable def den:Nat→AH→AV→Option PyData
 | 0,_,_=>none
 | n+1,H,a=>match a with
  | .none=>some .none
  | .bool b=>some (.bool b)
  | .int i=>some (.int i)
  | .str x=>some (.str x)
  | .tup xs=>(denL (den n H) xs).map .tuple
  | .lst xs=>(denL (den n H) xs).map .list
  | .ref r=>match H[r]? with
   | some (.lst xs)=>(denL (den n H) xs).map .list
   | _=>none
  | _=>none
noncomputable abbrev deep:Nat:=20
noncomputable def ltA:AV→AV→Option Bool
 | .int i,b=>match b with
  | .int j=>some (decide (i<j))
  | _=>none
 | .str x,b=>match b with
  | .str y=>some (decide (x.cps.toList<y.cps.toList))
  | _=>none
 | _,_=>none
noncomputable def leA:AV→AV→Option Bool
 | .int i,b=>match b with
  | .int j=>some (decide (i≤j))
  | _=>none
 | .str x,b=>match b with
  | .str y=>some (!decide (y.cps.toList<x.cps.toList))
  | _=>none
 | _,_=>none
noncomputable def eqA (H:AH) (a b:AV):Option Bool:=(den deep H a).bind fun x=>(den deep H b).map fun y=>PyData.eqv x y
noncomputable def isA (a:AV):AV→Option Bool
 | .none=>match a with
  | .none=>some true
  | .tup _=>some false
  | .lst _=>some false
  | _=>none
 | .bool y=>match a with
  | .bool x=>some (x == y)
  | .ref _=>some false
  | _=>none
 | _=>none
noncomputable def inA (H:AH) (a b:AV):Option Bool:=match dcOf H b with
 | some (_,es)=>(keyOf a).map fun k=>es.any fun e=>decide (e.1=k)
 | none=>match lsOf H b with
  | some xs=>(den deep H a).bind fun d=>(denL (den deep H) xs).map fun ds=>ds.any fun y=>PyData.eqv y d
  | none=>none
noncomputable def cmpA (H:AH) (op:CmpOp) (a b:AV):Option Bool:=match op with
 | .Lt=>ltA a b
 | .LtE=>leA a b
 | .Gt=>ltA b a
 | .GtE=>leA b a
 | .Eq=>eqA H a b
 | .NotEq=>(eqA H a b).map (!·)
 | .Is=>isA a b
 | .IsNot=>(isA a b).map (!·)
 | .In=>inA H a b
 | .NotIn=>(inA H a b).map (!·)
noncomputable def idxA (k:Int) (n:Nat):Option Nat:=if 0≤k then (if k<n then some k.toNat else none) else if 0≤k+n then some (k+n).toNat else none
noncomputable def small (k:Int):Bool:=decide (-(2^62:Int)<k) && decide (k<2^62)
noncomputable def atA (k:Int) (xs:List AV):Option AV:=if small k then (idxA k xs.length).bind fun n=>xs[n]? else none
noncomputable def subA (a i:AV) (H:AH):Out AV:=match dcOf H a with
 | some (_,es)=>orBad (keyOf i) fun k=>orBad (es.lookup k) fun v=>.ok v H
 | none=>asInt i fun k=>match a with
  | .tup xs=>orBad (atA k xs) fun v=>.ok v H
  | .str x=>if small k then orBad ((idxA k x.length).bind fun n=>x.cps[n]?) fun c=>.ok (.str ⟨#[c]⟩) H else .bad
  | a=>orBad (lsOf H a) fun xs=>orBad (atA k xs) fun v=>.ok v H
noncomputable def optI:AV→Option (Option Int)
 | .none=>some none
 | .int k=>if small k then some (some k) else none
 | _=>none
noncomputable def slcA (mt:Bool) (a lo hi st:AV) (H:AH):Out AV:=orBad (optI lo) fun l=>orBad (optI hi) fun u=>if st.isNone then (match a with
 | .str x=>if x.length≤sizeLine then .ok (.str ⟨(cut x.cps.toList l u).toArray⟩) H else .bad
 | a=>orBad (lsOf H a) fun xs=>if xs.length≤sizeLine then newL mt (cut xs l u) H else .bad) else .bad
noncomputable def signs (x:Str):List AV:=x.cps.toList.map fun c=>.str ⟨#[c]⟩
noncomputable def span (a b:Int):List AV:=(List.range (b-a).toNat).map fun (k:Nat)=>.int (a+k)
set_option genCtorIdx false in
inductive Src where
 | seq (xs:List AV)
 | lref (n:Nat)
noncomputable def srcOf (H:AH):AV→Option (Src×Nat×Option Nat)
 | .lst xs=>some (.seq xs,xs.length,none)
 | .str x=>some (.seq (signs x),x.length,none)
 | .rng a b=>if small a && small b then some (.seq (span a b),(b-a).toNat,none) else none
 | .ref n=>match H[n]? with
  | some (.lst xs)=>some (.lref n,xs.length,none)
  | some (.dict es)=>some (.seq (es.map (·.1.av)),es.length,some n)
  | _=>none
 | _=>none
noncomputable def itemAt (H:AH):Src→Nat→Option (Option AV)
 | .seq xs,k=>some xs[k]?
 | .lref n,k=>match H[n]? with
  | some (.lst xs)=>some xs[k]?
  | _=>none
noncomputable def lockH (l:Option Nat) (H:AH):AH:=match l with
 | none=>H
 | some n=>match H[n]? with
  | some (.dict es)=>H.set n (.ldict es)
  | _=>H
noncomputable def cstE (a:AV):DE:=fun _ H=>.ok a H
noncomputable def badE:DE:=fun _ _=>.bad
noncomputable def varE (i:Nat):DE:=fun ρ H=>match ρ[i]? with
 | some (some a)=>.ok a H
 | _=>.bad
noncomputable def binE (mt:Bool) (op:Operator) (l r:DE):DE:=fun ρ H=>(l ρ H).bind fun a H₁=>(r ρ H₁).bind fun b H₂=>binA mt op a b H₂
noncomputable def negE (e:DE):DE:=fun ρ H=>(e ρ H).bind fun a H₁=>asInt a fun i=>.ok (.int (-i)) H₁
noncomputable def ntE (e:DE):DE:=fun ρ H=>(e ρ H).bind fun a H₁=>asBool a fun b=>.ok (.bool (!b)) H₁
noncomputable def bopE (k:Bool):List DE→DE
 | []=>badE
 | [e]=>e
 | e::r=>fun ρ H=>(e ρ H).bind fun a H₁=>asBool a fun b=>if b=k then bopE k r ρ H₁ else .ok (.bool b) H₁
noncomputable def chainE (a:AV):List CmpOp→List DE→DE
 | [op],[e]=>fun ρ H=>(e ρ H).bind fun b H₁=>orBad (cmpA H₁ op a b) fun c=>.ok (.bool c) H₁
 | op::ops,e::r=>fun ρ H=>(e ρ H).bind fun b H₁=>orBad (cmpA H₁ op a b) fun c=>if c then chainE b ops r ρ H₁ else .ok (.bool false) H₁
 | _,_=>badE
noncomputable def cmpE (l:DE) (ops:List CmpOp) (rs:List DE):DE:=fun ρ H=>(l ρ H).bind fun a H₁=>chainE a ops rs ρ H₁
noncomputable def evL:List DE→RE→AH→Out (List AV)
 | [],_,H=>.ok [] H
 | e::r,ρ,H=>(e ρ H).bind fun a H₁=>(evL r ρ H₁).bind fun as H₂=>.ok (a::as) H₂
noncomputable def subE (e i:DE):DE:=fun ρ H=>(e ρ H).bind fun a H₁=>(i ρ H₁).bind fun b H₂=>subA a b H₂
noncomputable def slcE (mt:Bool) (e lo hi st:DE):DE:=fun ρ H=>(e ρ H).bind fun a H₁=>(lo ρ H₁).bind fun l H₂=>(hi ρ H₂).bind fun u H₃=>(st ρ H₃).bind fun t H₄=>slcA mt a l u t H₄
noncomputable def lstE (mt:Bool) (es:List DE):DE:=fun ρ H=>(evL es ρ H).bind fun as H₁=>if as.length≤sizeLine then newL mt as H₁ else .bad
noncomputable def tupE (es:List DE):DE:=fun ρ H=>(evL es ρ H).bind fun as H₁=>if as.length≤sizeLine then .ok (.tup as) H₁ else .bad
noncomputable def callE (Φ:FT) (f:Nat) (es:List DE):DE:=fun ρ H=>(evL es ρ H).bind fun as H₁=>Φ f as H₁
noncomputable def Out.calm {α:Type}:Out α→Out α
 | .exc _ _=>.bad
 | o=>o
noncomputable def compL (T E:AV→AH→Out AV) (src:Src):Nat→Nat→List AV→AH→Out (List AV)
 | n,k,acc,H=>match itemAt H src k with
  | none=>.bad
  | some none=>.ok acc H
  | some (some v)=>match n with
   | 0=>.bad
   | n+1=>(T v H).bind fun c H₁=>asBool c fun c=>if c then (E v H₁).bind fun a H₂=>compL T E src n (k+1) (acc++[a]) H₂ else compL T E src n (k+1) acc H₁
noncomputable def compE (hot mt:Bool) (elt it cond:DE):DE:=fun ρ H=>(it ρ H).bind fun a H₁=>orBad (srcOf H₁ a) fun s =>
 if hot=false∧s.2.1≤1000000 then (compL (fun v=>cond (ρ++[some v])) (fun v=>elt (ρ++[some v])) s.1 s.2.1 0 [] (lockH s.2.2 H₁)).calm.bind fun ys H₂=>newL mt ys (freeH s.2.2 H₂) else .bad
set_option genCtorIdx false in
inductive Bi where
 | len | range | list (mt:Bool) | min | max | sum | int | sorted
noncomputable def lenA (H:AH):AV→Option Nat
 | .str x=>some x.length
 | .tup xs=>some xs.length
 | .lst xs=>some xs.length
 | .ref n=>match H[n]? with
  | some (.lst xs)=>some xs.length
  | some (.dict es)=>some es.length
  | _=>none
 | _=>none
noncomputable def intsOf:List AV→Option (List Int)
 | []=>some []
 | .int i::r=>(intsOf r).map (i::·)
 | _=>none
noncomputable def insI (i:Int):List Int→List Int
 | []=>[i]
 | j::r=>if i≤j then i::j::r else j::insI i r
noncomputable def sortI:List Int→List Int
 | []=>[]
 | i::r=>insI i (sortI r)
noncomputable def biA (hot:Bool) (f:Bi) (as:List AV) (H:AH):Out AV:=match as with
 | [a]=>match f with
  | .len=>orBad (lenA H a) fun n=>if n<2^62 then .ok (.int n) H else .bad
  | .range=>asInt a fun n=>.ok (.rng 0 n) H
  | .list mt=>match dcOf H a with
   | some (_,es)=>if !hot && decide (es.length≤1000000) then newL mt (es.map (·.1.av)) H else .bad
   | none=>orBad (lsOf H a) fun xs=>if xs.length≤sizeLine then newL mt xs H else .bad
  | .sum=>orBad ((lsOf H a).bind intsOf) fun is=>if hot then .bad else .ok (.int is.sum) H
  | .int=>asBool a fun b=>.ok (.int (if b then 1 else 0)) H
  | .sorted=>match dcOf H a with
   | some (_,es)=>orBad (intsOf (es.map (·.1.av))) fun is=>if !hot && decide (is.length<64) then .ok (.lst ((sortI is).map .int)) H else .bad
   | none=>.bad
  | _=>.bad
 | [a,b]=>asInt a fun i=>asInt b fun j=>match f with
  | .min=>if hot then .bad else .ok (.int (if j<i then j else i)) H
  | .max=>if hot then .bad else .ok (.int (if i<j then j else i)) H
  | .range=>.ok (.rng i j) H
  | _=>.bad
 | _=>.bad
noncomputable def biE (hot:Bool) (f:Bi) (es:List DE):DE:=fun ρ H=>(evL es ρ H).bind fun as H₁=>biA hot f as H₁
noncomputable def strsOf:List AV→Option (List Str)
 | []=>some []
 | .str x::r=>(strsOf r).map (x::·)
 | _=>none
noncomputable def setD (es:List (Key×AV)) (k:Key) (v:AV):List (Key×AV):=if es.any (fun e=>decide (e.1=k)) then es.map (fun e=>if e.1=k then (e.1,v) else e) else es++[(k,v)]
noncomputable def setL (H:AH) (n:Nat) (xs:List AV):AH:=H.set n (.lst xs)
noncomputable def mlA (f:Bm) (n:Nat) (xs:List AV) (as:List AV) (H:AH):Out AV:=match f with
 | .append=>match as with
  | [v]=>.ok .none (setL H n (xs++[v]))
  | _=>.bad
 | .clear=>match as with
  | []=>.ok .none (setL H n [])
  | _=>.bad
 | _=>.bad
noncomputable def mdA (f:Bm) (n:Nat) (es:List (Key×AV)) (as:List AV) (H:AH):Out AV:=match as with
 | [a]=>orBad (keyOf a) fun k=>match f with
  | .get=>.ok ((es.lookup k).getD .none) H
  | .pop=>orBad (es.lookup k) fun v=>.ok v (H.set n (.dict (es.filter fun e=>decide (e.1≠k))))
  | _=>.bad
 | _=>.bad
noncomputable def msA (f:Bm) (x:Str) (as:List AV) (H:AH):Out AV:=match as with
 | [a]=>match f with
  | .join=>orBad ((lsOf H a).bind strsOf) fun ys=>if JoinOk x ys then .ok (.str (Txt.join x ys)) H else .bad
  | _=>.bad
 | _=>.bad
noncomputable def mbA (f:Bm) (o:AV) (as:List AV) (H:AH):Out AV:=match o with
 | .str x=>msA f x as H
 | .ref n=>match H[n]? with
  | some (.lst xs)=>if xs.length≤1000000 then mlA f n xs as H else .bad
  | some (.dict es)=>if es.length≤1000000 then mdA f n es as H else .bad
  | _=>.bad
 | _=>.bad
noncomputable def kindM (o:AV) (H:AH):Nat:=match o with
 | .str _=>1
 | .ref n=>match H[n]? with
  | some (.lst _)=>2
  | some (.dict _)=>3
  | _=>0
 | _=>0
noncomputable def bmId (k:Nat) (f:Bm):Option String:=match f with
 | .append=>if k=2 then some "list.append" else none
 | .clear=>if k=2 then some "list.clear" else none
 | .get=>if k=3 then some "dict.get" else none
 | .pop=>if k=3 then some "dict.pop" else none
 | .join=>if k=1 then some "str.join" else none
noncomputable def mbE (f:Bm) (o:DE) (es:List DE):DE:=fun ρ H=>(o ρ H).bind fun a H₁=>orBad (bmId (kindM a H₁) f) fun _=>(evL es ρ H₁).bind fun as H₂=>if kindM a H₁=kindM a H₂ then mbA f a as H₂ else .bad
noncomputable def Gm.fn (G:Gm) (c m:Nat):Option Nat:=(G.mth[c]?).bind fun l=>(l[m]?).bind id
noncomputable def moE (G:Gm) (Φ:FT) (m:Nat) (o:DE) (es:List DE):DE:=fun ρ H=>(o ρ H).bind fun a H₁=>orBad (inOf H₁ a) fun i=>orBad (G.fn i.2.1 m) fun f=>(evL es ρ H₁).bind fun as H₂=>Φ f (a::as) H₂
noncomputable def newE (G:Gm) (Φ:FT) (c:Nat) (es:List DE):DE:=fun ρ H=>(evL es ρ H).bind fun as H₁=>orBad (G.fn c 0) fun f =>
 (Φ f (.ref H₁.length::as) (H₁++[.inst c (List.replicate G.na none)])).bind fun r H₂=>match r with
  | .none=>.ok (.ref H₁.length) H₂
  | _=>.bad
noncomputable def attrE (k:Nat) (o:DE):DE:=fun ρ H=>(o ρ H).bind fun a H₁=>orBad (inOf H₁ a) fun i=>match i.2.2[k]? with
 | some (some v)=>.ok v H₁
 | _=>.bad
noncomputable def dct0E:DE:=fun _ H=>.ok (.ref H.length) (H++[.dict []])
noncomputable def kdOf (H:AH):AV→Option Kd
 | .int _=>some .int
 | .str _=>some .str
 | .tup _=>some .tup
 | .ref n=>match H[n]? with
  | some (.lst _)=>some .lst
  | _=>none
 | _=>none
noncomputable def isiAny (H:AH) (a:AV) (ts:List Ty):Option Bool:=match ts with
 | [t]=>(kdOf H a).map fun k=>isK k t
 | _=>none
noncomputable def isiE (G:Gm) (e:DE) (ts:List Ty):DE:=fun ρ H=>(e ρ H).bind fun a H₁=>orBad (isiAny H₁ a ts) fun b=>.ok (.bool b) H₁
noncomputable def Out.inS {α:Type} (o:Out α) (ρ:RE) (f:α→AH→OutS):OutS:=match o with
 | .ok a H=>f a H
 | .exc c H=>.exc c ρ H
 | .bad=>.bad
noncomputable def orBadS {β:Type} (o:Option β) (k:β→OutS):OutS:=match o with
 | some x=>k x
 | none=>.bad
noncomputable def badS:DS:=fun _ _=>.bad
noncomputable def exprS (e:DE):DS:=fun ρ H=>(e ρ H).inS ρ fun _ H₁=>.next ρ H₁
set_option genCtorIdx false in
inductive Tg where
 | one (i:Nat)
 | many (is:List Nat)
noncomputable def bindMany:List Nat→List AV→RE→Option RE
 | [],[],ρ=>some ρ
 | i::is,v::vs,ρ=>bindMany is vs (ρ.set i (some v))
 | _,_,_=>none
noncomputable def bindT (hot:Bool) (t:Tg) (v:AV) (ρ:RE):Option RE:=match t with
 | .one i=>some (ρ.set i (some v))
 | .many is=>if hot then none else match v with
  | .tup xs=>bindMany is xs ρ
  | _=>none
noncomputable def assignS (hot:Bool) (t:Tg) (e:DE):DS:=fun ρ H=>(e ρ H).inS ρ fun a H₁=>orBadS (bindT hot t a ρ) fun ρ₁=>.next ρ₁ H₁
noncomputable def setItemA (o i v:AV) (H:AH):Option AH:=match o with
 | .ref n=>match H[n]? with
  | some (.lst xs)=>match i with
   | .int k=>if small k then (idxA k xs.length).map fun j=>setL H n (xs.set j v) else none
   | _=>none
  | some (.dict es)=>if es.length≤1000000 then (keyOf i).map fun k=>H.set n (.dict (setD es k v)) else none
  | _=>none
 | _=>none
noncomputable def dctF (f g:DE) (ρ:RE) (d:AV) (H:AH):Out AV:=(f ρ H).bind fun a H₁=>(g ρ H₁).bind fun b H₂=>if (dcOf H₂ d).isSome then orBad (setItemA d a b H₂) fun H₃=>.ok d H₃ else .bad
noncomputable def dct1E (f g:DE):DE:=fun ρ H=>dctF f g ρ (.ref H.length) (H++[.dict []])
noncomputable def setItemS (o i e:DE):DS:=fun ρ H=>(e ρ H).inS ρ fun v H₁=>(o ρ H₁).inS ρ fun a H₂=>(i ρ H₂).inS ρ fun k H₃=>orBadS (setItemA a k v H₃) fun H₄=>.next ρ H₄
noncomputable def setAttrS (k:Nat) (o e:DE):DS:=fun ρ H=>(e ρ H).inS ρ fun v H₁=>(o ρ H₁).inS ρ fun a H₂=>orBadS (inOf H₂ a) fun i=>if k<i.2.2.length then .next ρ (H₂.set i.1 (.inst i.2.1 (i.2.2.set k (some v)))) else .bad
noncomputable def augS (o i e:DE):DS:=fun ρ H=>(o ρ H).inS ρ fun a H₁=>(i ρ H₁).inS ρ fun k H₂=>(subA a k H₂).inS ρ fun u H₃=>(e ρ H₃).inS ρ fun v H₄=>(asInt u fun x=>asInt v fun y=>.ok (.int (x+y)) H₄).inS ρ fun w H₅=>orBadS (setItemA a k w H₅) fun H₆=>.next ρ H₆
noncomputable def ifS (t:DE) (b o:DS):DS:=fun ρ H=>(t ρ H).inS ρ fun a H₁=>match a with
 | .bool c=>if c then b ρ H₁ else o ρ H₁
 | _=>.bad
noncomputable def retS (e:DE):DS:=fun ρ H=>(e ρ H).inS ρ fun a H₁=>.ret a H₁
noncomputable def passS:DS:=fun ρ H=>.next ρ H
noncomputable def raiseS (hot:Bool) (c:Nat):DS:=fun ρ H=>if hot then .bad else .exc c ρ H
noncomputable def seqS:List DS→DS
 | []=>passS
 | s::r=>fun ρ H=>(s ρ H).then (seqS r)
noncomputable def loopS (B:AV→DS) (src:Src):Nat→Nat→DS
 | n,k,ρ,H=>match itemAt H src k with
  | none=>.bad
  | some none=>.next ρ H
  | some (some v)=>match n with
   | 0=>.bad
   | n+1=>(B v ρ H).then (loopS B src n (k+1))
noncomputable def forS (hot:Bool) (t:Tg) (it:DE) (b:DS):DS:=fun ρ H=>(it ρ H).inS ρ fun a H₁=>orBadS (srcOf H₁ a) fun s=>if hot then .bad else (loopS (fun v ρ H=>orBadS (bindT hot t v ρ) fun ρ₁=>b ρ₁ H) s.1 s.2.1 0 ρ (lockH s.2.2 H₁)).free s.2.2
noncomputable def OutS.calm:OutS→OutS
 | .exc _ _ _=>.bad
 | o=>o
noncomputable def whileS (t:DE) (b:DS):Nat→DS
 | 0,_,_=>.bad
 | n+1,ρ,H=>((t ρ H).inS ρ fun a H₁=>match a with
  | .bool c=>if c then (b ρ H₁).then (whileS t b n) else .next ρ H₁
  | _=>.bad).calm
noncomputable abbrev DH:=Nat×Option Nat×DS
noncomputable def dropJ (j:Option Nat):OutS→OutS
 | .next ρ H=>.next (match j with | some j=>ρ.set j none | none=>ρ) H
 | .ret a H=>.ret a H
 | _=>.bad
noncomputable def giveJ (ρ:RE) (c:Nat):Option Nat→RE
 | none=>ρ
 | some j=>ρ.set j (some (.exc c))
noncomputable def handS (G:Gm):List DH→Nat→DS
 | [],_,_,_=>.bad
 | (d,j,b)::r,c,ρ,H=>orBadS (G.up[c]?) fun l=>if l.any fun x=>decide (x=d) then dropJ j (b (giveJ ρ c j) H) else handS G r c ρ H
noncomputable def tryS (hot:Bool) (G:Gm) (b:DS) (hs:List DH):DS:=fun ρ H=>if hot then .bad else match b ρ H with
 | .exc c ρ₁ H₁=>handS G hs c ρ₁ H₁
 | o=>o
section
variable {H:AH} {n:Nat} {o:Option AO}
theorem Zg3 (q:H[n]?=o):lsOf H (.ref n)=(match (generalizing:=false) o with | some (.lst xs)=>some xs | _=>none):=by subst q; rfl
theorem ZaN (q:H[n]?=o):dcOf H (.ref n)=(match (generalizing:=false) o with | some (.dict es)=>some (n,es) | some (.ldict es)=>some (n,es) | _=>none):=by subst q; rfl
theorem ZjG (q:H[n]?=o):inOf H (.ref n)=(match (generalizing:=false) o with | some (.inst c fs)=>some (n,c,fs) | _=>none):=by subst q; rfl
theorem Zfw (q:H[n]?=o):lenA H (.ref n)=(match (generalizing:=false) o with | some (.lst xs)=>some xs.length | some (.dict es)=>some es.length | _=>none):=by subst q; rfl
theorem ZbK (q:H[n]?=o):srcOf H (.ref n)=(match (generalizing:=false) o with | some (.lst xs)=>some (.lref n,xs.length,none) | some (.dict es)=>some (.seq (es.map (·.1.av)),es.length,some n) | _=>none):=by subst q; rfl
theorem Zg0 (q:H[n]?=o):kdOf H (.ref n)=(match (generalizing:=false) o with | some (.lst _)=>some .lst | _=>none):=by subst q; rfl
theorem Zje {m:Nat} (q:H[n]?=o):den (m+1) H (.ref n)=(match (generalizing:=false) o with | some (.lst xs)=>(denL (den m H) xs).map .list | _=>none):=by subst q; rfl
theorem Zbd {i v:AV} (q:H[n]?=o):setItemA (.ref n) i v H=(match (generalizing:=false) o with | some (.lst xs)=>(match i with | .int k=>if small k then (idxA k xs.length).map fun j=>setL H n (xs.set j v) else none | _=>none) | some (.dict es)=>if es.length≤1000000 then (keyOf i).map fun k=>H.set n (.dict (setD es k v)) else none | _=>none):=by subst q; rfl
theorem Ziv {f:Bm} {as:List AV} (q:H[n]?=o):mbA f (.ref n) as H=(match (generalizing:=false) o with | some (.lst xs)=>if xs.length≤1000000 then mlA f n xs as H else .bad | some (.dict es)=>if es.length≤1000000 then mdA f n es as H else .bad | _=>.bad):=by subst q; rfl
theorem ZjW {f:Bm} {xs as:List AV} (h:H[n]?=some (.lst xs)):mbA f (.ref n) as H=if xs.length≤1000000 then mlA f n xs as H else .bad:=Ziv h
end
noncomputable def Key.is:Key→Value→Bool
 | .str x,v=>Value.isStrOf x v
 | .int i,v=>Value.isInt i v
theorem Key.is_shape {k:Key} {v:Value} (h:k.is v=true):(∃ x t,k=.str x∧v=.str x t)∨(∃ i t,k=.int i∧v=.int i t):=by
 cases k with
 | str x=>obtain ⟨t,rfl⟩:=Value.isStrOf_shape h; exact .inl ⟨x,t,rfl,rfl⟩
 | int i=>obtain ⟨t,rfl⟩:=Value.isInt_shape h; exact .inr ⟨i,t,rfl,rfl⟩
noncomputable def keyV:Value→Option Key
 | .str x _=>some (.str x)
 | .int i _=>some (.int i)
 | _=>none
theorem Key.of_v {k:Key} {v:Value} (h:k.is v=true):keyV v=some k:=by
 rcases Key.is_shape h with ⟨x,t,rfl,rfl⟩ | ⟨i,t,rfl,rfl⟩<;>rfl
noncomputable def Key.hash (w:World):Key→Int
 | .str x=>hashStr w x
 | .int i=>hashInt i
theorem Zlu {x y:Str}:decide (x=y)=decide (Key.str x=Key.str y):=decide_eq_decide.mpr ⟨congrArg _,Key.str.inj⟩
theorem Zlt {x y:Int}:(x == y)=decide (Key.int x=Key.int y):=by
 rw [Bool.eq_iff_iff,beq_iff_eq,decide_eq_true_eq,Key.int.injEq]
noncomputable def kk (prog:Program) (w:World):KeyKind prog w Key where
 is:=Key.is
 hash:=Key.hash w
 inj:=fun v a b ha hb=>Option.some.inj ((Key.of_v ha).symm.trans (Key.of_v hb))
 byValue:=fun k v h=>by
  rcases Key.is_shape h with ⟨x,t,rfl,rfl⟩ | ⟨i,t,rfl,rfl⟩<;>rfl
 pyHash:=fun hv h=>by
  rcases Key.is_shape hv with ⟨x,t,rfl,rfl⟩ | ⟨i,t,rfl,rfl⟩
  ·exact wpAny_pyHash_str h
  ·exact wpAny_pyHash_int h
 eqBool:=fun {_ _ _ a b u v _} hu hv h=>by
  rcases Key.is_shape hu with ⟨x,t,rfl,rfl⟩ | ⟨i,t,rfl,rfl⟩<;>rcases Key.is_shape hv with ⟨y,u,rfl,rfl⟩ | ⟨j,u,rfl,rfl⟩
  ·exact wpAny_eqBool_str (by rw [Zlu]; exact h)
  ·exact SeqAt.EqAt.str_int x t j u prog w _ _ (by rw [decide_eq_false fun q=>nomatch q] at h; exact h)
  ·exact SeqAt.EqAt.int_str i t y u prog w _ _ (by rw [decide_eq_false fun q=>nomatch q] at h; exact h)
  ·exact wpAny_eqBool_int (by rw [Zlt]; exact h)
 «strs»:=fun k x t v h=>by
  rcases Key.is_shape h with ⟨y,u,rfl,e⟩ | ⟨i,u,rfl,e⟩
  ·cases e; cases v<;>rfl
  ·cases e
noncomputable abbrev Stat.M (S:Stat):Model:=model S.prog S.w
noncomputable def wdOf (S:Stat) (pv:List Addr×List Addr) (h:Heap) (M:Mp):Wd:=⟨h,M,fun a=>foot M a∨a∈pv.1,S.X⟩
noncomputable abbrev Cx.wd (C:Cx) (h:Heap) (M:Mp):Wd:=wdOf C.S C.pv h M
noncomputable def cnt (fs:List (Option AV)):Nat:=fs.countP (·.isSome)
def FRel (w:Wd) (an:List Str) (es:List DictEntry) (fs:List (Option AV)):Prop :=
 es.length=cnt fs∧fs.length=an.length∧(∀ x,x∉an→getL x es=some none)∧∀ (k:Nat) x,an[k]?=some x→match fs[k]? with
  | some (some a)=>∃ v,getL x es=some (some v)∧VRel w v a
  | _=>getL x es=some none
def DRel (S:Stat) (w:Wd) (a:Addr) (es:List (Key×AV)):Prop:=∃ kvs:List (Key×Value),w.h.DictOf (kk S.prog S.w) a kvs∧kvs.map (·.1)=es.map (·.1)∧VRels w (kvs.map (·.2)) (es.map (·.2))∧∀ e∈es,e.1.ok=true
noncomputable def ORel (S:Stat) (w:Wd) (p:Addr×Addr):AO→Prop
 | .lst xs=>p.2=p.1∧∃ vs n,IsL w.h p.1 vs n∧VRels w vs.toList xs
 | .dict es=>p.2=p.1∧DRel S w p.1 es
 | .ldict es=>p.2=p.1∧DRel S w p.1 es
 | .inst c fs=>p.2≠p.1∧∃ D es n,S.cl c=some D∧w.h.get? p.1=some (instObj D p.2)∧w.h.get? p.2=some (dictOf es n)∧FRel w S.an es fs
def Apart (p q:Addr×Addr):Prop:=p.1≠q.1∧p.1≠q.2∧p.2≠q.1∧p.2≠q.2
structure Rep (S:Stat) (pv:List Addr×List Addr) (h:Heap) (M:Mp) (H:AH):Prop where
 len:M.length=H.length
 obj:∀ (n:Nat) p ao,M[n]?=some p→H[n]?=some ao→ORel S (wdOf S pv h M) p ao
 apart:∀ (i j:Nat) p q,M[i]?=some p→M[j]?=some q→i≠j→Apart p q
 held:∀ (n:Nat) p,M[n]?=some p→p.1∈pv.2∨p.2∈pv.2→∃ es,H[n]?=some (.ldict es)
 lkd:∀ (n:Nat) p es,M[n]?=some p→H[n]?=some (.ldict es)→p.1∈pv.2
theorem FRel.keep {w w':Wd} {an:List Str} {es:List DictEntry} {fs:List (Option AV)} (k:Kp w w') (r:FRel w an es fs):FRel w' an es fs:=by
 refine ⟨r.1,r.2.1,r.2.2.1,fun i x hx=>?_⟩
 have:=r.2.2.2 i x hx
 split at this
 ·obtain ⟨v,h1,h2⟩:=this; exact ⟨v,h1,h2.keep k⟩
 ·exact this
theorem DRel.keep {S:Stat} {w w':Wd} {a:Addr} {es:List (Key×AV)} (r:DRel S w a es) (k:Kp w w') (h1:w'.h.get? a=w.h.get? a):DRel S w' a es:=by
 obtain ⟨kvs,⟨o,es',ep,ho,r⟩,hk,v,ok⟩:=r; exact ⟨kvs,⟨o,es',ep,h1.trans ho,r⟩,hk,v.keep k,ok⟩
theorem ORel.keep {S:Stat} {w w':Wd} {p:Addr×Addr} {ao:AO} (r:ORel S w p ao) (k:Kp w w') (h1:w'.h.get? p.1=w.h.get? p.1) (h2:w'.h.get? p.2=w.h.get? p.2):ORel S w' p ao:=by
 cases ao with
 | lst xs=>obtain ⟨e,vs,n,ho,v⟩:=r; exact ⟨e,vs,n,h1.trans ho,v.keep k⟩
 | dict es=>exact ⟨r.1,r.2.keep k h1⟩
 | ldict es=>exact ⟨r.1,r.2.keep k h1⟩
 | inst c fs=>obtain ⟨e,D,es,n,a,b,c,f⟩:=r; exact ⟨e,D,es,n,a,h1.trans b,h2.trans c,f.keep k⟩
theorem ORel.at {S:Stat} {w:Wd} {p:Addr×Addr} {ao:AO} (r:ORel S w p ao):(∃ o,w.h.get? p.1=some o)∧∃ o,w.h.get? p.2=some o:=by
 cases ao with
 | lst xs=>obtain ⟨e,vs,n,ho,v⟩:=r; exact ⟨⟨_,ho⟩,_,e▸ho⟩
 | dict es=>obtain ⟨e,kvs,⟨o,es',ep,ho,r⟩,_⟩:=r; exact ⟨⟨_,ho⟩,_,e▸ho⟩
 | ldict es=>obtain ⟨e,kvs,⟨o,es',ep,ho,r⟩,_⟩:=r; exact ⟨⟨_,ho⟩,_,e▸ho⟩
 | inst c fs=>obtain ⟨e,D,es,n,a,b,c,f⟩:=r; exact ⟨⟨_,b⟩,_,c⟩
theorem Zbf {h:Heap} {x y:Addr} {o:Obj} (b:h.get? y=some o) (a:h.get? x=none):y≠x:=fun e=>by rw [e,a] at b; cases b
theorem Zar {M:Mp} {n:Nat} {p:Addr×Addr} (h:M[n]?=some p):foot M p.1∧foot M p.2:=⟨⟨p,qMo h,.inl rfl⟩,p,qMo h,.inr rfl⟩
theorem Znn {M:Mp} {a:Addr} (h:foot M a):∃ (n:Nat) (p:Addr×Addr),M[n]?=some p∧(a=p.1∨a=p.2):=by
 refine x1_2 (h) fun p hp h=>?_
 obtain ⟨n,hn⟩:=List.mem_iff_getElem?.mp hp
 exact ⟨n,p,hn,h⟩
theorem Zbc {M l:Mp} {a:Addr}:foot (M++l) a↔foot M a∨foot l a:=by
 constructor
 ·rintro ⟨p,hp,h⟩
  exact (qMp hp).imp (fun q=>⟨p,q,h⟩) fun q=>⟨p,q,h⟩
 ·rintro (⟨p,hp,h⟩ | ⟨p,hp,h⟩)
  ·exact ⟨p,List.mem_append.mpr (.inl hp),h⟩
  ·exact ⟨p,List.mem_append.mpr (.inr hp),h⟩
section
variable {S:Stat} {pv:List Addr×List Addr} {h:Heap} {M:Mp} {H:AH}
theorem Rep.ao (R:Rep S pv h M H) {n:Nat} {p:Addr×Addr} (e:M[n]?=some p):∃ ao,H[n]?=some ao:=⟨_,qGg (by rw [← R.len]; exact (gsi e).1)⟩
theorem Rep.there (R:Rep S pv h M H) {a:Addr} (f:foot M a):∃ o,h.get? a=some o:=by
 refine x2_2 (Znn f) fun n p e ha=>?_
 obtain ⟨ao,e'⟩:=R.ao e
 have:=(R.obj n p ao e e').at
 rcases ha with rfl | rfl
 ·exact this.1
 ·exact this.2
theorem Rep.off (R:Rep S pv h M H) {a:Addr} (ha:h.get? a=none):¬ foot M a:=fun f=>by
 obtain ⟨o,ho⟩:=R.there f
 rw [ha] at ho; cases ho
theorem Rep.keep {l:List Addr} {h':Heap} (R:Rep S pv h M H) (k:Kp (wdOf S pv h M) (wdOf S (l,pv.2) h' M)) (e:∀ a,foot M a→h'.get? a=h.get? a):Rep S (l,pv.2) h' M H :=
 ⟨R.len,fun n p ao h1 h2=>(R.obj n p ao h1 h2).keep k (e _ (Zar h1).1) (e _ (Zar h1).2),R.apart,R.held,R.lkd⟩
theorem ZdB {h':Heap} (k:∀ b o,h.get? b=some o→h'.get? b=some o):Kp (wdOf S pv h M) (wdOf S pv h' M):=⟨fun b o e n _=>⟨k b o e,n⟩,⟨[],by simp [wdOf]⟩,rfl⟩
theorem Rep.ext {h':Heap} (R:Rep S pv h M H) (k:∀ b o,h.get? b=some o→h'.get? b=some o):Rep S pv h' M H :=
 R.keep (l:=pv.1) (ZdB k) fun a f=>by obtain ⟨o,ho⟩:=R.there f; rw [ho,k a o ho]
theorem ZjM {h':Heap} {p:Addr×Addr} (k:∀ b o,h.get? b=some o→h'.get? b=some o) (h1:h.get? p.1=none) (h2:h.get? p.2=none):Kp (wdOf S pv h M) (wdOf S pv h' (M++[p])):=by
 refine ⟨fun b o e n _=>⟨k b o e,fun q=>n (q.imp (fun f=>?_) id)⟩,⟨[p],rfl⟩,rfl⟩
 rcases Zbc.mp f with f | ⟨p',hp,z⟩
 ·exact f
 ·cases qMs hp
  have e:h.get? b=some o:=e
  rcases z with rfl | rfl
  ·rw [h1] at e; cases e
  ·rw [h2] at e; cases e
theorem Rep.newO {h':Heap} {p:Addr×Addr} {ao:AO} (R:Rep S pv h M H) (hl:∀ a∈pv.2,∃ o,h.get? a=some o) (hao:∀ es,ao≠.ldict es) (k:∀ b o,h.get? b=some o→h'.get? b=some o) (h1:h.get? p.1=none) (h2:h.get? p.2=none) (ho:ORel S (wdOf S pv h' (M++[p])) p ao):Rep S pv h' (M++[p]) (H++[ao]):=by
 have K:=ZjM (S:=S) (pv:=pv) (M:=M) k h1 h2
 have old:∀ {n q},M[n]?=some q→Apart q p:=fun {n q} e=>by
  obtain ⟨⟨o,a⟩,o',b⟩:=(Zar e).imp R.there R.there
  exact ⟨Zbf a h1,Zbf a h2,Zbf b h1,Zbf b h2⟩
 refine ⟨by rw [qLa,qLa,R.len]; rfl,fun n q ao' e e'=>?_,fun i j q q' e e' ne=>?_,fun n q e z=>?_,fun n q es e e'=>?_⟩
 ·rw [List.getElem?_append] at e e'
  rw [← R.len] at e'
  split at e
  ·rename_i z
   rw [if_pos z] at e'
   refine (R.obj n q ao' e e').keep K ?_ ?_
   ·obtain ⟨o,z⟩:=R.there (Zar e).1; exact (k _ o z).trans z.symm
   ·obtain ⟨o,z⟩:=R.there (Zar e).2; exact (k _ o z).trans z.symm
  ·rename_i z
   rw [if_neg z] at e'
   obtain ⟨m,hm⟩:∃ m,n-M.length=m:=⟨_,rfl⟩
   rw [hm] at e e'
   cases m with
   | zero=>cases e; cases e'; exact ho
   | succ m=>cases e
 ·rw [List.getElem?_append] at e e'
  split at e<;>split at e'
  ·exact R.apart i j q q' e e' ne
  ·have:=qMs (qMo e'); subst this; exact old e
  ·have:=qMs (qMo e); subst this; obtain ⟨a,b,c,d⟩:=old e'; exact ⟨a.symm,c.symm,b.symm,d.symm⟩
  ·rename_i z1 z2
   have f:∀ {n:Nat},¬ n<M.length→n-M.length<1→n=M.length:=fun a b=>Nat.le_antisymm (Nat.le_of_sub_eq_zero (Nat.lt_one_iff.mp b)) (Nat.not_lt.mp a)
   exact absurd ((f z1 (gsi e).1).trans (f z2 (gsi e').1).symm) ne
 ·rw [List.getElem?_append] at e ⊢
  rw [← R.len]
  split at e
  ·rename_i y; rw [if_pos y]; exact R.held n q e z
  ·have:=qMs (qMo e)
   subst this
   rcases z with z | z
   ·obtain ⟨o,ho⟩:=hl _ z; rw [h1] at ho; cases ho
   ·obtain ⟨o,ho⟩:=hl _ z; rw [h2] at ho; cases ho
 ·rw [List.getElem?_append] at e e'
  rw [← R.len] at e'
  split at e
  ·rename_i y; rw [if_pos y] at e'; exact R.lkd n q es e e'
  ·rename_i y; rw [if_neg y] at e'; exact absurd (qMs (qMo e')).symm (hao es)
theorem Zmk {h':Heap} {n:Nat} {p:Addr×Addr} (e:M[n]?=some p) (k:∀ b o,b≠p.1→b≠p.2→h.get? b=some o→h'.get? b=some o):Kp (wdOf S pv h M) (wdOf S pv h' M) :=
 ⟨fun b o z nf _=>⟨k b o (fun q=>nf (.inl (q▸(Zar e).1))) (fun q=>nf (.inl (q▸(Zar e).2))) z,nf⟩,⟨[],by simp [wdOf]⟩,rfl⟩
theorem Rep.off2 (R:Rep S pv h M H) {n:Nat} {p:Addr×Addr} (e:M[n]?=some p) (hn:∀ es,H[n]?≠some (.ldict es)):p.1∉pv.2∧p.2∉pv.2 :=
 ⟨fun q=>let ⟨es,h⟩:=R.held n p e (.inl q); hn es h,fun q=>let ⟨es,h⟩:=R.held n p e (.inr q); hn es h⟩
theorem Rep.setO {h':Heap} {n:Nat} {p:Addr×Addr} {ao:AO} (R:Rep S pv h M H) (e:M[n]?=some p) (hn:∀ es,H[n]?≠some (.ldict es)) (hao:∀ es,ao≠.ldict es) (k:∀ b o,b≠p.1→b≠p.2→h.get? b=some o→h'.get? b=some o) (ho:ORel S (wdOf S pv h' M) p ao):Rep S pv h' M (H.set n ao):=by
 refine ⟨by rw [List.length_set]; exact R.len,fun m q ao' e1 e2=>?_,R.apart,fun m q e1 z=>?_,fun m q es e1 e2=>?_⟩
 ·rw [List.getElem?_set] at e2
  split at e2
  ·rename_i z
   subst z
   split at e2<;>cases e2
   rw [e] at e1; cases e1; exact ho
  ·rename_i z
   refine x0_4 (R.apart m n q p e1 e (Ne.symm z)) fun a b c d=>?_
   refine (R.obj m q ao' e1 e2).keep (Zmk e k) ?_ ?_
   ·obtain ⟨o,z⟩:=R.there (Zar e1).1; exact (k _ o a b z).trans z.symm
   ·obtain ⟨o,z⟩:=R.there (Zar e1).2; exact (k _ o c d z).trans z.symm
 ·by_cases y:n=m
  ·subst y
   rw [e] at e1; cases e1
   exact absurd z (fun z=>z.elim (R.off2 e hn).1 (R.off2 e hn).2)
  ·rw [List.getElem?_set,if_neg y]; exact R.held m q e1 z
 ·rw [List.getElem?_set] at e2
  split at e2
  ·split at e2
   ·exact absurd (Option.some.inj e2) (hao es)
   ·cases e2
  ·exact R.lkd m q es e1 e2
end
structure Step (C:Cx) (W:Addr→Prop) (s:Shared) (M:Mp) (s':Shared) (M':Mp):Prop where
 keep:∀ b o,s.heap.get? b=some o→(foot M b→b∈C.pv.2)→¬ W b→b∉C.fs→s'.heap.get? b=some o
 slots:∀ b o,s.heap.get? b=some o→b∈C.fs→¬ W b→∃ sl,s'.heap.get? b=some { o with slots:=sl }
 alive:∀ b o,s.heap.get? b=some o→∃ o',s'.heap.get? b=some o'
 pre:∃ l,M'=M++l
 grow:∀ a,foot M' a→foot M a∨s.heap.get? a=none
 gens:s'.gens=s.gens
 os:s'.os=s.os
noncomputable def noW:Addr→Prop:=fun _=>False
structure Live (C:Cx) (h:Heap) (M:Mp):Prop where
 frames:C.A.frames=some C.fe
 funs:h.FunFrames C.S.base C.fe
 stays:C.S.base.StaysIn h
 off:∀ L∈C.fs,¬ foot M L
 new:∀ a,foot M a→C.S.base.get? a=none
 handled:C.hot=false→C.A.handled=none
 dicts:∀ b∈C.fs,∃ o es ep,h.get? b=some o∧o.data=.dict es ep
 depth:C.A.depth+C.d<recursionLimit
 units:C.A.units+20*C.d+100<cLine
 priv:∀ a,a∈C.pv.1∨a∈C.pv.2→∃ o,h.get? a=some o
 poff:∀ a∈C.pv.1,¬ foot M a
section
variable {C:Cx} {W W':Addr→Prop} {s s₁ s₂ s':Shared} {M M₁ M₂ M':Mp} {h h':Heap}
theorem Step.not (k:Step C W s M s' M') {b:Addr} {o:Obj} (e:s.heap.get? b=some o) (n:¬ foot M b):¬ foot M' b :=
 fun q=>(k.grow b q).elim n fun l=>by rw [l] at e; cases e
theorem Step.offM (k:Step C W s M s' M') {b:Addr} {o:Obj} (e:s.heap.get? b=some o) (n:foot M b→b∈C.pv.2):foot M' b→b∈C.pv.2 :=
 fun q=>(k.grow b q).elim n fun l=>by rw [l] at e; cases e
theorem gone {h h':Heap} (k:∀ b o,h.get? b=some o→∃ o',h'.get? b=some o') {a:Addr} (e:h'.get? a=none):h.get? a=none:=by
 cases q:h.get? a with
 | none=>rfl
 | some o=>obtain ⟨o',z⟩:=k a o q; rw [e] at z; cases z
theorem Step.thenNew (x:Step C W s M s₁ M₁) (y:Step C W' s₁ M₁ s₂ M₂) (hn:∀ a,W' a→W a∨s.heap.get? a=none):Step C W s M s₂ M₂ where
 keep:=fun b o e n m f=>y.keep b o (x.keep b o e n m f) (x.offM e n) (fun q=>(hn b q).elim m fun z=>by rw [e] at z; cases z) f
 slots:=fun b o e f m=>by
  obtain ⟨sl,h1⟩:=x.slots b o e f m
  obtain ⟨sl',h2⟩:=y.slots b _ h1 f (fun q=>(hn b q).elim m fun z=>by rw [e] at z; cases z)
  exact ⟨sl',h2⟩
 alive:=fun b o e=>by
  obtain ⟨o',e'⟩:=x.alive b o e
  exact y.alive b o' e'
 pre:=by
  obtain ⟨l,e⟩:=x.pre
  obtain ⟨l',e'⟩:=y.pre
  exact ⟨l++l',by rw [e',e,qAa]⟩
 grow:=fun a q=>(y.grow a q).elim (fun p=>x.grow a p) fun l=>.inr (gone x.alive l)
 gens:=y.gens.trans x.gens
 os:=y.os.trans x.os
theorem Step.trans (x:Step C W s M s₁ M₁) (y:Step C W s₁ M₁ s₂ M₂):Step C W s M s₂ M₂:=x.thenNew y fun _ q=>.inl q
theorem Step.refl (C:Cx) (W:Addr→Prop) (s:Shared) (M:Mp):Step C W s M s M :=
 ⟨fun _ _ e _ _ _=>e,fun _ o e _ _=>⟨o.slots,e⟩,fun _ o e=>⟨o,e⟩,⟨[],by simp⟩,fun _ q=>.inl q,rfl,rfl⟩
theorem Step.wider (x:Step C W s M s' M') (hw:∀ a,W a→W' a):Step C W' s M s' M':=(Step.refl C W' s M).thenNew x fun a q=>.inl (hw a q)
theorem Step.ofNo (x:Step C noW s M s' M'):Step C W s M s' M':=x.wider fun _ q=>q.elim
theorem Step.ext {t:Nat} (k:∀ b o,s.heap.get? b=some o→h'.get? b=some o):Step C W s M { s with heap:=h',toks:=t } M :=
 ⟨fun b o e _ _ _=>k b o e,fun b o e _ _=>⟨o.slots,k b o e⟩,fun b o e=>⟨o,k b o e⟩,⟨[],by simp⟩,fun _ q=>.inl q,rfl,rfl⟩
theorem Step.new {t:Nat} {p:Addr×Addr} (k:∀ b o,s.heap.get? b=some o→h'.get? b=some o) (h1:s.heap.get? p.1=none) (h2:s.heap.get? p.2=none):Step C W s M { s with heap:=h',toks:=t } (M++[p]) :=
 ⟨fun b o e _ _ _=>k b o e,fun b o e _ _=>⟨o.slots,k b o e⟩,fun b o e=>⟨o,k b o e⟩,⟨[p],rfl⟩,fun a q=>(Zbc.mp q).imp id fun ⟨q,hq,z⟩=>by
  cases qMs hq
  rcases z with rfl | rfl
  ·exact h1
  ·exact h2,rfl,rfl⟩
theorem Live.fsNew (L:Live C h M) {b:Addr} (hb:b∈C.fs):C.S.base.get? b=none:=(L.funs.mem hb).1
theorem Live.baseOff (L:Live C h M) {b:Addr} {o:Obj} (e:C.S.base.get? b=some o):¬ foot M b∧b∉C.fs :=
 ⟨fun f=>(nomatch (L.new b f).symm.trans e),fun f=>(nomatch (L.fsNew f).symm.trans e)⟩
theorem Live.offFs (L:Live C h M) {b:Addr} {o:Obj} (e:h.get? b=some o) (hn:∀ es ep,o.data≠.dict es ep):b∉C.fs:=fun q=>by
 refine x3_2 (L.dicts b q) fun o' es ep ho hd=>?_
 rw [e] at ho; cases ho; exact hn es ep hd
theorem Live.K (L:Live C h M):C.S.K.In h:=C.S.hK.keeps L.stays
theorem Live.base0 (L:Live C h M) {a:Addr} (e:h.get? a=none):C.S.base.get? a=none:=gone (fun b o e=>⟨o,L.stays b o e⟩) e
theorem Live.fs0 (L:Live C h M) {a:Addr} (e:h.get? a=none):a∉C.fs:=fun q=>by
 refine x3_2 (L.dicts a q) fun o es ep ho hd=>?_
 rw [e] at ho; cases ho
theorem Live.pv0 (L:Live C h M) {a:Addr} (e:h.get? a=none):a∉C.pv.1:=fun q=>by
 obtain ⟨o,ho⟩:=L.priv a (.inl q)
 rw [e] at ho; cases ho
def VarsOnly (h:Heap) (W:Addr→Prop):Prop:=∀ b o,W b→h.get? b=some o→¬ Held o
theorem Zap {h:Heap}:VarsOnly h noW:=fun _ _ q=>q.elim
theorem Step.kp (x:Step C W s M s' M') (L:Live C s.heap M) (hw:VarsOnly s.heap W):Kp (C.wd s.heap M) (C.wd s'.heap M') :=
 ⟨fun b o e n hh=>⟨x.keep b o e (fun q=>absurd (.inl q) n) (fun q=>hw b o q e hh) (L.offFs e hh.nd),fun q=>q.elim (x.not e fun q=>n (.inl q)) fun q=>n (.inr q)⟩,x.pre,rfl⟩
theorem Zc1 (hs:∀ b o,h.get? b=some o→b∈C.fs→(∀ vs,o.data≠.fields vs)→∃ o',h'.get? b=some o'∧∀ vs,o'.data≠.fields vs) {B:Heap}:∀ l:List Env,(∀ b∈l.filterMap (·.frame),b∈C.fs)→h.FunFrames B l→h'.FunFrames B l
 | [],_,_=>trivial
 | env::r,hl,h=>by
  obtain ⟨hk,⟨a,o,hf,hn,ho,hd⟩,hr⟩:=h
  have ha:a∈C.fs:=hl a (by rw [List.filterMap_cons,hf]; exact .head _)
  refine x1_2 (hs a o ho ha hd) fun o' h1 h2=>?_
  refine ⟨hk,⟨a,o',hf,hn,h1,h2⟩,Zc1 hs r (fun b hb=>hl b ?_) hr⟩
  rw [List.filterMap_cons,hf]; exact .tail _ hb
theorem Live.step (L:Live C s.heap M) (x:Step C noW s M s' M'):Live C s'.heap M' where
 frames:=L.frames
 funs:=Zc1 (fun b o ho hb hd=>by obtain ⟨sl,h1⟩:=x.slots b o ho hb (fun q=>q); exact ⟨_,h1,hd⟩) C.fe (fun b hb=>hb) L.funs
 stays:=fun b o e=>x.keep b o (L.stays b o e) (fun q=>absurd q (L.baseOff e).1) (fun q=>q) (L.baseOff e).2
 off:=fun a ha=>by
  obtain ⟨_,o,ho,_⟩:=L.funs.mem ha
  exact x.not ho (L.off a ha)
 new:=fun a f=>(x.grow a f).elim (L.new a) L.base0
 handled:=L.handled
 dicts:=fun b hb=>by
  refine x3_2 (L.dicts b hb) fun o es ep ho hd=>?_
  obtain ⟨sl,h1⟩:=x.slots b o ho hb (fun q=>q)
  exact ⟨_,es,ep,h1,hd⟩
 depth:=L.depth
 units:=L.units
 priv:=fun a ha=>by obtain ⟨o,ho⟩:=L.priv a ha; exact x.alive a o ho
 poff:=fun a ha=>by obtain ⟨o,ho⟩:=L.priv a (.inl ha); exact x.not ho (L.poff a ha)
end
def Raw (h:Heap) (e D:Addr):Prop:=∃ o vs,h.get? e=some o∧(o.cls=.ref D∧o.dict=none)∧o.data=.fields vs∧2<vs.size∧vs[1]?=some .none
def Fly (B h:Heap) (e D:Addr) (fl:Value):Prop:=∃ o vs T oT ts,h.get? e=some o∧(o.cls=.ref D∧o.dict=none)∧o.data=.fields vs∧2<vs.size∧vs[1]?=some (.ref T)∧B.get? T=none∧T≠e∧h.get? T=some oT∧oT.data=.fields ts∧ts[3]?=some fl
structure Flt (B:Heap) (fe:List Env) (e D:Addr) (h:Heap):Prop where
 stays:B.StaysIn h
 new:B.get? e=none
 funs:h.FunFrames B fe
 st:Raw h e D∨∃ fl,Fly B h e D fl∧(fl=.none∨∃ L,fe.head?.bind (·.frame)=some L∧fl=rawInt L)
structure Exn (C:Cx) (W:Addr→Prop) (s:Shared) (M:Mp) (e:Addr) (c:Nat) (s':Shared) (M':Mp) (H':AH) (B:Heap):Prop where
 keepB:∀ b o,s.heap.get? b=some o→(foot M b→b∈C.pv.2)→¬ W b→b∉C.fs→B.get? b=some o
 base:C.S.base.StaysIn B
 rep:Rep C.S C.pv B M' H'
 flt:∃ D,C.S.X c=some D∧Flt B C.fe e D s'.heap
 slots:∀ b o,s.heap.get? b=some o→b∈C.fs→¬ W b→∃ sl,s'.heap.get? b=some { o with slots:=sl }
 alive:∀ b o,s.heap.get? b=some o→∃ o',s'.heap.get? b=some o'
 pre:∃ l,M'=M++l
 grow:∀ a,foot M' a→foot M a∨s.heap.get? a=none
 gens:s'.gens=s.gens
 os:s'.os=s.os
 fresh:s.heap.get? e=none
section
variable {C:Cx} {W W':Addr→Prop} {s s₁ s':Shared} {M M₁ M':Mp} {H':AH} {e:Addr} {c:Nat} {B:Heap}
theorem Exn.step (x:Exn C W s M e c s' M' H' B):Step C W s M s' M' :=
 ⟨fun b o z n m f=>let ⟨_,_,q⟩:=x.flt; q.stays _ _ (x.keepB b o z n m f),x.slots,x.alive,x.pre,x.grow,x.gens,x.os⟩
theorem Exn.after (x:Step C W' s M s₁ M₁) (y:Exn C W s₁ M₁ e c s' M' H' B) (hw:∀ a,W' a→W a):Exn C W s M e c s' M' H' B :=
 have z:=(x.wider hw).trans y.step
 { y with keepB:=fun b o e n m f=>y.keepB b o (x.keep b o e n (fun q=>m (hw b q)) f) (x.offM e n) m f,slots:=z.slots,alive:=z.alive,pre:=z.pre,grow:=z.grow,gens:=z.gens,os:=z.os,fresh:=gone x.alive y.fresh }
theorem Exn.wider (y:Exn C W s M e c s' M' H' B) (hw:∀ a,W a→W' a):Exn C W' s M e c s' M' H' B :=
 { y with keepB:=fun b o e n m f=>y.keepB b o e n (fun q=>m (hw b q)) f,slots:=fun b o e f m=>y.slots b o e f fun q=>m (hw b q) }
end
noncomputable abbrev RelT (α β:Type):=Wd→α→β→Prop
noncomputable def EqR {α:Type}:RelT α α:=fun _ a b=>a=b
def Post {α β:Type} (R:RelT α β) (C:Cx) (s:Shared) (M:Mp) (y:β) (H':AH) (x:α) (s':Shared):Prop :=
 ∃ M',Step C noW s M s' M'∧Rep C.S C.pv s'.heap M' H'∧R (C.wd s'.heap M') x y
def PostX (C:Cx) (s:Shared) (M:Mp) (c:Nat) (H':AH) (ev:Value) (s':Shared):Prop :=
 ∃ e M' B,ev=.ref e∧Exn C noW s M e c s' M' H' B
noncomputable abbrev no1 {α:Type}:α→Shared→Prop:=fun _ _=>False
noncomputable def Ev {α β:Type} (R:RelT α β) (C:Cx) (t:Sem α) (s:Shared) (M:Mp):Out β→Prop
 | .ok y H'=>wpAny C.S.M C.A t (Post R C s M y H') no1 s
 | .exc c H'=>wpAny C.S.M C.A t no1 (PostX C s M c H') s
 | .bad=>True
section
variable {α β γ δ:Type} {R:RelT α β} {R':RelT γ δ} {C:Cx} {s:Shared} {M:Mp}
theorem Ev.then {t:Sem α} {k:α→Sem γ} {o:Out β} {f:β→AH→Out δ} (h:Ev R C t s M o)
  (hk:∀ y H₁ x s₁ M₁,Step C noW s M s₁ M₁→Rep C.S C.pv s₁.heap M₁ H₁→R (C.wd s₁.heap M₁) x y→Ev R' C (k x) s₁ M₁ (f y H₁)):Ev R' C (t >>= k) s M (o.bind f):=by
 cases o with
 | bad=>trivial
 | exc c H'=>exact wpAny_bind (wpAny_mono h (fun _ _ q=>q.elim) fun _ _ q=>q)
 | ok y H₁ =>
  show Ev R' C (t >>= k) s M (f y H₁)
  generalize hf:f y H₁=o'
  cases o' with
  | bad=>trivial
  | exc c H'=>exact wpAny_bind (wpAny_mono h (fun x s₁ ⟨M₁,st,rp,r⟩=>wpAny_mono (hf▸hk y H₁ x s₁ M₁ st rp r:Ev R' C (k x) s₁ M₁ (.exc c H')) (fun _ _ q=>q) fun _ _ ⟨e,M₂,B,he,z⟩=>⟨e,M₂,B,he,z.after st fun _ q=>q⟩) fun _ _ q=>q.elim)
  | ok y' H'=>exact wpAny_bind (wpAny_mono h (fun x s₁ ⟨M₁,st,rp,r⟩=>wpAny_mono (hf▸hk y H₁ x s₁ M₁ st rp r:Ev R' C (k x) s₁ M₁ (.ok y' H')) (fun _ _ ⟨M₂,st₂,z⟩=>⟨M₂,st.trans st₂,z⟩) fun _ _ q=>q) fun _ _ q=>q.elim)
theorem Ev.of {t:Sem α} {o:Out β} (h:∀ {P:α→Shared→Prop} {E:Value→Shared→Prop} (y:β) (H':AH),o=.ok y H'→(∀ x s',Post R C s M y H' x s'→P x s')→wpAny C.S.M C.A t P E s) (he:∀ c H',o≠.exc c H'):Ev R C t s M o:=by
 cases o with
 | bad=>trivial
 | exc c H'=>exact absurd rfl (he c H')
 | ok y H'=>exact h y H' rfl fun _ _ q=>q
theorem Ev.map {t t':Sem α} (e:∀ {P:α→Shared→Prop} {E:Value→Shared→Prop},wpAny C.S.M C.A t P E s→wpAny C.S.M C.A t' P E s) {o:Out β} (h:Ev R C t s M o):Ev R C t' s M o:=by
 cases o with
 | bad=>trivial
 | exc c H'=>exact e h
 | ok y H'=>exact e h
theorem Ev.holding {t:Sem α} {vs:List Value} {o:Out β} (h:Ev R C t s M o):Ev R C (holding vs t) s M o:=h.map fun z=>wpAny_holding z
theorem Ev.stand {t:Sem α} {pos:Pos} {o:Out β} (h:Ev R C t s M o):Ev R C (standAt pos >>= fun _=>t) s M o:=h.map fun z=>wpAny_bind (wpAny_standAt z)
theorem Ev.operate {t:Sem Value} {R:RelT Value β} {vs:List Value} {o:Out β} (h:Ev R C t s M o):Ev R C (operate vs t) s M o:=h.map fun z=>wpAny_operate' z
theorem Ev.look {t:Sem γ} {v:γ} {k:γ→Sem α} {o:Out β} (h:∀ {P:γ→Shared→Prop} {E:Value→Shared→Prop},P v s→wpAny C.S.M C.A t P E s) (hk:Ev R C (k v) s M o):Ev R C (t >>= k) s M o:=hk.map fun z=>wpAny_bind (h z)
theorem Ev.orBad {ε:Type} {t:Sem α} {x:Option ε} {f:ε→Out β} (h:∀ y,x=some y→Ev R C t s M (f y)):Ev R C t s M (orBad x f):=by
 cases x with
 | none=>trivial
 | some y=>exact h y rfl
theorem Ev.ite {t:Sem α} {p:Prop} [Decidable p] {a:Out β} (h:p→Ev R C t s M a):Ev R C t s M (if p then a else .bad):=by
 split
 ·exact h ‹_›
 ·trivial
theorem Ev.asInt {t:Sem α} {a:AV} {f:Int→Out β} (h:∀ i,a=.int i→Ev R C t s M (f i)):Ev R C t s M (asInt a f):=by
 cases a<;>first | trivial | exact h _ rfl
theorem Ev.asBool {t:Sem α} {a:AV} {f:Bool→Out β} (h:∀ i,a=.bool i→Ev R C t s M (f i)):Ev R C t s M (asBool a f):=by
 cases a<;>first | trivial | exact h _ rfl
theorem Ev.asStr {t:Sem α} {a:AV} {f:Str→Out β} (h:∀ i,a=.str i→Ev R C t s M (f i)):Ev R C t s M (asStr a f):=by
 cases a<;>first | trivial | exact h _ rfl
variable {H:AH} {x:α} {y:β} {h':Heap}
theorem Zao (rp:Rep C.S C.pv s.heap M H) (r:R (C.wd s.heap M) x y) (t:Nat):Post R C s M y H x { s with toks:=t } :=
 ⟨M,⟨fun _ _ e _ _ _=>e,fun _ o e _ _=>⟨o.slots,e⟩,fun _ o e=>⟨o,e⟩,⟨[],by simp⟩,fun _ q=>.inl q,rfl,rfl⟩,rp,r⟩
theorem ZaC (rp:Rep C.S C.pv s.heap M H) (r:R (C.wd s.heap M) x y):Post R C s M y H x s:=⟨M,Step.refl ..,rp,r⟩
theorem Zb5 (rp:Rep C.S C.pv s.heap M H) (k:∀ b o,s.heap.get? b=some o→h'.get? b=some o) (r:R (C.wd h' M) x y) (t:Nat):Post R C s M y H x { s with heap:=h',toks:=t }:=⟨M,Step.ext k,rp.ext k,r⟩
theorem Zda {o:Obj} (rp:Rep C.S C.pv s.heap M H) (r:R (C.wd (s.heap.push o) M) x y) (t:Nat):Post R C s M y H x { s with heap:=s.heap.push o,toks:=t }:=Zb5 rp (fun _ _ e=>Heap.get?_push_of_some _ e) r t
theorem Ev.pure (rp:Rep C.S C.pv s.heap M H) (r:R (C.wd s.heap M) x y):Ev R C (pure x) s M (.ok y H):=wpAny_pure (ZaC rp r)
theorem Zbz {n:Nat} {p:Addr×Addr} {ao:AO} {tk:Nat} (L:Live C s.heap M) (rp:Rep C.S C.pv s.heap M H) (e:M[n]?=some p) (hn:∀ es,H[n]?≠some (.ldict es)) (hao:∀ es,ao≠.ldict es) (k:∀ b o,b≠p.1→b≠p.2→s.heap.get? b=some o→h'.get? b=some o)
  (ho:Kp (C.wd s.heap M) (C.wd h' M)→ORel C.S (C.wd h' M) p ao) (rx:Kp (C.wd s.heap M) (C.wd h' M)→R (C.wd h' M) x y):Post R C s M y (H.set n ao) x { s with heap:=h',toks:=tk }:=by
 have K:Kp (C.wd s.heap M) (C.wd h' M):=Zmk e k
 obtain ⟨⟨o1,a1⟩,o2,a2⟩:=(ho K).at
 have nl:=rp.off2 e hn
 refine ⟨M,⟨fun b o z n _ _=>k b o (fun q=>nl.1 (q▸n (q▸(Zar e).1))) (fun q=>nl.2 (q▸n (q▸(Zar e).2))) z,fun b o z hb _=>⟨o.slots,k b o (fun q=>L.off b hb (q▸(Zar e).1)) (fun q=>L.off b hb (q▸(Zar e).2)) z⟩,fun b o z=>?_,⟨[],by simp⟩,fun _ q=>.inl q,rfl,rfl⟩,rp.setO e hn hao k (ho K),rx K⟩
 by_cases h1:b=p.1
 ·exact ⟨o1,h1▸a1⟩
 ·by_cases h2:b=p.2
  ·exact ⟨o2,h2▸a2⟩
  ·exact ⟨o,k b o h1 h2 z⟩
end
noncomputable def OwnW (env:Env):Addr→Prop:=fun a=>a=env.locals∨∃ n,env.cells.lookup n=some a
structure EnvAt (C:Cx) (env:Env) (ns:List (Option Str)) (ρ:RE) (h:Heap) (w:Wd) (m cm:Str→Option Value):Prop where
 fn:env.scope.kind=.function
 glob:env.globals=mainGlobals
 bns:env.builtins=builtinsNs
 loc:h.Ns env.locals m
 off:∀ a,OwnW env a→¬ foot w.M a∧C.S.base.get? a=none
 inj:∀ (i j:Nat) (x:Str),ns[i]?=some (some x)→ns[j]?=some (some x)→i=j
 len:ρ.length=ns.length
 has:∀ x,(env.kindOf x=some .cell∨env.kindOf x=some .free)→∃ c,env.cells.lookup x=some c
 cell:∀ n c,env.cells.lookup n=some c→h.IsCell c (cm n)∧c∉C.fs∧c≠env.locals
 apart:∀ n n' c,env.cells.lookup n=some c→env.cells.lookup n'=some c→n=n'
 var:∀ (i:Nat) (x:Str) (a:AV),ns[i]?=some (some x)→ρ[i]?=some (some a)→∃ v,VRel w v a ∧
  ((env.kindOf x=some .local∧m x=some v)∨((env.kindOf x=some .cell∨env.kindOf x=some .free)∧(∃ c,env.cells.lookup x=some c)∧cm x=some v))
def EnvB (C:Cx) (env:Env) (ns:List (Option Str)) (ρ:RE) (h B:Heap) (M:Mp):Prop:=∃ m cm,EnvAt C env ns ρ h (C.wd B M) m cm
structure St (C:Cx) (env:Env) (ns:List (Option Str)) (ρ:RE) (s:Shared) (M:Mp) (H:AH):Prop where
 live:Live C s.heap M
 rep:Rep C.S C.pv s.heap M H
 env:EnvB C env ns ρ s.heap s.heap M
section
variable {C C':Cx} {env:Env} {ns:List (Option Str)} {ρ:RE} {h h':Heap} {w w':Wd} {m cm:Str→Option Value} {s s':Shared} {M M':Mp} {H H':AH}
theorem EnvAt.keep (E:EnvAt C env ns ρ h w m cm) (hS:C'.S=C.S) (hf:∀ a,a∉C.fs→a∉C'.fs) (hl:∀ o,h.get? env.locals=some o→∃ sl,h'.get? env.locals=some { o with slots:=sl }) (hc:∀ n c o,env.cells.lookup n=some c→h.get? c=some o→h'.get? c=some o) (k:Kp w w') (nf:∀ a o,OwnW env a→h.get? a=some o→¬ foot w.M a→¬ foot w'.M a):EnvAt C' env ns ρ h' w' m cm:=by
 refine ⟨E.fn,E.glob,E.bns,?_,fun a ha=>⟨?_,hS▸(E.off a ha).2⟩,E.inj,E.len,E.has,fun n c e=>?_,E.apart,fun i x a h1 h2=>?_⟩
 ·refine x3_3 (E.loc) fun o es ep ho hd r=>?_
  obtain ⟨sl,h1⟩:=hl o ho
  exact ⟨_,es,ep,h1,hd,r⟩
 ·have:∃ o,h.get? a=some o:=by
   rcases ha with rfl | ⟨n,e⟩
   ·obtain ⟨o,es,ep,ho,_⟩:=E.loc; exact ⟨o,ho⟩
   ·obtain ⟨⟨o,ho,_⟩,_⟩:=E.cell n a e; exact ⟨o,ho⟩
  obtain ⟨o,ho⟩:=this
  exact nf a o ha ho (E.off a ha).1
 ·obtain ⟨⟨o,ho,hd⟩,h2,h3⟩:=E.cell n c e
  exact ⟨⟨o,hc n c o e ho,hd⟩,hf _ h2,h3⟩
 ·refine x1_2 (E.var i x a h1 h2) fun v hv r=>?_
  exact ⟨v,hv.keep k,r⟩
theorem EnvAt.offFs (E:EnvAt C env ns ρ h w m cm) {n:Str} {c:Addr} (e:env.cells.lookup n=some c):c∉C.fs:=(E.cell n c e).2.1
theorem St.step (st:St C env ns ρ s M H) (x:Step C noW s M s' M') (r:Rep C.S C.pv s'.heap M' H'):St C env ns ρ s' M' H':=by
 refine x2_1 (st.env) fun m cm E=>?_
 refine ⟨st.live.step x,r,m,cm,E.keep rfl (fun _ q=>q) (fun o ho=>?_) (fun n c o e ho=>x.keep c o ho (fun q=>absurd q (E.off c (.inr ⟨n,e⟩)).1) (fun q=>q) (E.offFs e)) (x.kp st.live Zap) (fun a o _ ho n=>x.not ho n)⟩
 by_cases q:env.locals∈C.fs
 ·exact x.slots _ o ho q (fun q=>q)
 ·exact ⟨o.slots,x.keep _ o ho (fun q=>absurd q (E.off _ (.inl rfl)).1) (fun q=>q) q⟩
theorem EnvAt.vars (E:EnvAt C env ns ρ h w m cm):VarsOnly h (OwnW env):=by
 rintro b o (rfl | ⟨n,hc⟩) ho hh
 ·refine x3_3 (E.loc) fun o' es ep h1 h2 _=>?_
  rw [ho] at h1; cases h1
  exact hh.nd _ _ h2
 ·obtain ⟨⟨o',h1,h2⟩,_⟩:=E.cell n b hc
  rw [ho] at h1; cases h1
  rcases hh.1 with ⟨_,_,e⟩ | ⟨_,e⟩<;>rw [h2] at e<;>cases e
structure Aside (C:Cx) (env:Env) (h:Heap) (M:Mp) (it:Addr):Prop where
 obj:∃ o,h.get? it=some o∧(it∈C.pv.1∨¬ Held o)
 foot:¬ foot M it
 fs:it∉C.fs
 own:¬ OwnW env it
 base:C.S.base.get? it=none
variable {it:Addr}
theorem St.but {tk:Nat} (st:St C env ns ρ s M H) (x:Aside C env s.heap M it) (k:∀ b o,b≠it→s.heap.get? b=some o→h'.get? b=some o) (he:it∈C.pv.1∨it∈C.pv.2→∃ o,h'.get? it=some o):St C env ns ρ { s with heap:=h',toks:=tk } M H:=by
 obtain ⟨L,R,m,cm,E⟩:=st
 have K:Kp (C.wd s.heap M) (C.wd h' M):=⟨fun b o e n hh=>⟨k b o (fun q=>by
   subst q
   refine x1_2 (x.obj) fun o' h1 h2=>?_
   have e:s.heap.get? b=some o:=e
   rw [e] at h1; cases h1
   exact h2.elim (fun z=>n (.inr z)) fun z=>z hh) e,n⟩,⟨[],by simp [wdOf]⟩,rfl⟩
 refine ⟨⟨L.frames,Zc1 (C:=C) (fun b o ho hb hd=>⟨o,k b o (fun q=>x.fs (q▸hb)) ho,hd⟩) C.fe (fun b hb=>hb) L.funs,fun b o e=>k b o (Zbf e x.base) (L.stays b o e),L.off,L.new,L.handled,fun b hb=>?_,L.depth,L.units,fun a ha=>?_,L.poff⟩,R.keep (l:=C.pv.1) K (fun a f=>?_),m,cm,E.keep rfl (fun _ q=>q) (fun o ho=>⟨o.slots,k _ o (fun q=>x.own (.inl q.symm)) ho⟩) (fun n c o e ho=>k c o (fun q=>x.own (.inr ⟨n,q▸e⟩)) ho) K fun a o _ _ n=>n⟩
 ·refine x3_2 (L.dicts b hb) fun o es ep ho hd=>?_
  exact ⟨o,es,ep,k b o (fun q=>x.fs (q▸hb)) ho,hd⟩
 ·by_cases q:a=it
  ·exact q▸he (q▸ha)
  ·obtain ⟨o,ho⟩:=L.priv a ha
   exact ⟨o,k a o q ho⟩
 ·obtain ⟨o,ho⟩:=R.there f
  exact (k a o (fun q=>x.foot (q▸f)) ho).trans ho.symm
theorem Step.but {W:Addr→Prop} {tk:Nat} (x:Step C W s M s' M') (hn:s.heap.get? it=none) (k:∀ b o,b≠it→s'.heap.get? b=some o→h'.get? b=some o):Step C W s M { s' with heap:=h',toks:=tk } M' where
 keep:=fun b o e n m f=>k b o (Zbf e hn) (x.keep b o e n m f)
 slots:=fun b o e f m=>by
  obtain ⟨sl,h1⟩:=x.slots b o e f m
  exact ⟨sl,k b _ (Zbf e hn) h1⟩
 alive:=fun b o e=>by
  obtain ⟨o',e'⟩:=x.alive b o e
  exact ⟨o',k b o' (Zbf e hn) e'⟩
 pre:=x.pre
 grow:=x.grow
 gens:=x.gens
 os:=x.os
theorem Aside.step (x:Aside C env s.heap M it) (y:Step C (OwnW env) s M s' M'):Aside C env s'.heap M' it:=by
 obtain ⟨⟨o,h1,h2⟩,nf,nfs,nW,nb⟩:=x
 exact ⟨⟨o,y.keep it o h1 (fun q=>absurd q nf) nW nfs,h2⟩,y.not h1 nf,nfs,nW,nb⟩
theorem Aside.keepObj {o:Obj} (x:Aside C env s.heap M it) (y:Step C (OwnW env) s M s' M') (e:s.heap.get? it=some o):s'.heap.get? it=some o:=y.keep it o e (fun q=>absurd q x.foot) x.own x.fs
theorem St.own0 (st:St C env ns ρ s M H) {a:Addr} (h0:s.heap.get? a=none):¬ OwnW env a:=by
 refine x2_1 (st.env) fun m cm E=>?_
 rintro (q | ⟨n,q⟩)
 ·obtain ⟨o',_,_,ho,_⟩:=E.loc; rw [← q,h0] at ho; cases ho
 ·obtain ⟨⟨o',ho,_⟩,_⟩:=E.cell n _ q; rw [h0] at ho; cases ho
theorem Aside.new {o:Obj} (st:St C env ns ρ s M H) (h0:s.heap.get? it=none) (h1:h'.get? it=some o) (hh:¬ Held o):Aside C env h' M it :=
 ⟨⟨o,h1,.inr hh⟩,st.rep.off h0,st.live.fs0 h0,st.own0 h0,st.live.base0 h0⟩
theorem ZlH {o:Obj} {T:String} (hc:o.cls=.type T) (hT:¬ (T = "tuple" ∨ T = "list" ∨ T = "range")):¬ Held o:=fun h=>hT (h.2 T hc)
theorem Zkq {ρ:RE} {i j:Nat} {a:Option AV} (hi:i<ρ.length):(ρ.set i a)[j]?=if i=j then some a else ρ[j]?:=by
 rw [List.getElem?_set]
 split
 ·rename_i q; subst q; simp [hi]
 ·rfl
theorem Zdy {W:Addr→Prop} {tk:Nat} {c:Addr} (hc:W c) (k:Heap.SameBut c s.heap h') (hl:∃ o,h'.get? c=some o):Step C W s M { s with heap:=h',toks:=tk } M where
 keep:=fun b o e _ w _=>(k.2 b (fun q=>w (q▸hc))).trans e
 slots:=fun b o e _ w=>⟨o.slots,(k.2 b (fun q=>w (q▸hc))).trans e⟩
 alive:=fun b o e=>by
  by_cases q:b=c
  ·subst q; exact hl
  ·exact ⟨o,(k.2 b q).trans e⟩
 pre:=⟨[],by simp⟩
 grow:=fun _ q=>.inl q
 gens:=rfl
 os:=rfl
theorem Ze1 {c:Addr} (E:EnvAt C env ns ρ s.heap (C.wd s.heap M) m cm) (L:Live C s.heap M) (R:Rep C.S C.pv s.heap M H) (hc:OwnW env c) (k:Heap.SameBut c s.heap h') (hl:∃ o,h'.get? c=some o) (hd:c∈C.fs→∃ o es ep,h'.get? c=some o∧o.data=.dict es ep) :
  Kp (C.wd s.heap M) (C.wd h' M)∧Live C h' M∧Rep C.S C.pv h' M H:=by
 have x:Step C (OwnW env) s M { s with heap:=h',toks:=s.toks } M:=Zdy hc k hl
 have K:Kp (C.wd s.heap M) (C.wd h' M):=x.kp L E.vars
 refine ⟨K,⟨L.frames,Zc1 (C:=C) (fun b o ho hb hd'=>?_) C.fe (fun b hb=>hb) L.funs,fun b o e=>(k.2 b (Zbf e (E.off c hc).2)).trans (L.stays b o e),L.off,L.new,L.handled,fun b hb=>?_,L.depth,L.units,fun a ha=>?_,L.poff⟩,R.keep (l:=C.pv.1) K fun a f=>k.2 a fun q=>(E.off c hc).1 (q▸f)⟩
 ·by_cases q:b=c
  ·subst q
   refine x3_2 (hd hb) fun o' es ep h1 h2=>?_
   exact ⟨o',h1,fun vs z=>by rw [h2] at z; cases z⟩
  ·exact ⟨o,(k.2 b q).trans ho,hd'⟩
 ·by_cases q:b=c
  ·exact q▸hd (q▸hb)
  ·refine x3_2 (L.dicts b hb) fun o es ep h1 h2=>?_
   exact ⟨o,es,ep,(k.2 b q).trans h1,h2⟩
 ·obtain ⟨o,ho⟩:=L.priv a ha
  exact x.alive a o ho
theorem ZdC {i:Nat} {x:Str} {o:Option AV} {tk:Nat} {m':Str→Option Value} (st:St C env ns ρ s M H) (E:EnvAt C env ns ρ s.heap (C.wd s.heap M) m cm) (hx:ns[i]?=some (some x)) (hk:env.kindOf x=some .local) (hn':h'.Ns env.locals m') (hs':Heap.SameBut env.locals s.heap h')
  (ho:∀ a,o=some a→∃ v,VRel (C.wd s.heap M) v a∧m' x=some v) (hm:∀ y,y≠x→m' y=m y):Step C (fun b=>b=env.locals) s M { s with heap:=h',toks:=tk } M∧St C env ns (ρ.set i o) { s with heap:=h',toks:=tk } M H:=by
 have hi:i<ρ.length:=by rw [E.len]; exact (gsi hx).1
 have hl:∃ o,h'.get? env.locals=some o:=x3_3 hn' fun o _ _ ho _ _=>⟨o,ho⟩
 obtain ⟨K,L',R'⟩:=Ze1 E st.live st.rep (.inl rfl) hs' hl fun _=>x3_3 hn' fun o es ep ho hd _=>⟨o,es,ep,ho,hd⟩
 refine ⟨Zdy rfl hs' hl,L',R',m',cm,E.fn,E.glob,E.bns,hn',E.off,E.inj,by rw [List.length_set]; exact E.len,E.has,fun n c hc=>?_,E.apart,fun j y b h1 h2=>?_⟩
 ·obtain ⟨⟨o,c1,c1'⟩,c2,c3⟩:=E.cell n c hc
  exact ⟨⟨o,(hs'.2 c c3).trans c1,c1'⟩,c2,c3⟩
 ·rw [Zkq hi] at h2
  split at h2
  ·rename_i q; subst q
   rw [hx] at h1
   cases h1
   refine x1_2 (ho b (Option.some.inj h2)) fun v rv hv=>?_
   exact ⟨v,rv.keep K,.inl ⟨hk,hv⟩⟩
  ·rename_i q
   refine x1_2 (E.var j y b h1 h2) fun u ru hu=>?_
   exact ⟨u,ru.keep K,hu.imp (fun z=>⟨z.1,(hm y fun z=>q (E.inj i j x hx (z▸h1))).trans z.2⟩) id⟩
theorem ZdU {i:Nat} {x:Str} {v:Value} {a:AV} {P:Unit→Shared→Prop} {E:Value→Shared→Prop} (st:St C env ns ρ s M H) (hx:ns[i]?=some (some x)) (hk:env.kindOf x=some .local∨env.kindOf x=some .cell)
  (rv:VRel (C.wd s.heap M) v a) (h:∀ s',Step C (OwnW env) s M s' M→St C env ns (ρ.set i (some a)) s' M H→P () s'):wpAny C.S.M C.A (storeName env x v) P E s:=by
 refine x2_1 (st.env) fun m cm En=>?_
 rcases hk with hk | hk
 ·refine wpAny_storeName_local hk En.loc (fun h' hn' hs'=>?_) (by rw [En.fn]; rfl)
  obtain ⟨x1,st1⟩:=ZdC (o:=some a) (tk:=s.toks+1) st En hx hk hn' hs' (fun b e=>⟨v,Option.some.inj e▸rv,by simp⟩) fun y hy=>by simp [hy]
  exact h _ (x1.wider fun _ q=>.inl q) st1
 obtain ⟨c,hc⟩:=En.has x (.inl hk)
 refine x0_3 (En.cell x c hc) fun c1 c3 c4=>?_
 refine wpAny_storeName_cell En.fn hk hc c1 fun h' hc' hs'=>?_
 have hi:i<ρ.length:=by rw [En.len]; exact (gsi hx).1
 have hl:∃ o,h'.get? c=some o:=let ⟨o,ho,_⟩:=hc'; ⟨o,ho⟩
 have x1:Step C (OwnW env) s M { s with heap:=h' } M:=Zdy (W:=OwnW env) (tk:=s.toks) (.inr ⟨x,hc⟩) hs' hl
 refine x0_3 (Ze1 En st.live st.rep (.inr ⟨x,hc⟩) hs' hl fun q=>absurd q c3) fun K L' R'=>?_
 refine h _ x1 ⟨L',R',m,(fun y=>if y=x then some v else cm y),En.fn,En.glob,En.bns,En.loc.sameBut hs' (Ne.symm c4),En.off,En.inj,by rw [List.length_set]; exact En.len,En.has,fun n b hb=>?_,En.apart,fun j y b h1 h2=>?_⟩
 ·obtain ⟨⟨o,e1,e1'⟩,e3,e4⟩:=En.cell n b hb
  by_cases q:n=x
  ·subst q
   rw [hc] at hb; cases hb
   exact ⟨by simpa using hc',e3,e4⟩
  ·have hne:b≠c:=fun z=>q (En.apart n x c (z▸hb) hc)
   exact ⟨⟨o,(hs'.2 b hne).trans e1,by simpa [q] using e1'⟩,e3,e4⟩
 ·rw [Zkq hi] at h2
  split at h2
  ·rename_i q; subst q
   rw [hx] at h1
   cases h1
   cases h2
   exact ⟨v,rv.keep K,.inr ⟨.inl hk,⟨c,hc⟩,by simp⟩⟩
  ·rename_i q
   refine x1_2 (En.var j y b h1 h2) fun u ru hu=>?_
   refine ⟨u,ru.keep K,hu.imp id fun z=>⟨z.1,z.2.1,?_⟩⟩
   have:y≠x:=fun z=>q (En.inj i j x hx (z▸h1))
   simp [this,z.2.2]
end
section
variable {S:Stat} {pv:List Addr×List Addr} {h:Heap} {M:Mp} {H:AH} {v:Value} {a:AV}
theorem ZlA {xs:List AV} (e:lsOf H a=some xs):a=.lst xs∨∃ n,a=.ref n∧H[n]?=some (.lst xs):=by
 cases a<;>first | exact Zad e | skip
 ·cases e; exact .inl rfl
 ·rename_i n
  cases q:H[n]? with
  | none=>rw [Zg3 q] at e; cases e
  | some ao =>
   rw [Zg3 q] at e
   cases ao<;>cases e
   exact .inr ⟨n,rfl,q⟩
theorem Zk5 {n:Nat} {es:List (Key×AV)} (e:dcOf H a=some (n,es)):a=.ref n∧(H[n]?=some (.dict es)∨H[n]?=some (.ldict es)):=by
 cases a<;>first | exact Zad e | skip
 rename_i n
 cases q:H[n]? with
 | none=>rw [ZaN q] at e; cases e
 | some ao =>
  rw [ZaN q] at e
  cases ao<;>cases e
  ·exact ⟨rfl,.inl q⟩
  ·exact ⟨rfl,.inr q⟩
theorem ZeK {xs:List AV} (R:Rep S pv h M H) (r:VRel (wdOf S pv h M) v a) (e:lsOf H a=some xs):∃ l vs n,v=.ref l∧IsL h l vs n∧VRels (wdOf S pv h M) vs.toList xs:=by
 rcases ZlA e with rfl | ⟨n,rfl,q⟩
 ·refine x3_4 (r.inv) fun l vs n hv ho _ rs=>?_
  exact ⟨l,vs,n,hv,ho,rs⟩
 ·refine x1_2 (r.inv) fun p hv z=>?_
  obtain ⟨_,vs,n,ho,hr⟩:=R.obj _ _ _ z q
  exact ⟨p.1,vs,n,hv,ho,hr⟩
theorem ZeG {n:Nat} {es:List (Key×AV)} (R:Rep S pv h M H) (r:VRel (wdOf S pv h M) v a) (e:dcOf H a=some (n,es)) :
  ∃ (p:Addr×Addr) (kvs:List (Key×Value)),v=.ref p.1∧M[n]?=some p∧p.2=p.1∧h.DictOf (kk S.prog S.w) p.1 kvs∧kvs.map (·.1)=es.map (·.1)∧VRels (wdOf S pv h M) (kvs.map (·.2)) (es.map (·.2))∧∀ e∈es,e.1.ok=true:=by
 obtain ⟨rfl,q⟩:=Zk5 e
 refine x1_2 (r.inv) fun p hv z=>?_
 rcases q with q | q
 ·obtain ⟨e2,kvs,hd⟩:=R.obj _ _ _ z q
  exact ⟨p,kvs,hv,z,e2,hd⟩
 ·obtain ⟨e2,kvs,hd⟩:=R.obj _ _ _ z q
  exact ⟨p,kvs,hv,z,e2,hd⟩
end
section
variable {C:Cx} {s:Shared} {M:Mp} {H:AH} {v u:Value} {a b:AV}
theorem Zaq (h:Heap):h.get? h.objs.size=none:=by
 cases e:h.get? h.objs.size with
 | none=>rfl
 | some o=>exact absurd (Heap.lt_size e) (Nat.lt_irrefl _)
theorem ZfA (rp:Rep C.S C.pv s.heap M H) (L:Live C s.heap M) {r:Addr} (hr:s.heap.get? r=none) {h':Heap}:¬ (C.wd h' M).F r:=fun q=>q.elim (rp.off hr) (L.pv0 hr)
theorem Zfz {mt:Bool} {h':Heap} {r:Addr} {vs:Array Value} {n tk:Nat} {xs:List AV} {P:Value→Shared→Prop} (L:Live C s.heap M) (rp:Rep C.S C.pv s.heap M H) (k:∀ b o,s.heap.get? b=some o→h'.get? b=some o) (hr:s.heap.get? r=none)
  (hl:IsL h' r vs n) (rl:VRels (C.wd s.heap M) vs.toList xs) {y:AV} {H':AH} (e:newL mt xs H=.ok y H'):Post VRel C s M y H' (.ref r) { s with heap:=h',toks:=tk }:=by
 cases mt with
 | false=>cases e; have q:=rl.keep (ZdB k); exact Zb5 rp k (.lst hl (ZfA rp L hr) q.1 q.2) tk
 | true =>
  cases e
  have K:=ZjM (S:=C.S) (pv:=C.pv) (M:=M) (p:=(r,r)) k hr hr
  refine ⟨M++[(r,r)],Step.new k hr hr,rp.newO (fun a q=>L.priv a (.inr q)) (fun _ q=>nomatch q) k hr hr ⟨rfl,vs,n,hl,rl.keep K⟩,?_⟩
  refine .ref (p:=(r,r)) (n:=H.length) ?_
  show (M++[(r,r)])[H.length]?=_
  rw [← rp.len]; simp
theorem ZlD {mt:Bool} {xs:List AV}:∀ c H',newL mt xs H≠.exc c H':=fun c H' e=>by cases mt<;>cases e
theorem Zee {mt:Bool} {xs:List AV} {t:Sem Value} (L:Live C s.heap M) (rp:Rep C.S C.pv s.heap M H) (h:∀ {P:Value→Shared→Prop} {E:Value→Shared→Prop},(∀ r vs n h' tk,(∀ b o,s.heap.get? b=some o→h'.get? b=some o)→s.heap.get? r=none→IsL h' r vs n→VRels (C.wd s.heap M) vs.toList xs→P (.ref r) { s with heap:=h',toks:=tk })→wpAny C.S.M C.A t P E s):Ev VRel C t s M (newL mt xs H) :=
 Ev.of (fun y H' e k=>h fun r vs n h' tk k1 h0 hl rl=>k _ _ (Zfz (P:=fun _ _=>True) L rp k1 h0 hl rl e)) ZlD
theorem Znl {o:Obj} {vs:Array Value} {n:Nat} {xs:List AV} (L:Live C s.heap M) (rp:Rep C.S C.pv s.heap M H) (r:VRels (C.wd s.heap M) vs.toList xs) (e:o={ cls:=.type "tuple", data:=.seq vs n }):VRel (C.wd (s.heap.push o) M) (.ref s.heap.objs.size) (.tup xs):=by
 subst e
 have q:=r.keep (ZdB (h':=s.heap.push { cls:=.type "tuple", data:=.seq vs n }) fun b o e=>Heap.get?_push_of_some _ e)
 exact .tup (Heap.get?_push_size _ rfl) (ZfA rp L (Zaq _)) q.1 q.2
theorem VRels.rep {w:Wd} {vs:List Value} {xs:List AV} (r:VRels w vs xs):∀ n:Nat,VRels w (List.replicate n vs).flatten (List.replicate n xs).flatten
 | 0=>.nil
 | n+1=>by rw [List.replicate_succ,List.replicate_succ,List.flatten_cons,List.flatten_cons]; exact r.append (r.rep n)
theorem ZgU {l:Addr} {vs:Array Value} {n:Nat} {xs:List AV} {j:Int} {t:Tok} (L:Live C s.heap M) (rp:Rep C.S C.pv s.heap M H) (hl:IsL s.heap l vs n) (rl:VRels (C.wd s.heap M) vs.toList xs) (hq:-1000<j∧j<1000∧xs.length<1000):Ev VRel C (binaryOp .Mult (.ref l) (.int j t)) s M (.ok (.lst (List.replicate j.toNat xs).flatten) H):=by
 have hz:vs.size*j.toNat<1000000:=by
  have h1:vs.size≤999:=by rw [rl.size]; lia -abstractProof
  have h2:j.toNat≤999:=by lia -abstractProof
  have:=Nat.mul_le_mul h1 h2
  lia -abstractProof
 refine wpAny_binaryOp_repeat_ref (T := "list") (U := "int") (by decide) ⟨_,hl,rfl⟩ (fun s'=>typeIs_int s' j t) noFill_list_mul F.fills_int_mul F.slot_int_rmul repeat_list F.slot_int_index.lookup
  (call_meets F.slot_int_rmul (typeIs_int s j t) F.entry_int_rmul (F.args_int_rmul_2 _ _) (int___rmul___int_list j t l vs n)
   ⟨hl,rfl,⟨_,hl,rfl⟩,call_meets F.slot_list_mul ⟨_,hl,rfl⟩ F.entry_list_mul (F.args_list_mul_2 _ _)
    (AutoListH.list___mul___list_int_3 l vs n j t (by simp [Builtin.List.listFitsIndex]; lia -abstractProof) (by lia -abstractProof) (by simp [Builtin.List.listTooLong,sizeLine]; lia -abstractProof)) ⟨hl,?_⟩⟩)
 refine Zfz (mt:=false) (P:=fun _ _=>True) (n:=0) L rp (fun b o e=>Heap.get?_push_of_some _ e) (Zaq _) (Heap.get?_push_size _ rfl) ?_ rfl
 rw [listMul_foldl]
 simp only [List.nil_append]
 split
 ·rename_i q
  have hv:vs=#[]:=by simpa using q
  subst hv
  have:xs=[]:=List.eq_nil_of_length_eq_zero (rl.1.symm.trans rfl)
  subst this
  simpa using VRels.nil
 ·exact rl.rep _
theorem ZlK {mt:Bool} (L:Live C s.heap M) (rp:Rep C.S C.pv s.heap M H) (ra:VRel (C.wd s.heap M) v a) (rb:VRel (C.wd s.heap M) u b):Ev VRel C (binaryOp .Add v u) s M (addA mt a b H):=by
 have lists:Ev VRel C (binaryOp .Add v u) s M (orBad (lsOf H a) fun xs=>orBad (lsOf H b) fun ys=>if xs.length+ys.length≤sizeLine then newL mt (xs++ys) H else .bad):=by
  refine Ev.orBad fun xs e1=>Ev.orBad fun ys e2=>Ev.ite fun hz=>?_
  refine x3_3 (ZeK rp ra e1) fun l vs n e3' hl rl=>?_; subst e3'
  refine x3_3 (ZeK rp rb e2) fun l' ws n' e3' hl' rl'=>?_; subst e3'
  refine Zee L rp fun k=>P.add_list hl hl' (k _ (vs++ws) _ _ _ (fun b o e=>Heap.get?_push_of_some _ e) (Zaq _) (Heap.get?_push_size _ rfl) (by simpa using rl.append rl')) ?_
  rw [rl.size,rl'.size]; exact hz
 cases a with
 | int i =>
  refine Ev.asInt fun j e=>?_
  subst e
  obtain ⟨t,rfl⟩:=ra.inv
  obtain ⟨t',rfl⟩:=rb.inv
  exact add_int (Zao rp (.int _ _) _)
 | str x =>
  refine Ev.asStr fun j e=>Ev.ite fun hz=>?_
  subst e
  refine x1_2 (ra.inv) fun t e1' ok=>?_; subst e1'
  refine x1_2 (rb.inv) fun t' e1' ok'=>?_; subst e1'
  exact PyProof.Rows.add_str (fun t' tk=>Zao rp (.str _ _ (Zgu ok ok')) _) hz
 | _=>exact lists
theorem ZlN (L:Live C s.heap M) (rp:Rep C.S C.pv s.heap M H) (ra:VRel (C.wd s.heap M) v a) (rb:VRel (C.wd s.heap M) u b):Ev VRel C (binaryOp .Mult v u) s M (mulA a b H):=by
 refine Ev.asInt fun j e=>?_
 subst e
 obtain ⟨t',rfl⟩:=rb.inv
 cases a with
 | int i=>obtain ⟨t,rfl⟩:=ra.inv; exact Ev.ite fun hq=>PyProof.Rows.mul_int (Zao rp (.int _ _) _) (hq.elim (fun q=>.of_left (intBits_le_64 q.1 q.2)) fun q=>.of_right (intBits_le_64 q.1 q.2))
 | lst xs=>refine x3_4 (ra.inv) fun l vs n e3' ho _ rs=>?_; subst e3'; exact Ev.ite fun hq=>ZgU L rp ho rs hq
 | _=>trivial
theorem ZlL {mt:Bool} {op:Operator} (L:Live C s.heap M) (rp:Rep C.S C.pv s.heap M H) (ra:VRel (C.wd s.heap M) v a) (rb:VRel (C.wd s.heap M) u b):Ev VRel C (binaryOp op v u) s M (binA mt op a b H):=by
 cases op with
 | Add=>exact ZlK L rp ra rb
 | Mult=>exact ZlN L rp ra rb
 | Sub =>
  refine Ev.asInt fun i e1=>Ev.asInt fun j e2=>?_
  subst e1 e2
  obtain ⟨t,rfl⟩:=ra.inv
  obtain ⟨t',rfl⟩:=rb.inv
  exact PyProof.Rows.sub_int (Zao rp (.int _ _) _)
 | FloorDiv =>
  refine Ev.asInt fun i e1=>Ev.asInt fun j e2=>Ev.ite fun h=>?_
  subst e1 e2
  obtain ⟨t,rfl⟩:=ra.inv
  obtain ⟨t',rfl⟩:=rb.inv
  refine PyProof.Rows.floordiv_int (Int.ne_of_gt h.1) ?_ (.inl (PyProof.noPylong_small (Int.ofNat_lt.mp (by rw [Int.natAbs_of_nonneg (Int.le_of_lt h.1)]; exact h.2))))
  rw [Int.fdiv_eq_ediv_of_nonneg _ (Int.le_of_lt h.1)]
  exact Zao rp (.int _ _) _
 | Mod =>
  refine Ev.asInt fun i e1=>Ev.asInt fun j e2=>Ev.ite fun h=>?_
  subst e1 e2
  obtain ⟨t,rfl⟩:=ra.inv
  obtain ⟨t',rfl⟩:=rb.inv
  refine PyProof.Rows.mod_int' (Int.ne_of_gt h.1) ?_
  rw [Int.fmod_eq_emod_of_nonneg _ (Int.le_of_lt h.1)]
  exact Zao rp (.int _ _) _
 | _=>trivial
end
section
variable {S:Stat} {pv:List Addr×List Addr} {h:Heap} {M:Mp} {H:AH}
def ReadsN (h:Heap) (n:Nat) (v:Value) (d:PyData):Prop:=∃ as,Reads h v d as∧d.canLay0=true∧d.depth≤n
theorem Zcc {n:Nat} {f:AV→Option PyData} {w:Wd}:∀ {xs:List AV} {vs:List Value} {ds:List PyData},(∀ a d v,f a=some d→VRel w v a→ReadsN w.h n v d)→denL f xs=some ds→VRels w vs xs→∃ bs,ReadsAll w.h vs ds bs∧PyData.canLayAll0 ds=true∧PyData.depthAll ds≤n
 | [],vs,ds,hf,e,r=>by
  cases e
  obtain rfl:=List.eq_nil_of_length_eq_zero r.1
  exact ⟨_,.nil,rfl,Nat.zero_le _⟩
 | a::xs,vs,ds,hf,e,r=>by
  refine x1_2 (qOb e) fun d hd e=>?_
  refine x1_2 (oms e) fun ds' hds e=>?_
  subst e
  cases vs with
  | nil=>cases r.1
  | cons v vs =>
   obtain ⟨r1,r2⟩:=r.un
   refine x1_3 (hf a d v hd r1) fun as q1 q2 q3=>?_
   refine x1_3 (Zcc hf hds r2) fun bs p1 p2 p3=>?_
   exact ⟨_,.cons q1 p1,by simp only [PyData.canLayAll0,q2,p2,Bool.and_self],by simp only [PyData.depthAll]; lia -abstractProof⟩
theorem ZbX (R:Rep S pv h M H):∀ (n:Nat) (a:AV) (d:PyData) (v:Value),den n H a=some d→VRel (wdOf S pv h M) v a→ReadsN h n v d
 | 0,_,_,_,e,_=>nomatch e
 | n+1,a,d,v,e,r=>by
  have ih:∀ a d v,den n H a=some d→VRel (wdOf S pv h M) v a→ReadsN (wdOf S pv h M).h n v d:=fun a d v=>ZbX R n a d v
  have ls:∀ {l:Addr} {vs:Array Value} {m:Nat} {xs:List AV},IsL h l vs m→VRels (wdOf S pv h M) vs.toList xs→(denL (den n H) xs).map PyData.list=some d→ReadsN h (n+1) (.ref l) d:=fun ho rs e=>by
   refine x1_2 (oms e) fun ds hd e2'=>?_; subst e2'
   refine x1_3 (Zcc ih hd rs) fun bs q1 q2 q3=>?_
   exact ⟨_,.list ho rfl rfl q1,q2,by simp only [PyData.depth]; lia⟩
  cases a with
  | none=>cases e; rw [show v=.none from r.inv]; exact ⟨_,.none,rfl,Nat.zero_le _⟩
  | bool b=>cases e; rw [show v=.bool b from r.inv]; exact ⟨_,.bool b,rfl,Nat.zero_le _⟩
  | int i=>cases e; obtain ⟨t,rfl⟩:=r.inv; exact ⟨_,.int i t,rfl,Nat.zero_le _⟩
  | str x=>cases e; obtain ⟨t,rfl,ok⟩:=r.inv; exact ⟨_,.str x t,ok,Nat.zero_le _⟩
  | tup xs =>
   refine x3_4 (r.inv) fun l vs m e3' ho _ rs=>?_; subst e3'
   refine x1_2 (oms e) fun ds hd e2'=>?_; subst e2'
   refine x1_3 (Zcc ih hd rs) fun bs q1 q2 q3=>?_
   exact ⟨_,.tuple ho rfl rfl q1,q2,by simp only [PyData.depth]; lia⟩
  | lst xs =>
   refine x3_4 (r.inv) fun l vs m e3' ho _ rs=>?_; subst e3'
   exact ls ho rs e
  | ref k =>
   refine x1_2 (r.inv) fun p e1' z=>?_; subst e1'
   cases q:H[k]? with
   | none=>rw [Zje q] at e; cases e
   | some ao =>
    rw [Zje q] at e
    cases ao with
    | lst xs =>
     obtain ⟨_,vs,m,ho,rs⟩:=R.obj _ _ _ z q
     exact ls ho rs e
    | _=>exact Zad e
  | rng a b=>exact Zad e
  | exc c=>exact Zad e
open Classical in
noncomputable def eqTo (h:Heap) (da:PyData) (y:Value):Bool:=if ∃ d as,Reads h y d as∧d.canLay0=true∧PyData.eqv d da=true then true else false
theorem Zjm {h:Heap} {da d:PyData} {y:Value} {as:List Addr} (r:Reads h y d as) (l:d.canLay0=true):eqTo h da y=PyData.eqv d da:=by
 unfold eqTo
 cases q:PyData.eqv d da with
 | true=>rw [if_pos ⟨d,as,r,l,q⟩]
 | false =>
  rw [if_neg]
  rintro ⟨d',as',r',l',q'⟩
  rw [SeqAt.Reads.unique d' d y as' as l' r' r,q] at q'; cases q'
theorem Zhp {h:Heap} {da:PyData}:∀ {vs:List Value} {ds:List PyData} {as:List Addr},ReadsAll h vs ds as→PyData.canLayAll0 ds=true→vs.any (eqTo h da)=(ds.any fun d=>PyData.eqv d da)∧∀ y∈vs,∃ d as,Reads h y d as∧d.canLay0=true
 | [],_,_,r,_=>by cases r; exact ⟨rfl,fun _ h=>nomatch h⟩
 | v::vs,_,_,r,l=>by
  cases r with
  | cons r rs =>
   simp only [PyData.canLayAll0,qBt] at l
   obtain ⟨h1,h2⟩:=Zhp (da:=da) rs l.2
   refine ⟨by simp only [List.any_cons,Zjm r l.1,h1],fun y hy=>?_⟩
   rcases List.mem_cons.mp hy with rfl | hy
   ·exact ⟨_,_,r,l.1⟩
   ·exact h2 y hy
end
theorem Zcs {w:Wd} {v:Value} {a:AV} {k:Key} (r:VRel w v a) (e:keyOf a=some k):k.is v=true∧k.ok=true:=by
 cases a<;>first | exact Zad e | skip
 ·cases e; obtain ⟨t,rfl⟩:=r.inv; exact ⟨by simp [Key.is,Value.isInt],rfl⟩
 ·cases e; obtain ⟨t,rfl,ok⟩:=r.inv; exact ⟨by simp [Key.is,Value.isStrOf],ok⟩
theorem ZbL {w:Wd}:∀ {kvs:List (Key×Value)} {es:List (Key×AV)},kvs.map (·.1)=es.map (·.1)→VRels w (kvs.map (·.2)) (es.map (·.2))→∀ k,
  (match es.lookup k with | some a=>∃ v,valueAt kvs k=some v∧VRel w v a | none=>valueAt kvs k=none)
 | [],[],_,_,k=>rfl
 | [],_::_,e,_,_=>by cases e
 | _::_,[],e,_,_=>by cases e
 | (k₁,v)::kvs,(k₂,a)::es,e,r,k=>by
  obtain ⟨r,rs⟩:=r.un
  injection e with e1 e
  have e1:k₁=k₂:=e1
  subst e1
  have ih:=ZbL e rs k
  by_cases q:k=k₁
  ·subst q; simp only [List.lookup_cons,beq_self_eq_true,valueAt,List.find?_cons,decide_true]; exact ⟨v,rfl,r⟩
  ·have hb:(k == k₁)=false:=by simpa using q
   have hb':(decide (k₁=k))=false:=by simpa using fun e=>q e.symm
   simp only [List.lookup_cons,hb,valueAt,List.find?_cons,hb']
   exact ih
theorem Zit (es:List (Key×AV)) (k:Key):(es.any fun e=>decide (e.1=k))=(es.lookup k).isSome:=by
 induction es with
 | nil=>rfl
 | cons e r ih =>
  obtain ⟨k',a⟩:=e
  by_cases q:k=k'
  ·subst q; simp
  ·have hb:(k == k')=false:=by simpa using q
   have hb':(decide (k'=k))=false:=by simpa using fun e=>q e.symm
   simp only [List.any_cons,hb',Bool.false_or,List.lookup_cons,hb,ih]
theorem ZeM {w:Wd} {kvs:List (Key×Value)} {es:List (Key×AV)} (e:kvs.map (·.1)=es.map (·.1)) (r:VRels w (kvs.map (·.2)) (es.map (·.2))) (k:Key):(valueAt kvs k).isSome=es.any fun e=>decide (e.1=k):=by
 rw [Zit]
 have:=ZbL e r k
 split at this
 ·rename_i a q; obtain ⟨w,hw,_⟩:=this; rw [hw,q]; rfl
 ·rename_i q; rw [this,q]; rfl
theorem Live.notSys {C:Cx} {h:Heap} {M:Mp} (L:Live C h M) {r:Addr} (f:foot M r):(r == sysModules)=false:=by
 have h1:=L.new r f
 obtain ⟨mm,⟨o,es,ep,ho,_⟩,_⟩:=C.S.seer.mods
 simp only [beq_eq_false_iff_ne]
 intro e
 subst e
 rw [h1] at ho; cases ho
section
variable {C:Cx} {s:Shared} {M:Mp} {H:AH} {v u:Value} {a b:AV}
theorem ZjV {a b:AV} {r:Bool} (e:ltA a b=some r):(∃ i j,a=.int i∧b=.int j∧r=decide (i<j))∨∃ x y,a=.str x∧b=.str y∧r=decide (x.cps.toList<y.cps.toList):=by
 cases a<;>first | exact Zad e | skip
 ·cases b<;>first | exact Zad e | skip
  exact .inl ⟨_,_,rfl,rfl,(Option.some.inj e).symm⟩
 ·cases b<;>first | exact Zad e | skip
  exact .inr ⟨_,_,rfl,rfl,(Option.some.inj e).symm⟩
theorem ZjO {a b:AV} {r:Bool} (e:leA a b=some r):(∃ i j,a=.int i∧b=.int j∧r=decide (i≤j))∨∃ x y,a=.str x∧b=.str y∧r=!decide (y.cps.toList<x.cps.toList):=by
 cases a<;>first | exact Zad e | skip
 ·cases b<;>first | exact Zad e | skip
  exact .inl ⟨_,_,rfl,rfl,(Option.some.inj e).symm⟩
 ·cases b<;>first | exact Zad e | skip
  exact .inr ⟨_,_,rfl,rfl,(Option.some.inj e).symm⟩
theorem Zc6 {w:Wd} {r:Bool} (ra:VRel w v a) (rb:VRel w u b) (e:isA a b=some r):plainIs v u=true∧r=(v == u):=by
 cases b<;>first | exact Zad e | skip
 ·rw [show u=.none from rb.inv]
  cases a<;>first | exact Zad e | skip
  ·cases e; rw [show v=.none from ra.inv]; exact ⟨rfl,rfl⟩
  ·cases e; refine x3_2 ra.inv fun l vs n e z=>?_; subst e; exact ⟨rfl,rfl⟩
  ·cases e; refine x3_2 ra.inv fun l vs n e z=>?_; subst e; exact ⟨rfl,rfl⟩
 ·rename_i y
  rw [show u=.bool y from rb.inv]
  cases a<;>first | exact Zad e | skip
  ·rename_i x
   cases e; rw [show v=.bool x from ra.inv]
   cases x<;>cases y<;>exact ⟨rfl,rfl⟩
  ·cases e; refine x1_2 ra.inv fun p e z=>?_; subst e; exact ⟨rfl,rfl⟩
theorem Zkg {r:Bool} {P:Value→Shared→Prop} {E:Value→Shared→Prop} (ra:VRel (C.wd s.heap M) v a) (rb:VRel (C.wd s.heap M) u b) (e:ltA a b=some r) (h:P (.bool r) s):wpAny C.S.M C.A (compareOp .Lt v u) P E s∧wpAny C.S.M C.A (compareOp .Gt u v) P E s:=by
 rcases ZjV e with ⟨i,j,rfl,rfl,rfl⟩ | ⟨x,y,rfl,rfl,rfl⟩
 ·obtain ⟨_,rfl⟩:=ra.inv; obtain ⟨_,rfl⟩:=rb.inv; exact ⟨PyProof.Rows.lt_int h,PyProof.Rows.gt_int h⟩
 ·obtain ⟨_,rfl,_⟩:=ra.inv; obtain ⟨_,rfl,_⟩:=rb.inv; exact ⟨PyProof.Rows.lt_str h,PySem.P.gt_str h⟩
theorem Zkf {r:Bool} {P:Value→Shared→Prop} {E:Value→Shared→Prop} (ra:VRel (C.wd s.heap M) v a) (rb:VRel (C.wd s.heap M) u b) (e:leA a b=some r) (h:P (.bool r) s):wpAny C.S.M C.A (compareOp .LtE v u) P E s∧wpAny C.S.M C.A (compareOp .GtE u v) P E s:=by
 rcases ZjO e with ⟨i,j,rfl,rfl,rfl⟩ | ⟨x,y,rfl,rfl,rfl⟩
 ·obtain ⟨_,rfl⟩:=ra.inv; obtain ⟨_,rfl⟩:=rb.inv; exact ⟨PyProof.Rows.le_int h,PyProof.Rows.ge_int h⟩
 ·obtain ⟨_,rfl,_⟩:=ra.inv; obtain ⟨_,rfl,_⟩:=rb.inv; exact ⟨PySem.P.le_str h,PySem.P.ge_str h⟩
theorem Zkd {r:Bool} {P:Value→Shared→Prop} {E:Value→Shared→Prop} (L:Live C s.heap M) (rp:Rep C.S C.pv s.heap M H) (ra:VRel (C.wd s.heap M) v a) (rb:VRel (C.wd s.heap M) u b) (e:eqA H a b=some r):(P (.bool r) s→wpAny C.S.M C.A (compareOp .Eq v u) P E s)∧(P (.bool (!r)) s→wpAny C.S.M C.A (compareOp .NotEq v u) P E s):=by
 refine x1_2 (qOb e) fun da h1 e=>?_
 refine x1_2 (oms e) fun db h2 e=>?_
 refine x1_3 (ZbX rp _ _ _ _ h1 ra) fun as r1 l1 d1=>?_
 refine x1_3 (ZbX rp _ _ _ _ h2 rb) fun bs r2 l2 d2=>?_
 have hu:C.A.units+min da.depth db.depth<cLine:=by have:=L.units; have:deep=20:=rfl; lia -abstractProof
 subst e
 exact ⟨SeqAt.compareEq_reads r1 r2 l1 l2 hu,SeqAt.compareNe_reads r1 r2 l1 l2 hu⟩
theorem Zke {r:Bool} {P:Value→Shared→Prop} {E:Value→Shared→Prop} (L:Live C s.heap M) (rp:Rep C.S C.pv s.heap M H) (ra:VRel (C.wd s.heap M) v a) (rb:VRel (C.wd s.heap M) u b) (e:inA H a b=some r) :
  ((∀ t,P (.bool r) { s with toks:=t })→wpAny C.S.M C.A (compareOp .In v u) P E s)∧((∀ t,P (.bool (!r)) { s with toks:=t })→wpAny C.S.M C.A (compareOp .NotIn v u) P E s):=by
 unfold inA at e
 split at e
 ·rename_i n es q
  refine x1_2 (oms e) fun k hk e2'=>?_; subst e2'
  refine x2_7 (ZeG rp rb q) fun p kvs e2' z _ hm e1 e2 _=>?_; subst e2'
  have hs:=L.notSys (Zar z).1
  rw [← ZeM e1 e2 k]
  exact ⟨fun h=>wpAny_in_of (knd:=kk C.S.prog C.S.w) (Zcs ra hk).1 hs hm.mapOf (h _),fun h=>wpAny_notIn_of (knd:=kk C.S.prog C.S.w) (Zcs ra hk).1 hs hm.mapOf (h _)⟩
 ·split at e
  ·rename_i xs q
   refine x1_2 (qOb e) fun da h1 e=>?_
   refine x1_2 (oms e) fun ds h2 e2'=>?_; subst e2'
   refine x3_3 (ZeK rp rb q) fun l vs n e3' hl rl=>?_; subst e3'
   refine x1_3 (ZbX rp _ _ _ _ h1 ra) fun as rd la d1=>?_
   refine x1_3 (Zcc (fun a d v=>ZbX rp deep a d v) h2 rl) fun bs rds lds _=>?_
   obtain ⟨ea,hmem⟩:=Zhp (da:=da) rds lds
   have he:∀ y,y∈vs→SeqAt.EqAt C.A.in1 s y v (eqTo s.heap da y):=fun y hy=>by
    refine x2_2 (hmem y (by simpa using hy)) fun d' as' r' l'=>?_
    have e':eqTo s.heap da y=PyData.eqv d' da:=Zjm r' l'
    rw [e']
    refine SeqAt.eqAt_reads d' da C.A.in1 s y v as' as r' rd l' la ?_
    have:=L.units
    show C.A.units+1+min d'.depth da.depth<cLine
    have:=Nat.min_le_right d'.depth da.depth
    have:deep=20:=rfl
    lia
   have ea:vs.any (eqTo s.heap da)=ds.any fun d=>PyData.eqv d da:=by rw [← Array.any_toList]; exact ea
   rw [← ea]
   exact ⟨fun h=>SeqAt.in_listAt _ hl.isList he (h s.toks),fun h=>SeqAt.notIn_listAt _ hl.isList he (h s.toks)⟩
  ·cases e
theorem ZlM {op:CmpOp} {r:Bool} {P:Value→Shared→Prop} {E:Value→Shared→Prop} (L:Live C s.heap M) (rp:Rep C.S C.pv s.heap M H) (ra:VRel (C.wd s.heap M) v a) (rb:VRel (C.wd s.heap M) u b) (e:cmpA H op a b=some r) (h:∀ t,P (.bool r) { s with toks:=t }) :
  wpAny C.S.M C.A (compareOp op v u) P E s:=by
 have h':P (.bool r) s:=h s.toks
 cases op with
 | Lt=>exact (Zkg ra rb e h').1
 | LtE=>exact (Zkf ra rb e h').1
 | Gt=>exact (Zkg rb ra e h').2
 | GtE=>exact (Zkf rb ra e h').2
 | Eq=>exact (Zkd L rp ra rb e).1 h'
 | NotEq=>obtain ⟨r',e',rfl⟩:=oms e; exact (Zkd L rp ra rb e').2 h'
 | Is=>exact wpAny_is_plain (Zc6 ra rb e).1 ((Zc6 ra rb e).2▸h')
 | IsNot=>obtain ⟨r',e',rfl⟩:=oms e; exact wpAny_isNot_plain (Zc6 ra rb e').1 ((Zc6 ra rb e').2▸h')
 | In=>exact (Zke L rp ra rb e).1 h
 | NotIn=>obtain ⟨r',e',rfl⟩:=oms e; exact (Zke L rp ra rb e').2 h
end
theorem Ze3 {α:Type} (xs:List α) (a:Nat):∀ c:Nat,a+c≤xs.length→((List.range c).map fun k=>a+k).filterMap (fun i=>xs[i]?)=(xs.drop a).take c
 | 0,_=>by simp
 | c+1,h=>by
  rw [List.range_succ,qMa,List.filterMap_append,Ze3 xs a c (by lia -abstractProof)]
  have h1:xs[a+c]?=some xs[a+c]:=qGg (by lia -abstractProof)
  have h2:(xs.drop a)[c]?=some xs[a+c]:=by rw [List.getElem?_drop]; exact h1
  rw [List.take_add_one,h2]
  simp [h1]
theorem Zct (a b:Nat):sliceRange a b 1=(List.range (b-a)).map fun k=>a+k:=by
 unfold sliceRange
 have:(if (1:Int) > 0 then (if (a:Int)<b then ((b:Int)-a+1-1) / 1 else 0) else (if (a:Int) > b then ((a:Int)-b-1-1) / (-1) else 0)).toNat=b-a:=by
  simp only [show (1:Int) > 0 by decide,if_true]
  split<;>lia -abstractProof
 simp only [this]
 refine List.map_congr_left fun k _=>?_
 lia -abstractProof
theorem ZbN (k:Int) (n:Nat):((max 0 (min (if k<0 then k+n else k) (n:Int))))=((clip (some k) n 0:Nat):Int):=by
 unfold clip
 simp only
 split
 ·rename_i h
  have h':k+n≤n:=by have:=Int.add_le_add_right (Int.le_of_lt h) (n:Int); rwa [Int.zero_add] at this
  split
  ·rename_i g
   exact Int.max_eq_left (Int.le_trans (Int.min_le_left _ _) (Int.le_of_lt g))
  ·rename_i g
   rw [Int.min_eq_left h',Int.max_eq_right (Int.not_lt.mp g),Int.toNat_of_nonneg (Int.not_lt.mp g)]
 ·rename_i h
  have h0:=Int.not_lt.mp h
  split
  ·rename_i g
   rw [Int.min_eq_left (Int.le_of_lt g),Int.max_eq_right h0,Int.toNat_of_nonneg h0]
  ·rename_i g
   rw [Int.min_eq_right (Int.not_lt.mp g),Int.max_eq_right (Int.natCast_nonneg _)]
theorem Zfd (k:Option Int) (n d:Nat) (h:d≤n):clip k n d≤n:=by
 unfold clip
 split
 ·exact h
 ·split
  ·split<;>lia -abstractProof
  ·split<;>lia -abstractProof
theorem Zgo {α:Type} (xs:List α) (lo hi:Option Int) (a b:Int) (ha:a=(clip lo xs.length 0:Nat)) (hb:b=(clip hi xs.length xs.length:Nat)) :
  (sliceRange a b 1).filterMap (fun i=>xs[i]?)=cut xs lo hi:=by
 subst ha hb
 rw [Zct]
 unfold cut
 have h1:=Zfd lo xs.length 0 (Nat.zero_le _)
 have h2:=Zfd hi xs.length xs.length (Nat.le_refl _)
 refine Ze3 xs _ _ ?_
 rcases Nat.le_total (clip lo xs.length 0) (clip hi xs.length xs.length) with h | h
 ·rw [Nat.add_sub_cancel' h]; exact h2
 ·rw [Nat.sub_eq_zero_of_le h]; exact h1
theorem Zij (lo hi:Option Int) (n:Nat):sliceBounds lo hi none n=(((clip lo n 0:Nat):Int),((clip hi n n:Nat):Int),1):=by
 unfold sliceBounds
 cases lo<;>cases hi<;>simp only [Option.getD_none,show (1:Int) > 0 by decide,if_true]
 ·rfl
 ·rename_i k; rw [ZbN k n]; rfl
 ·rename_i k; rw [ZbN k n]; rfl
 ·rename_i k k'; rw [ZbN k n,ZbN k' n]; rfl
theorem Zgv (lo hi:Option Int) (n:Nat):Builtin.Str.strSliceIndices lo hi 1 n=sliceRange ((clip lo n 0:Nat):Int) ((clip hi n n:Nat):Int) 1:=by
 unfold Builtin.Str.strSliceIndices
 cases lo<;>cases hi<;>simp only [show (1:Int) > 0 by decide,if_true]
 ·rfl
 ·rename_i k; rw [ZbN k n]; rfl
 ·rename_i k; rw [ZbN k n]; rfl
 ·rename_i k k'; rw [ZbN k n,ZbN k' n]; rfl
theorem ZjF {k:Int} {n m:Nat} (h:idxA k n=some m):seqIndex? k n=some m:=by
 unfold idxA at h
 simp only [seqIndex?]
 split at h
 ·split at h
  ·cases h
   have e:(if k<0 then k+(n:Int) else k)=k:=if_neg (by lia -abstractProof)
   rw [e,if_pos (by simp; exact ⟨‹_›,‹_›⟩)]
  ·cases h
 ·split at h
  ·cases h
   have e:(if k<0 then k+(n:Int) else k)=k+n:=if_pos (by lia -abstractProof)
   rw [e,if_pos (by simp; lia -abstractProof)]
  ·cases h
theorem Zdg {k:Int} (h:small k=true):-(2^62:Int)<k∧k<2^62:=by
 unfold small at h
 rw [qBt,decide_eq_true_eq,decide_eq_true_eq] at h
 exact h
theorem Zhq {k:Int} {xs:List AV} {v:AV} (h:atA k xs=some v):(-(2^62:Int)<k∧k<2^62)∧∃ n,idxA k xs.length=some n∧xs[n]?=some v:=by
 unfold atA at h
 split at h
 ·rename_i q
  refine x1_2 (qOb h) fun n h1 h2=>?_
  exact ⟨Zdg q,n,h1,h2⟩
 ·cases h
section
variable {C:Cx} {s:Shared} {M:Mp} {H:AH} {v u:Value} {a b:AV}
theorem Zh1 (L:Live C s.heap M) (rp:Rep C.S C.pv s.heap M H) (ra:VRel (C.wd s.heap M) v a) (rb:VRel (C.wd s.heap M) u b):Ev VRel C (getItem v u) s M (subA a b H):=by
 unfold subA
 split
 ·rename_i n es q
  refine Ev.orBad fun k hk=>Ev.orBad fun x hx=>?_
  refine x2_7 (ZeG rp ra q) fun p kvs e2' z _ hm e1 e2 _=>?_; subst e2'
  have:=ZbL e1 e2 k
  rw [hx] at this
  refine x1_2 (this) fun w hw rw'=>?_; try clear this
  exact wpAny_getItem_of (knd:=kk C.S.prog C.S.w) (Zcs rb hk).1 hm.mapOf hw (Zao rp rw' _)
 ·refine Ev.asInt fun k e=>?_
  subst e
  obtain ⟨t,rfl⟩:=rb.inv
  have lists:Ev VRel C (getItem v (.int k t)) s M (orBad (lsOf H a) fun xs=>orBad (atA k xs) fun v=>.ok v H):=by
   refine Ev.orBad fun xs e=>Ev.orBad fun y hy=>?_
   obtain ⟨⟨lo,hi⟩,n,hn,hx⟩:=Zhq hy
   refine x3_3 (ZeK rp ra e) fun l vs m e3' hl rl=>?_; subst e3'
   refine x1_2 (rl.get n hx) fun y hy ry=>?_
   by_cases hk:0≤k
   ·have:n=k.toNat:=by unfold idxA at hn; rw [if_pos hk] at hn; split at hn<;>simp at hn; exact hn.symm
    subst this
    exact wpAny_getItem_list hl.isList hk (by lia) (by simpa using hy) (ZaC rp ry)
   ·have h1:0≤k+xs.length∧n=(k+xs.length).toNat:=by
     unfold idxA at hn; rw [if_neg hk] at hn; split at hn<;>simp at hn; exact ⟨by assumption,hn.symm⟩
    have hs:=rl.size
    refine wpAny_getItem_list_neg hl.isList (by lia) (by rw [hs]; lia) (by lia) ?_ (ZaC rp ry)
    rw [hs,← h1.2]; simpa using hy
  cases a with
  | tup xs =>
   refine Ev.orBad fun y hy=>?_
   obtain ⟨⟨lo,hi⟩,n,hn,hx⟩:=Zhq hy
   refine x3_4 (ra.inv) fun l vs m e3' ho _ rl=>?_; subst e3'
   refine x1_2 (rl.get n hx) fun y hy ry=>?_
   exact P.getItem_tuple ho (by lia) (by lia) (by rw [rl.size]; exact ZjF hn) (by simpa using hy) (ZaC rp ry)
  | str x =>
   refine Ev.ite fun q=>Ev.orBad fun c hc=>?_
   obtain ⟨lo,hi⟩:=Zdg q
   refine x1_2 (qOb hc) fun n hn hx=>?_
   refine x1_2 (ra.inv) fun t' e1' ok=>?_; subst e1'
   refine PyProof.Rows.getItem_str (c:=c) (by simp; lia) (by rw [ZjF hn]; exact hx) (Zao rp (.str _ _ (Zeu ok ?_)) _)
   intro d hd
   simp only [List.mem_singleton] at hd
   subst hd
   exact qMo (i:=n) (by rw [Array.getElem?_toList]; exact hx)
  | _=>exact lists
theorem Zge {w:Wd} {o:Option Int} (r:VRel w v a) (e:optI a=some o):∃ p:Option (Int×Tok),v=partValue p∧p.map (·.1)=o∧IsPart v o:=by
 cases a<;>first | exact Zad e | skip
 ·cases e; rw [show v=.none from r.inv]; exact ⟨none,rfl,rfl,.none⟩
 ·rename_i k
  obtain ⟨t,rfl⟩:=r.inv
  replace e:(if small k=true then some (some k) else none)=some o:=e
  split at e<;>cases e
  exact ⟨some (_,t),rfl,rfl,.int _ _⟩
theorem Zg7 (vs:Array Value) (is:List Nat):(is.filterMap (vs[·]?)).toArray.toList=is.filterMap fun i=>vs.toList[i]?:=by simp
theorem ZjH {a:AV} (h:a.isNone=true):a=.none:=by
 cases a with
 | none=>rfl
 | _=>exact Zco h
theorem ZlO {mt:Bool} {w₁ w₂ w₃:Value} {lo hi st:AV} (L:Live C s.heap M) (rp:Rep C.S C.pv s.heap M H) (ra:VRel (C.wd s.heap M) v a) (r1:VRel (C.wd s.heap M) w₁ lo) (r2:VRel (C.wd s.heap M) w₂ hi) (r3:VRel (C.wd s.heap M) w₃ st)
  {g:Addr} (hg:s.heap.IsSliceOf g w₁ w₂ w₃):Ev VRel C (getItem v (.ref g)) s M (slcA mt a lo hi st H):=by
 refine Ev.orBad fun l h1=>Ev.orBad fun u h2=>Ev.ite fun h3=>?_
 refine x1_3 (Zge r1 h1) fun p1 e1' e1 i1=>?_; subst e1'
 refine x1_3 (Zge r2 h2) fun p2 e1' e2 i2=>?_; subst e1'
 obtain rfl:=ZjH h3
 obtain rfl:w₃=.none:=r3.inv
 have lists:Ev VRel C (getItem v (.ref g)) s M (orBad (lsOf H a) fun xs=>if xs.length≤sizeLine then newL mt (cut xs l u) H else .bad):=by
  refine Ev.orBad fun xs e=>Ev.ite fun hz=>?_
  refine x3_3 (ZeK rp ra e) fun k vs m e3' hl rl=>?_; subst e3'
  refine Zee L rp fun k=>wpAny_getItem_list_slice hl.isList hg i1 i2 .none (fun q=>nomatch q) (k _ _ 0 _ _ (fun b o e=>Heap.get?_push_of_some _ e) (Zaq _) (Heap.get?_push_size _ rfl) ?_) (by rw [rl.size]; exact hz)
  rw [← Zgo xs l u _ _ rfl rfl]
  unfold slicePick
  rw [Zij,Zg7,rl.size]
  exact rl.pick _
 cases a with
 | str x =>
  refine Ev.ite fun hz=>?_
  refine x1_2 (ra.inv) fun t' e1' ok=>?_; subst e1'
  refine x1_3 (hg) fun o ho hc hd=>?_; try clear hg
  have hsub:∀ c∈cut x.cps.toList l u,c∈x.cps.toList:=fun c hc=>List.mem_of_mem_drop (List.mem_of_mem_take hc)
  have hok:PyData.strOk (⟨(cut x.cps.toList l u).toArray⟩:Str)=true:=Zeu ok (by simpa using hsub)
  have hp:slicePicked x p1 p2 none=sliceRange ((clip l x.length 0:Nat):Int) ((clip u x.length x.length:Nat):Int) 1:=by
   unfold slicePicked
   rw [e1,e2]
   exact Zgv l u x.length
  have hlen:x.cps.toList.length=x.length:=by simp [Str.length]
  have hc2:(slicePicked x p1 p2 none).filterMap (x.cps[·]?)=cut x.cps.toList l u:=by
   rw [hp,← Zgo x.cps.toList l u _ _ (by rw [hlen]) (by rw [hlen])]
   simp
  refine wpAny_getItem_str_slice (l:=p1) (u:=p2) (st:=none) ⟨o,ho,hc,hd⟩ rfl ?_
  unfold sliceMade
  split
  ·rename_i hh
   have hfull:cut x.cps.toList l u=x.cps.toList:=by
    simp only [Option.map_none,Option.getD_none,qBt,beq_iff_eq] at hh
    have h3:=hh.2
    rw [hp,Zct] at h3
    simp only [qLm,List.length_range] at h3
    have b1:=Zfd l x.length 0 (Nat.zero_le _)
    have b2:=Zfd u x.length x.length (Nat.le_refl _)
    unfold cut
    rw [hlen]
    have z1:clip l x.length 0=0∨x.length=0:=by
     rcases Nat.eq_zero_or_pos (clip l x.length 0) with z | z
     ·exact .inl z
     ·exact .inr (Nat.eq_zero_of_not_pos fun p=>Nat.lt_irrefl _ (Nat.lt_of_le_of_lt (Nat.le_trans (Nat.le_of_eq h3.symm) (Nat.sub_le_sub_right b2 _)) (Nat.sub_lt p z)))
    rcases z1 with z | z
    ·rw [z] at h3 ⊢
     simp only [List.drop_zero]
     exact List.take_of_length_le (Nat.le_of_eq (hlen.trans h3.symm))
    ·have:x.cps.toList=[]:=List.eq_nil_of_length_eq_zero (hlen.trans z)
     rw [this]; simp
   rw [hfull]
   exact ZaC rp (.str _ _ ok)
  ·rw [hc2]
   refine ⟨?_,Zao rp (.str _ _ hok) _⟩
   show (cut x.cps.toList l u).toArray.size≤sizeLine
   rw [List.size_toArray]
   unfold cut
   rw [qLt,List.length_drop]
   exact Nat.le_trans (Nat.min_le_right _ _) (Nat.le_trans (Nat.sub_le _ _) (hlen▸hz))
 | _=>exact lists
end
theorem Zdv {w:Wd}:∀ {xs:List AV} {vs:List Value} {is:List Int},VRels w vs xs→intsOf xs=some is→IntsAre vs is
 | [],vs,is,r,e=>by cases e; obtain rfl:=List.eq_nil_of_length_eq_zero r.1; exact .nil
 | x::xs,vs,is,r,e=>by
  cases vs with
  | nil=>cases r.1
  | cons v vs =>
   obtain ⟨r1,r2⟩:=r.un
   cases x<;>first | exact Zad e | skip
   obtain ⟨t,rfl⟩:=r1.inv
   refine x1_2 (oms e) fun is' h1 e2'=>?_; subst e2'
   exact .cons _ _ (Zdv r2 h1)
theorem ZhO {w:Wd} {vs:List Value} {is:List Int} (h:IntsAre vs is):VRels w vs (is.map .int):=by
 induction h with
 | nil=>exact .nil
 | cons i t _ ih=>exact .cons (.int i t) ih
theorem sumS {prog:Program} {w:World} {A:Around} {E:Value→Shared→Prop} {s:Shared} {l:Addr} {vs:List Value} {ns:List Int} {Q:Value→Shared→Prop} (hh:A.handled=none) (hl:s.heap.IsList l vs.toArray) (hi:IntsAre vs ns)
  (h:∀ h' tk t',(∀ b o,s.heap.get? b=some o→h'.get? b=some o)→Q (.int ns.sum t') { s with heap:=h',toks:=tk }):wpAny (model prog w) A (call (.builtin "sum") [.ref l]) Q E s:=by
 obtain ⟨xs,hx⟩:=hi.allInts.items
 have hl':s.heap.IsList l (intItems xs):=hx▸hl
 refine sum_intListG hh hl' fun h' tk t' hk=>?_
 have e1:ns=xs.toList.map (·.1):=by
  rw [← nums_intItems,← hx]
  exact (show numsOf vs.toArray.toList=ns from hi.numsOf).symm
 have e2:preSum (numAt xs) xs.size=ns.sum:=by
  rw [preSum_eq,List.take_of_length_le (by simp),e1]
 rw [e2]
 exact h h' tk t' hk
theorem ZeS {w:Wd} {kvs:List (Key×Value)} {es:List (Key×AV)} {acc:List Value} (e:kvs.map (·.1)=es.map (·.1)) (ok:∀ e∈es,e.1.ok=true) (hlen:acc.length=kvs.length)
  (hP:∀ (j:Nat) (v:Value),acc[j]?=some v→∃ k x,kvs[j]?=some (k,x)∧k.is v=true):VRels w acc (es.map (·.1.av)):=by
 refine ⟨by rw [hlen,qLm]; simpa using congrArg List.length e,fun i v x h1 h2=>?_⟩
 refine x2_2 (hP i v h1) fun k y h3 h4=>?_
 have h5:(es.map (·.1))[i]?=some k:=by rw [← e,qGm,h3]; rfl
 rw [qGm] at h2 h5
 refine x1_2 (oms h2) fun en h6 e2'=>?_; subst e2'
 rw [h6] at h5
 cases h5
 have hk:=ok en (qMo h6)
 have h4:en.1.is v=true:=h4
 generalize en.1=k at h4 hk
 rcases Key.is_shape h4 with ⟨x,t,rfl,rfl⟩ | ⟨i,t,rfl,rfl⟩
 ·exact .str x t hk
 ·exact .int i t
theorem Zei (i:Int):∀ l:List Int,(insI i l).Perm (i::l)
 | []=>.refl _
 | j::r=>by
  show List.Perm (if i≤j then i::j::r else j::insI i r) _
  split
  ·exact .refl _
  ·exact ((Zei i r).cons j).trans (.swap i j r)
theorem Zcg:∀ l:List Int,(sortI l).Perm l
 | []=>.refl _
 | i::r=>(Zei i (sortI r)).trans ((Zcg r).cons i)
theorem Zej (i:Int):∀ l:List Int,l.Pairwise (·≤·)→(insI i l).Pairwise (·≤·)
 | [],_=>List.pairwise_singleton _ _
 | j::r,h=>by
  obtain ⟨h1,h2⟩:=List.pairwise_cons.mp h
  show List.Pairwise _ (if i≤j then i::j::r else j::insI i r)
  split
  ·rename_i q
   refine List.pairwise_cons.mpr ⟨fun x hx=>?_,h⟩
   rcases List.mem_cons.mp hx with rfl | hx
   ·exact q
   ·exact Int.le_trans q (h1 x hx)
  ·rename_i q
   refine List.pairwise_cons.mpr ⟨fun x hx=>?_,Zej i r h2⟩
   rcases List.mem_cons.mp ((Zei i r).mem_iff.mp hx) with rfl | hx
   ·lia
   ·exact h1 x hx
theorem Zb8:∀ l:List Int,(sortI l).Pairwise (·≤·)
 | []=>.nil
 | i::r=>Zej i _ (Zb8 r)
theorem Zhh {l:List Int} {m:List Int} (h:m.Perm l) (hs:m.Pairwise (·≤·)):m=sortI l :=
 List.Perm.eq_of_pairwise (fun a b _ _ h1 h2=>Int.le_antisymm h1 h2) hs (Zb8 l) (h.trans (Zcg l).symm)
section
variable {C:Cx} {s:Shared} {M:Mp} {H:AH} {v:Value} {a:AV}
theorem vrels1 {w:Wd} {vs:List Value} (r:VRels w vs [a]):∃ v,vs=[v]∧VRel w v a:=by
 rcases vs with _ | ⟨v,_ | ⟨_,_⟩⟩
 ·cases r.1
 ·exact ⟨v,rfl,r.un.1⟩
 ·cases r.1
theorem vrels2 {w:Wd} {vs:List Value} {b:AV} (r:VRels w vs [a,b]):∃ v u,vs=[v,u]∧VRel w v a∧VRel w u b:=by
 cases vs with
 | nil=>cases r.1
 | cons v vs=>obtain ⟨u,rfl,r'⟩:=vrels1 r.un.2; exact ⟨v,u,rfl,r.un.1,r'⟩
theorem ZjQ {mt:Bool} {n:Nat} {es:List (Key×AV)} (hh:C.A.handled=none) (L:Live C s.heap M) (rp:Rep C.S C.pv s.heap M H) (ra:VRel (C.wd s.heap M) v a) (e:dcOf H a=some (n,es)) (hz:es.length≤1000000):Ev VRel C (call (.type "list") [v]) s M (newL mt (es.map (·.1.av)) H):=by
 refine x2_7 (ZeG rp ra e) fun p kvs e2' z _ hm e1 e2 ok=>?_; subst e2'
 have hs:=L.notSys (Zar z).1
 obtain ⟨ep,hd⟩:=hm.dictAt
 have hlen:kvs.length=es.length:=by simpa using congrArg List.length e1
 refine Zee L rp fun k=>kdl_call (kdl_dict (knd:=kk C.S.prog C.S.w) (kvs:=kvs) (ep:=ep) hs) hh hd (by rw [hlen,sizeLine_eq]; lia) fun h' tk acc c hk hl hacc=>?_
 refine k _ _ _ _ _ hk (Zaq _) hl ?_
 exact ZeS e1 ok (by rw [Array.length_toList]; exact hacc.1) fun j v hv=>hacc.2 j v (by rw [← Array.getElem?_toList]; exact hv)
theorem ZhN:∀ (xs:List AV) (js:List Int),intsOf xs=some js→js.length=xs.length
 | [],js,h=>by cases h; rfl
 | x::xs,js,h=>by
  cases x<;>first | exact Zad h | skip
  refine x1_2 (oms h) fun js' h1 e2'=>?_; subst e2'
  exact congrArg (·+1) (ZhN xs js' h1)
theorem Zhg {n:Nat} {es:List (Key×AV)} {is:List Int} (hh:C.A.handled=none) (L:Live C s.heap M) (rp:Rep C.S C.pv s.heap M H) (ra:VRel (C.wd s.heap M) v a) (e:dcOf H a=some (n,es)) (ei:intsOf (es.map (·.1.av))=some is) (h64:is.length<64) :
  Ev VRel C (call (.builtin "sorted") [v]) s M (.ok (.lst ((sortI is).map .int)) H):=by
 refine x2_7 (ZeG rp ra e) fun p kvs e2' z _ hm e1 e2 ok=>?_; subst e2'
 have hs:=L.notSys (Zar z).1
 obtain ⟨ep,hd⟩:=hm.dictAt
 have hlen:kvs.length=es.length:=by simpa using congrArg List.length e1
 have hl2:is.length=es.length:=by simpa using ZhN _ _ ei
 refine Calls.call_function_entry kind_sorted plain_sorted entry_sorted (args_sorted1 _) ?_
 unfold Builtin.«sorted»
 refine wpAny_bind (m:=checkCount "sorted" 1 1 _) (wpAny_pure ?_)
 refine wpAny_bind (kdu_collect (A:=C.A.in1) (kdl_dict (knd:=kk C.S.prog C.S.w) (kvs:=kvs) (ep:=ep) hs) hh hd (by rw [hlen,← hl2,sizeLine_eq]; lia) fun h' tk acc hk hacc=>?_)
 have hal:acc.toList.length=kvs.length:=by rw [Array.length_toList]; exact hacc.1
 have hv:VRels (C.wd s.heap M) acc.toList (es.map (·.1.av)):=ZeS e1 ok hal fun j v hv=>hacc.2 j v (by rw [← Array.getElem?_toList]; exact hv)
 have hI:=Zdv hv ei
 refine wpAny_bind (wpAny_newList ?_ (by rw [hal,hlen,← hl2,sizeLine_eq]; lia))
 have hoL:(h'.push (seqObj "list" acc.toList.toArray 0)).get? h'.objs.size=some (seqObj "list" acc.toList.toArray 0):=Heap.get?_push_size _ rfl
 refine wpAny_bind (wpAny_holding (wpAny_call_entry slot_list_sort ⟨_,hoL,rfl⟩ entry_list_sort (list_sort_tree hoL hI (by rw [hal,hlen,← hl2]; exact h64) fun out ns' a1 a2 a3=>⟨_,rfl,?_⟩) (args_list_sort _)))
 refine wpAny_pure ⟨_,rfl,?_⟩
 obtain ⟨ee,he⟩:=sortedHeap_at (out:=out) hoL
 have hr0:s.heap.get? h'.objs.size=none:=by
  cases z:s.heap.get? h'.objs.size with
  | none=>rfl
  | some o=>exact absurd (Heap.lt_size (hk _ _ z)) (Nat.lt_irrefl _)
 have K:∀ b o,s.heap.get? b=some o→(sortedHeap (h'.push (seqObj "list" acc.toList.toArray 0)) h'.objs.size acc.toList out).get? b=some o:=fun b o z=>by
  have z':=hk b o z
  have hlt:=Heap.lt_size z'
  rw [sortedHeap_old (Nat.ne_of_lt hlt) (by rw [Heap.size_push]; exact Nat.lt_succ_of_lt hlt)]
  exact Heap.get?_push_of_some _ z'
 rw [← Zhh a2 a3]
 exact Zfz (mt:=false) (P:=fun _ _=>True) L rp K hr0 he (ZhO a1) rfl
noncomputable def biV:Bi→Value
 | .len=>.builtin "len"
 | .range=>.type "range"
 | .list _=>.type "list"
 | .min=>.builtin "min"
 | .max=>.builtin "max"
 | .sum=>.builtin "sum"
 | .int=>.type "int"
 | .sorted=>.builtin "sorted"
theorem Zom {n:Nat} (L:Live C s.heap M) (rp:Rep C.S C.pv s.heap M H) (r:VRel (C.wd s.heap M) v a) (e:lenA H a=some n) (hn:n<2^62):Ev VRel C (call (.builtin "len") [v]) s M (.ok (.int n) H):=by
 have hn':(n:Int)<2^63:=Int.lt_of_lt_of_le (Int.ofNat_lt.mpr hn) (by decide)
 have ls:∀ xs:List AV,n=xs.length→lsOf H a=some xs→Ev VRel C (call (.builtin "len") [v]) s M (.ok (.int n) H):=fun xs en el=>by
  subst en
  refine x3_3 (ZeK rp r el) fun l vs m e3' ho rl=>?_; subst e3'
  exact PyProof.Rows.len_list ho.isList (by rw [rl.size]; exact hn') (by rw [rl.size]; exact Zao rp (.int _ _) _)
 have dc:∀ {n':Nat} (es:List (Key×AV)),n=es.length→dcOf H a=some (n',es)→Ev VRel C (call (.builtin "len") [v]) s M (.ok (.int n) H):=fun {n'} es en el=>by
  subst en
  refine x2_7 (ZeG rp r el) fun p kvs e2' z _ hm e1 e2 ok=>?_; subst e2'
  have hs:=L.notSys (Zar z).1
  have hlen:kvs.length=es.length:=by simpa using congrArg List.length e1
  exact call_len_dict (knd:=kk C.S.prog C.S.w) hs hm (by rw [hlen]; exact hn') (by rw [hlen]; exact Zao rp (.int _ _) _)
 cases a<;>first | exact Zad e | skip
 ·cases e; obtain ⟨t,rfl,ok⟩:=r.inv; exact PyProof.Rows.len_str (Int.not_le.mpr hn') (Zao rp (.int _ _) _)
 ·cases e; obtain ⟨l,vs,m,rfl,ho,_,rl⟩:=r.inv; exact P.len_tuple ho (by rw [rl.size]; exact Int.not_le.mpr hn') (by rw [rl.size]; exact Zao rp (.int _ _) _)
 ·cases e; exact ls _ rfl rfl
 ·rename_i k
  cases q:H[k]? with
  | none=>rw [Zfw q] at e; cases e
  | some ao =>
   rw [Zfw q] at e
   cases ao with
   | lst xs=>cases e; exact ls xs rfl (Zg3 q)
   | dict es=>cases e; exact dc es rfl (n':=k) (ZaN q)
   | _=>exact Zad e
theorem Ev.hot {α β:Type} {R:RelT α β} {t:Sem α} {o:Out β} (L:Live C s.heap M) (h:C.A.handled=none→Ev R C t s M o):Ev R C t s M (if C.hot=true then .bad else o):=by
 split
 ·trivial
 ·rename_i q; exact h (L.handled (by simpa using q))
theorem Znr {f:Bi} {as:List AV} {vals:List Value} (L:Live C s.heap M) (rp:Rep C.S C.pv s.heap M H) (ra:VRels (C.wd s.heap M) vals as):Ev VRel C (call (biV f) vals) s M (biA C.hot f as H):=by
 rcases as with _ | ⟨a,_ | ⟨b,_ | ⟨_,_⟩⟩⟩
 ·trivial
 ·refine x1_2 (vrels1 ra) fun v e1' r=>?_; subst e1'
  cases f with
  | len=>exact Ev.orBad fun n e=>Ev.ite fun hn=>Zom L rp r e hn
  | range =>
   refine Ev.asInt fun n e=>?_
   subst e
   obtain ⟨t,rfl⟩:=r.inv
   exact call_range_1 (Zda rp (.rng (Heap.get?_push_size _ rfl) (ZfA rp L (Zaq _))) _)
  | list mt =>
   show Ev VRel C _ s M (match dcOf H a with | some (_,es)=>if (!C.hot && decide (es.length≤1000000))=true then newL mt (es.map (·.1.av)) H else .bad | none=>orBad (lsOf H a) fun xs=>if xs.length≤sizeLine then newL mt xs H else .bad)
   split
   ·rename_i e
    refine Ev.ite fun q=>?_
    rw [qBt,Bool.not_eq_true',decide_eq_true_eq] at q
    exact ZjQ (L.handled q.1) L rp r e q.2
   ·refine Ev.orBad fun xs e=>Ev.ite fun hz=>?_
    refine x3_3 (ZeK rp r e) fun l vs n e3' hl rl=>?_; subst e3'
    exact Zee L rp fun k=>call_list_seq l (T := "list") (.inl rfl) hl rfl rfl (fun h' c hk hD=>k _ _ _ _ _ hk (Zaq _) hD rl) (by rw [rl.size]; exact hz)
  | sum =>
   refine Ev.orBad fun is e=>Ev.hot L fun hh=>?_
   refine x1_2 (qOb e) fun xs e ei=>?_
   refine x3_3 (ZeK rp r e) fun l vs n e3' hl rl=>?_; subst e3'
   exact sumS (vs:=vs.toList) hh (by simpa using hl.isList) (Zdv rl ei) fun h' tk t' hk=>Zb5 rp hk (.int _ _) _
  | sorted =>
   show Ev VRel C _ s M (match dcOf H a with | some (_,es)=>orBad (intsOf (es.map (·.1.av))) fun is=>if (!C.hot && decide (is.length<64))=true then .ok (.lst ((sortI is).map .int)) H else .bad | none=>.bad)
   split
   ·rename_i e
    refine Ev.orBad fun is ei=>Ev.ite fun q=>?_
    rw [qBt,Bool.not_eq_true',decide_eq_true_eq] at q
    exact Zhg (L.handled q.1) L rp r e ei q.2
   ·trivial
  | int =>
   refine Ev.asBool fun b e=>?_
   subst e
   rw [show v=.bool b from r.inv]
   exact call_int_bool (Zao rp (.int _ _) _)
  | _=>trivial
 ·refine x2_3 (vrels2 ra) fun v u e2' r1 r2=>?_; subst e2'
  refine Ev.asInt fun i e1=>Ev.asInt fun j e2=>?_
  subst e1 e2
  obtain ⟨t,rfl⟩:=r1.inv
  obtain ⟨t',rfl⟩:=r2.inv
  cases f with
  | min =>
   refine Ev.hot L fun hh=>min_two_ints hh fun h' tk hk=>?_
   split<;>exact Zb5 rp hk (.int _ _) _
  | max =>
   refine Ev.hot L fun hh=>max_two_ints hh fun h' tk hk=>?_
   split<;>exact Zb5 rp hk (.int _ _) _
  | range=>exact call_range_2 (Zda rp (.rng (Heap.get?_push_size _ rfl) (ZfA rp L (Zaq _))) _)
  | _=>trivial
 ·trivial
end
theorem ZhP (sep:Str):∀ (ys:List Str),∀ c∈(Str.join sep ys).cps.toList,c∈sep.cps.toList∨∃ y∈ys,c∈y.cps.toList
 | [],c,hc=>by simp [Str.join,Str.empty] at hc
 | [x],c,hc=>.inr ⟨x,.head _,hc⟩
 | x::y::r,c,hc=>by
  have e:Str.join sep (x::y::r)=x++sep++Str.join sep (y::r):=rfl
  rw [e,Str.cps_append,Str.cps_append] at hc
  simp only [Array.toList_append,List.mem_append] at hc
  rcases hc with (hc | hc) | hc
  ·exact .inr ⟨x,.head _,hc⟩
  ·exact .inl hc
  ·rcases ZhP sep (y::r) c hc with h | ⟨z,hz,h⟩
   ·exact .inl h
   ·exact .inr ⟨z,.tail _ hz,h⟩
theorem Zm4 {sep:Str} {ys:List Str} (hs:PyData.strOk sep=true) (hy:∀ y∈ys,PyData.strOk y=true):PyData.strOk (Txt.join sep ys)=true:=by
 show PyData.strOk (Builtin.Str.glued sep ys)=true
 rw [StrLaws.glued_eq_join,Zb9]
 intro c hc
 rcases ZhP sep ys c hc with h | ⟨z,hz,h⟩
 ·exact (Zb9.mp hs) c h
 ·exact (Zb9.mp (hy z hz)) c h
theorem Zgw {w:Wd}:∀ {xs:List AV} {vs:List Value} {ys:List Str},VRels w vs xs→strsOf xs=some ys→∃ l:List (Str×Tok),vs=strValues l∧l.map (·.1)=ys∧∀ y∈ys,PyData.strOk y=true
 | [],vs,ys,r,e=>by cases e; obtain rfl:=List.eq_nil_of_length_eq_zero r.1; exact ⟨[],rfl,rfl,fun _ h=>nomatch h⟩
 | x::xs,vs,ys,r,e=>by
  cases vs with
  | nil=>cases r.1
  | cons v vs =>
   obtain ⟨r1,r2⟩:=r.un
   cases x<;>first | exact Zad e | skip
   refine x1_2 (r1.inv) fun t e1' ok=>?_; subst e1'
   refine x1_2 (oms e) fun ys' h1 e2'=>?_; subst e2'
   refine x1_3 (Zgw r2 h1) fun l e1' h2 h3=>?_; subst e1'
   exact ⟨(_,t)::l,rfl,congrArg (_::·) h2,fun y hy=>by rcases List.mem_cons.mp hy with rfl | hy; exact ok; exact h3 y hy⟩
theorem Zey {w:Wd} (k:Key):∀ {kvs:List (Key×Value)} {es:List (Key×AV)},kvs.map (·.1)=es.map (·.1)→VRels w (kvs.map (·.2)) (es.map (·.2)) →
  (without kvs k).map (·.1)=(es.filter fun e=>decide (e.1≠k)).map (·.1)∧VRels w ((without kvs k).map (·.2)) ((es.filter fun e=>decide (e.1≠k)).map (·.2))
 | [],[],_,_=>⟨rfl,.nil⟩
 | [],_::_,e,_=>by cases e
 | _::_,[],e,_=>by cases e
 | (k₁,v)::kvs,(k₂,a)::es,e,r=>by
  obtain ⟨r,rs⟩:=r.un
  injection e with e1 e
  have e1:k₁=k₂:=e1
  subst e1
  have ih:=Zey k e rs
  unfold without at ih ⊢
  by_cases q:k₁=k
  ·simp only [List.filter_cons,q,ne_eq,not_true_eq_false,decide_false,Bool.false_eq_true,if_false]; exact ih
  ·simp only [List.filter_cons,q,ne_eq,not_false_eq_true,decide_true,if_true,List.map_cons,ih.1,true_and]
   exact .cons r ih.2
theorem Ze9 {w:Wd} {k:Key} {v:Value} {a:AV} (rv:VRel w v a) {kvs:List (Key×Value)} {es:List (Key×AV)} (e:kvs.map (·.1)=es.map (·.1)) (r:VRels w (kvs.map (·.2)) (es.map (·.2))) :
  (stored kvs k v).map (·.1)=(setD es k a).map (·.1)∧VRels w ((stored kvs k v).map (·.2)) ((setD es k a).map (·.2)):=by
 have hany:(kvs.any fun kv=>decide (kv.1=k))=es.any fun e=>decide (e.1=k):=by
  have h1:(kvs.any fun kv=>decide (kv.1=k))=(kvs.map (·.1)).any fun x=>decide (x=k):=by rw [List.any_map]; rfl
  have h2:(es.any fun kv=>decide (kv.1=k))=(es.map (·.1)).any fun x=>decide (x=k):=by rw [List.any_map]; rfl
  rw [h1,h2,e]
 unfold stored setD
 rw [hany]
 split
 ·clear hany
  have:∀ {kvs:List (Key×Value)} {es:List (Key×AV)},kvs.map (·.1)=es.map (·.1)→VRels w (kvs.map (·.2)) (es.map (·.2)) →
    (kvs.map fun kv=>if kv.1=k then (kv.1,v) else kv).map (·.1)=(es.map fun e=>if e.1=k then (e.1,a) else e).map (·.1) ∧
    VRels w ((kvs.map fun kv=>if kv.1=k then (kv.1,v) else kv).map (·.2)) ((es.map fun e=>if e.1=k then (e.1,a) else e).map (·.2)):=by
   intro kvs
   induction kvs with
   | nil=>intro es e r; cases es with
    | nil=>exact ⟨rfl,.nil⟩
    | cons _ _=>simp at e
   | cons kv kvs ih =>
    intro es e r
    cases es with
    | nil=>simp at e
    | cons en es =>
     obtain ⟨r,rs⟩:=r.un
     simp only [List.map_cons,List.cons.injEq] at e
     have:=ih e.2 rs
     simp only [List.map_cons,e.1]
     by_cases q:en.1=k
     ·simp only [q,if_true,List.cons.injEq,true_and]; exact ⟨this.1,.cons rv this.2⟩
     ·simp only [q,if_false,List.cons.injEq]; exact ⟨⟨e.1,this.1⟩,.cons r this.2⟩
  exact this e r
 ·simp only [qMa,e,List.map_cons,List.map_nil,true_and]
  exact r.append (.cons rv .nil)
theorem Zkp {es:List (Key×AV)} {k:Key} {a:AV} (h:∀ e∈es,e.1.ok=true) (hk:k.ok=true):∀ e∈setD es k a,e.1.ok=true:=by
 intro e he
 unfold setD at he
 split at he
 ·refine x1_2 (qMm he) fun e' he' e2'=>?_; subst e2'
  split
  ·exact h e' he'
  ·exact h e' he'
 ·rcases qMp he with he | he
  ·exact h e he
  ·simp only [List.mem_singleton] at he; subst he; exact hk
theorem ZeT {H:AH} {o:AV}:∀ {k:Nat},kindM o H=k→(k=0∨(k=1∧∃ x,o=.str x)∨(k=2∧∃ n xs,o=.ref n∧H[n]?=some (.lst xs))∨k=3∧∃ n es,o=.ref n∧dcOf H o=some (n,es)):=by
 rintro k rfl
 cases o with
 | str x=>exact .inr (.inl ⟨rfl,x,rfl⟩)
 | ref n =>
  simp only [kindM]
  cases q:H[n]? with
  | none=>exact .inl rfl
  | some ao =>
   cases ao with
   | lst xs=>exact .inr (.inr (.inl ⟨rfl,n,xs,rfl,q⟩))
   | dict es=>exact .inr (.inr (.inr ⟨rfl,n,es,rfl,ZaN q⟩))
   | _=>exact .inl rfl
 | _=>exact .inl rfl
section
variable {C:Cx} {s:Shared} {M:Mp} {H:AH} {v:Value} {o:AV}
theorem Znh {f:Bm} {id:String} (rp:Rep C.S C.pv s.heap M H) (r:VRel (C.wd s.heap M) v o) (h:bmId (kindM o H) f=some id) :
  ∃ T,PlainAttrs T∧Slot T f.name id∧typeOf (.builtin id)=pure (.type "method_descriptor")∧s.TypeIs v T∧∀ a,v=.ref a→∃ ob,s.heap.get? a=some ob∧ob.dict=none:=by
 rcases ZeT (rfl:kindM o H=_) with e | ⟨e,x,rfl⟩ | ⟨e,n,xs,rfl,q⟩ | ⟨e,n,es,rfl,q⟩<;>rw [e] at h
 ·cases f<;>cases h
 ·refine x1_2 (r.inv) fun t e1' ok=>?_; subst e1'
  have e:∀ a,Value.str x t=.ref a→∃ ob,s.heap.get? a=some ob∧ob.dict=none:=fun _ q=>nomatch q
  cases f<;>cases h
  ·exact ⟨"str", F.plainAttrs_str,F.slot_str_join,F.type_str_join,typeIs_str _ _ _,e⟩
 ·refine x1_2 (r.inv) fun p e1' z=>?_; subst e1'
  obtain ⟨_,vs,m,hl,rl⟩:=rp.obj _ _ _ z q
  have e:∀ a,Value.ref p.1=.ref a→∃ ob,s.heap.get? a=some ob∧ob.dict=none:=fun _ q=>by cases q; exact ⟨_,hl,rfl⟩
  have hT:s.TypeIs (.ref p.1) "list" := ⟨_,hl,rfl⟩
  cases f<;>cases h
  ·exact ⟨"list", F.plainAttrs_list,F.slot_list_append,F.type_list_append,hT,e⟩
  ·exact ⟨"list", F.plainAttrs_list,F.slot_list_clear,F.type_list_clear,hT,e⟩
 ·refine x2_5 (ZeG rp r q) fun p kvs e2' z _ hd _=>?_; subst e2'
  cases f<;>cases h
  ·exact ⟨"dict", F.plainAttrs_dict,F.slot_dict_get,F.type_dict_get,hd.typeIs,hd.mapOf.noDict⟩
  ·exact ⟨"dict", F.plainAttrs_dict,F.slot_dict_pop,F.type_dict_pop,hd.typeIs,hd.mapOf.noDict⟩
theorem Zgg {h':Heap} {n:Nat} {p:Addr×Addr} {xs ys:List AV} {vs:Array Value} {m tk:Nat} (L:Live C s.heap M) (rp:Rep C.S C.pv s.heap M H) (z:M[n]?=some p) (hq:H[n]?=some (.lst xs)) (ep:p.2=p.1) (k:Heap.SameBut p.1 s.heap h') (hl:IsL h' p.1 vs m) (rl:VRels (C.wd s.heap M) vs.toList ys) :
  Post VRel C s M .none (setL H n ys) .none { s with heap:=h',toks:=tk } :=
 Zbz L rp z (fun es e=>by rw [hq] at e; cases e) (fun _ q=>nomatch q) (fun b o hb _ z=>(k.2 b hb).trans z) (fun K=>⟨ep,vs,m,hl,rl.keep K⟩) (fun _=>.none)
theorem Znu {f:Bm} {id:String} {n:Nat} {xs as:List AV} {vals:List Value} (L:Live C s.heap M) (rp:Rep C.S C.pv s.heap M H) (ro:VRel (C.wd s.heap M) v (.ref n)) (ra:VRels (C.wd s.heap M) vals as) (q:H[n]?=some (.lst xs)) (hid:bmId 2 f=some id) (hz:xs.length≤1000000):Ev VRel C (call (.builtin id) (v::vals)) s M (mlA f n xs as H):=by
 refine x1_2 (ro.inv) fun p e1' z=>?_; subst e1'
 obtain ⟨ep,vs,m,hl,rl⟩:=rp.obj _ _ _ z q
 have hs1:=rl.size
 cases f with
 | append =>
  cases hid
  rcases as with _ | ⟨a,_ | ⟨_,_⟩⟩
  ·trivial
  ·refine x1_2 (vrels1 ra) fun u e1' ru=>?_; subst e1'
   refine call_meets F.slot_list_append ⟨_,hl,rfl⟩ F.entry_list_append (F.args_list_append_2 _ _) (list_append p.1 vs m u (by rw [hs1,sizeLine_eq]; lia)) ⟨hl,?_⟩
   exact Zgg L rp z q ep (Heap.SameBut.update ..) (IsL.update hl _) (by simpa using rl.snoc ru)
  ·trivial
 | clear =>
  cases hid
  rcases as with _ | ⟨_,_⟩
  ·obtain rfl:vals=[]:=List.eq_nil_of_length_eq_zero ra.1
   refine call_meets F.slot_list_clear ⟨_,hl,rfl⟩ F.entry_list_clear (F.args_list_clear_1 _) (AutoSeq1.list_clear_list_0 p.1 vs m (by rw [hs1,sizeLine_eq]; lia)) ⟨hl,?_⟩
   exact Zgg L rp z q ep (Heap.SameBut.update ..) (IsL.update hl fun _=>#[]) .nil
  ·trivial
 | _=>exact Zad hid
theorem Znt {f:Bm} {id:String} {n:Nat} {es:List (Key×AV)} {as:List AV} {vals:List Value} (L:Live C s.heap M) (rp:Rep C.S C.pv s.heap M H) (ro:VRel (C.wd s.heap M) v (.ref n)) (ra:VRels (C.wd s.heap M) vals as) (q:H[n]?=some (.dict es)) (hid:bmId 3 f=some id) (hz:es.length≤1000000):Ev VRel C (call (.builtin id) (v::vals)) s M (mdA f n es as H):=by
 refine x2_7 (ZeG (n:=n) (es:=es) rp ro (ZaN q)) fun p kvs e2' z ep hm e1 e2 ok=>?_; subst e2'
 have hs:=L.notSys (Zar z).1
 have hlen:kvs.length=es.length:=by simpa using congrArg List.length e1
 rcases as with _ | ⟨a,_ | ⟨_,_⟩⟩
 ·trivial
 ·refine Ev.orBad fun k hk=>?_
  refine x1_2 (vrels1 ra) fun u e1' ru=>?_; subst e1'
  have hv:=ZbL e1 e2 k
  cases f with
  | get =>
   cases hid
   refine call_meetsIn F.slot_dict_get hm.typeIs F.entry_dict_get (F.args_dict_get_2 _ _) (meets_dict_get (kk C.S.prog C.S.w) p.1 (Zcs ru hk).1 hs) ⟨_,hm.mapOf,?_⟩
   cases hx:es.lookup k with
   | none=>rw [hx] at hv; rw [hv]; exact Zao rp .none _
   | some c=>rw [hx] at hv; obtain ⟨w,hw,rw'⟩:=hv; rw [hw]; exact Zao rp rw' _
  | pop =>
   cases hid
   refine Ev.orBad fun c hl=>?_
   rw [hl] at hv
   obtain ⟨w,hw,rw'⟩:=hv
   refine call_meetsIn F.slot_dict_pop hm.typeIs F.entry_dict_pop (F.args_dict_pop_2 _ _) (meets_dict_pop_there (kk C.S.prog C.S.w) p.1 (Zcs ru hk).1 [] (.inl rfl) (by
    rcases Key.is_shape (Zcs ru hk).1 with ⟨x,t,rfl,rfl⟩ | ⟨i,t,rfl,rfl⟩<;>rfl)) ⟨kvs,w,hm,by rw [hlen,sizeLine_eq]; lia,hw,fun h' hm' hsb=>?_⟩
   refine Zbz L rp z (fun es e=>by rw [q] at e; cases e) (fun _ q=>nomatch q) (fun b o hb _ z=>(hsb.2 b hb).trans z) (fun K=>?_) (fun K=>rw'.keep K)
   have hz:=Zey k e1 (e2.keep K)
   exact ⟨ep,_,hm',hz.1,hz.2,fun e he=>ok e (List.mem_filter.mp he).1⟩
  | _=>exact Zad hid
 ·trivial
theorem Zns {f:Bm} {id:String} {as:List AV} {vals:List Value} (L:Live C s.heap M) (rp:Rep C.S C.pv s.heap M H) (ro:VRel (C.wd s.heap M) v o) (ra:VRels (C.wd s.heap M) vals as) (hid:bmId (kindM o H) f=some id):Ev VRel C (call (.builtin id) (v::vals)) s M (mbA f o as H):=by
 rcases ZeT (rfl:kindM o H=_) with e | ⟨e,x,rfl⟩ | ⟨e,n,xs,rfl,q⟩ | ⟨e,n,es,rfl,q⟩<;>rw [e] at hid
 ·cases f<;>cases hid
 ·show Ev VRel C _ s M (msA f x as H)
  refine x1_2 (ro.inv) fun t e1' ok=>?_; subst e1'
  rcases as with _ | ⟨a,_ | ⟨_,_⟩⟩
  ·trivial
  ·refine x1_2 (vrels1 ra) fun u e1' ru=>?_; subst e1'
   cases f with
   | join =>
    cases hid
    refine Ev.orBad fun ys e=>Ev.ite fun hj=>?_
    refine x1_2 (qOb e) fun xs e hs=>?_
    refine x3_3 (ZeK rp ru e) fun l vs n e3' hl rl=>?_; subst e3'
    refine x1_3 (Zgw rl hs) fun ll h1 h2 h3=>?_
    exact SC.join (l:=ll) (by rw [← h1]; simpa using hl.isList) h2 hj fun t' k=>Zao rp (.str _ _ (Zm4 ok h3)) _
   | _=>exact Zad hid
  ·trivial
 ·rw [ZjW q]
  exact Ev.ite fun hz=>Znu L rp ro ra q hid hz
 ·cases h:H[n]? with
  | none=>rw [Ziv h]; trivial
  | some ao =>
   cases ao with
   | dict es=>rw [Ziv h]; exact Ev.ite fun hz=>Znt L rp ro ra h hid hz
   | lst xs=>rw [ZaN h] at q; cases q
   | _=>rw [Ziv h]; trivial
end
structure ClsF (K:Frag) (C:Addr):Prop where
 ga:findIn K (.ref C) "__getattribute__" = some (some (.builtin "object.__getattribute__"))
 gt:findIn K (.ref C) "__getattr__" = some none
 sa:findIn K (.ref C) "__setattr__" = some (some (.builtin "object.__setattr__"))
 pl:plainOver K C=true
 hd:hasDictIn K C=true
 mks:makesIn K C=true
theorem ZgI {K:Frag} {C:Addr} (h:clsOK K C=true):ClsF K C:=by
 unfold clsOK at h
 simp only [qBt,beq_iff_eq] at h
 refine w6 h fun a b c d e f=>?_
 exact ⟨a,b,c,d,e,f⟩
noncomputable def tyN (T:Tb):Ty→Option Str
 | .int=>some "int"
 | .bool=>some "bool"
 | .str=>some "str"
 | .tup=>some "tuple"
 | .lst=>some "list"
noncomputable def Stat.tyV (S:Stat):Ty→Option Value
 | .int=>some (.type "int")
 | .bool=>some (.type "bool")
 | .str=>some (.type "str")
 | .tup=>some (.type "tuple")
 | .lst=>some (.type "list")
structure Fit (S:Stat) (G:Gm):Prop where
 cls:∀ c D,S.cl c=some D→ClsF S.K D
 attr:∀ c D x,S.cl c=some D→x∈S.an→findIn S.K (.ref D) x=some none
 inj:∀ (i j:Nat) x,S.an[i]?=some x→S.an[j]?=some x→i=j
 na:G.na=S.an.length
 few:S.an.length≤1000
 mth:∀ c D m f,S.cl c=some D→G.fn c m=some f→∃ x fa,S.T.mn[m]?=some x∧x∉S.an∧S.fa f=some fa∧findIn S.K (.ref D) x=some (some (.ref fa))∧isFn S.K (.ref fa)=true∧fnIn S.K fa=true
 ini:S.T.mn[0]?=some ("__init__" : Str)
 exc:∀ c D,S.X c=some D→excIn S.K D veMro "ValueError.__new__" = true∧seesIn S.K D=true
 up:∀ c d D E l,S.X c=some D→S.X d=some E→G.up[c]?=some l→subIn S.K (.ref D) (.ref E)=some (l.any fun x=>decide (x=d))
 fn:∀ (f:Nat) x,S.T.fns[f]?=some (some x)→∃ fa,S.fa f=some fa∧nsIn S.K mainGlobals x=some (some (.ref fa))∧fnIn S.K fa=true
 cn:∀ (c:Nat) x,S.T.cls[c]?=some x→∃ D,S.cl c=some D∧nsIn S.K mainGlobals x=some (some (.ref D))∧keepIn S.K (.ref D)=true
 xn:∀ (c:Nat) x,S.T.exs[c]?=some x→∃ D,S.X c=some D∧nsIn S.K mainGlobals x=some (some (.ref D))
 gi:∀ x i,(x,i)∈S.T.gi→∃ t,nsIn S.K mainGlobals x=some (some (.int i t))
 bi:∀ x∈biNames,nsIn S.K mainGlobals x=some none
 kb:∀ (k:Kd) (t:Ty) v,S.tyV t=some v→kitOne S.K (.type k.type) v=some (isK k t)
theorem Zfo {name:Str} {es:List DictEntry} {r:Option Value} (h:getL name es=some r):r.isSome=es.any (·.key.isStr name):=by
 unfold getL at h
 split at h
 ·rename_i e he
  cases h
  rw [List.any_eq_true.mpr ⟨e,List.mem_of_find?_eq_some he,List.find?_some he⟩]; rfl
 ·rename_i he
  split at h
  ·cases h
  ·cases h
   have:es.any (·.key.isStr name)=false:=by
    rw [List.any_eq_false]
    exact fun e hm=>List.find?_eq_none.mp he e hm
   rw [this]; rfl
theorem ZjI {name name':Str} {v:Value} (h:v.isStr name=true):v.isStr name'=decide (name=name'):=by
 cases v<;>first | exact Zco h | skip
 rename_i x t
 obtain rfl:x=name:=beq_iff_eq.mp h
 show (x == name')=_
 rw [Bool.eq_iff_iff]; simp
theorem ZfY (name name':Str) (hsh:Int) (t:Tok) (v:Value):∀ es:List DictEntry,
  ((putL name hsh (.str name t) v es).find? (·.key.isStr name')).map (·.val)=if name=name' then some v else (es.find? (·.key.isStr name')).map (·.val)
 | []=>by
  simp only [putL,List.find?_cons,List.find?_nil,Value.isStr]
  by_cases q:name=name'
  ·subst q; simp
  ·have:(name == name')=false:=by simpa using q
   simp [this,q]
 | e::r=>by
  have ih:=ZfY name name' hsh t v r
  simp only [putL]
  cases h:e.key.isStr name with
  | true =>
   have h':=ZjI (name':=name') h
   simp only [if_true,List.find?_cons,h']
   by_cases q:name=name'
   ·simp [q]
   ·simp [q]
  | false =>
   simp only [Bool.false_eq_true,if_false,List.find?_cons]
   cases h2:e.key.isStr name' with
   | true =>
    have:name≠name':=fun q=>by rw [q,h2] at h; cases h
    simp [this]
   | false=>exact ih
theorem Zeq (name:Str) (hsh:Int) (t:Tok) (v:Value):∀ es:List DictEntry,(putL name hsh (.str name t) v es).any (·.refKey)=es.any (·.refKey)
 | []=>rfl
 | e::r=>by
  simp only [putL]
  split
  ·rfl
  ·simp only [List.any_cons,Zeq name hsh t v r]
theorem ZgW (name:Str) (es:List DictEntry):getL name es=match (es.find? (·.key.isStr name)).map (·.val) with | some v=>some (some v) | none=>if es.any (·.refKey) then none else some none:=by
 unfold getL
 cases es.find? (·.key.isStr name)<;>rfl
theorem ZcG (name:Str) (hsh:Int) (k v:Value):∀ es:List DictEntry,(putL name hsh k v es).length=if es.any (·.key.isStr name) then es.length else es.length+1
 | []=>rfl
 | e::r=>by
  simp only [putL,List.any_cons]
  by_cases h:e.key.isStr name=true
  ·simp [h]
  ·have ih:=ZcG name hsh k v r
   rw [Bool.not_eq_true] at h
   simp only [h,Bool.false_eq_true,if_false,List.length_cons,ih,Bool.false_or]
   split<;>rfl
theorem FRel.put {w:Wd} {an:List Str} {es:List DictEntry} {fs:List (Option AV)} {k:Nat} {x:Str} {hsh:Int} {t:Tok} {v:Value} {a:AV} (inj:∀ (i j:Nat) x,an[i]?=some x→an[j]?=some x→i=j) (r:FRel w an es fs) (hx:an[k]?=some x) (hk:k<fs.length) (rv:VRel w v a):FRel w an (putL x hsh (.str x t) v es) (fs.set k (some a)):=by
 have e1:∀ name,getL name (putL x hsh (.str x t) v es)=if x=name then some (some v) else getL name es:=fun name=>by
  rw [ZgW,ZgW,ZfY,Zeq]
  by_cases q:x=name<;>simp [q]
 refine ⟨?_,by rw [List.length_set]; exact r.2.1,fun y hy=>?_,fun j y hy=>?_⟩
 ·rw [ZcG,r.1]
  unfold cnt
  rw [List.countP_set hk]
  have hz:=r.2.2.2 k x hx
  rw [qGg hk] at hz
  cases q:fs[k] with
  | none =>
   rw [q] at hz
   rw [← Zfo hz]
   simp
  | some b =>
   rw [q] at hz
   refine x1_2 (hz) fun u hu _=>?_; try clear hz
   rw [← Zfo hu]
   have hpos:0<List.countP (·.isSome) fs:=List.countP_pos_iff.mpr ⟨fs[k],List.getElem_mem hk,by rw [q]; rfl⟩
   simp
   lia
 ·rw [e1,if_neg (fun z:x=y=>hy (z▸qMo hx))]
  exact r.2.2.1 y hy
 ·have hn:=r.2.2.2 j y hy
  rw [List.getElem?_set]
  by_cases q:k=j
  ·subst q
   rw [hx] at hy
   cases hy
   rw [if_pos rfl,if_pos hk]
   exact ⟨v,by rw [e1,if_pos rfl],rv⟩
  ·rw [if_neg q,e1,if_neg (fun z:x=y=>q (inj k j x hx (z▸hy)))]
   exact hn
section
variable {S:Stat} {pv:List Addr×List Addr} {h:Heap} {M:Mp} {H:AH} {v:Value} {a:AV}
theorem ZhM {n c:Nat} {fs:List (Option AV)} (e:inOf H a=some (n,c,fs)):a=.ref n∧H[n]?=some (.inst c fs):=by
 cases a<;>first | exact Zad e | skip
 rename_i n
 cases q:H[n]? with
 | none=>rw [ZjG q] at e; cases e
 | some ao =>
  rw [ZjG q] at e
  cases ao<;>cases e
  exact ⟨rfl,q⟩
theorem Zm0 {n c:Nat} {fs:List (Option AV)} (R:Rep S pv h M H) (r:VRel (wdOf S pv h M) v a) (e:inOf H a=some (n,c,fs)) :
  ∃ (p:Addr×Addr) (D:Addr) (es:List DictEntry) (m:Nat),v=.ref p.1∧M[n]?=some p∧S.cl c=some D∧InstAt h p.1 (instObj D p.2) D (some (dictOf es m))∧h.get? p.2=some (dictOf es m)∧FRel (wdOf S pv h M) S.an es fs∧p.2≠p.1:=by
 obtain ⟨rfl,q⟩:=ZhM e
 refine x1_2 (r.inv) fun p hv z=>?_
 obtain ⟨ne,D,es,m,hc,h1,h2,f⟩:=R.obj _ _ _ z q
 exact ⟨p,D,es,m,hv,z,hc,⟨h1,rfl,rfl,h2⟩,h2,f,ne⟩
end
theorem VRel.handed {w:Wd} {v:Value} {a:AV} (r:VRel w v a):handedIn v=true:=by cases r<;>rfl
section
variable {C:Cx} {G:Gm} {s:Shared} {M:Mp} {H:AH} {v u w₀:Value} {a o i:AV}
theorem Zkb {n c k:Nat} {fs:List (Option AV)} {x:Str} {b:AV} {expr:Bool} (Y:Fit C.S G) (L:Live C s.heap M) (rp:Rep C.S C.pv s.heap M H) (ro:VRel (C.wd s.heap M) v o) (e:inOf H o=some (n,c,fs)) (hx:C.S.an[k]?=some x) (hk:fs[k]?=some (some b)):Ev VRel C (getAttr v x expr) s M (.ok b H):=by
 refine x4_7 (Zm0 rp ro e) fun p D es m e4' z hc I hd f _=>?_; subst e4'
 have K:=Y.cls c D hc
 have:=f.2.2.2 k x hx
 rw [hk] at this
 refine x1_2 (this) fun v hv rv=>?_; try clear this
 exact get_value L.K I K.ga (findObj_own K.hd (Y.attr c D x hc (qMo hx)) rfl (by rw [lookIn_dict]; exact hv)) rv.handed (Zao rp rv _)
theorem Zgi {n c k:Nat} {fs:List (Option AV)} {x:Str} (Y:Fit C.S G) (L:Live C s.heap M) (rp:Rep C.S C.pv s.heap M H) (ro:VRel (C.wd s.heap M) u o) (rv:VRel (C.wd s.heap M) v a) (e:inOf H o=some (n,c,fs)) (hx:C.S.an[k]?=some x) (hk:k<fs.length) :
  Ev EqR C (setAttr u x v) s M (.ok () (H.set n (.inst c (fs.set k (some a))))):=by
 refine x4_7 (Zm0 rp ro e) fun p D es m e4' z hc I hd f ne=>?_; subst e4'
 have KK:=Y.cls c D hc
 have k2:=Y.attr c D x hc (qMo hx)
 refine set_plain L.K I KK.sa ?_
 have ht:takerIn C.S.K D x=some none:=by unfold takerIn; rw [k2]; rfl
 refine osa_open (s:={ s with toks:=s.toks+1 }) L.K I KK.pl ht fun b=>?_
 refine x1_2 (any_some KK.hd) fun cd hcd hd'=>?_
 have hx':=I.at_
 refine wpAny_bind (wpAny_pure (wpAny_bind (wpAny_bind (wpAny_loadPart hx' (wpAny_bind (Looks.here (s:={ s with toks:=s.toks+1 }) (looks_clsIn L.K hcd) ?_))))))
 rw [hd']
 refine wpAny_pure (a:=some p.2) (wpAny_bind (wpAny_pure (wpAny_bind ?_)))
 unfold nsSet
 refine wpAny_bind (wpAny_bind (wpAny_askSetting (wpAny_pure (wpAny_bind (wpAny_mkText (wpAny_bind (wpAny_loadPart hd ?_)))))))
 dsimp only
 have hg:∃ r,getL x es=some r:=by
  have:=f.2.2.2 k x hx
  split at this
  ·obtain ⟨w,hw,_⟩:=this; exact ⟨_,hw⟩
  ·exact ⟨_,this⟩
 obtain ⟨gr,hg⟩:=hg
 have c1:(!es.toArray.any (·.key.isStr x) && es.toArray.any (·.refKey))=false:=by
  rw [← Array.any_toList,← Array.any_toList]
  show (!es.any (·.key.isStr x) && es.any (·.refKey))=false
  rw [← Zfo hg]
  rw [ZgW] at hg
  split at hg
  ·cases hg; rfl
  ·split at hg
   ·cases hg
   ·rename_i z; rw [Bool.not_eq_true] at z; rw [z,Bool.and_false]
 rw [aRefKeyMayBeTheName_at,c1]
 refine wpAny_updatePart hd ?_
 have hp:=putName_dict x (PyData.keyHash C.S.w.params x) (.str x (s.toks+1)) v es m
 have hu:=Heap.get?_update_self (h:=s.heap) (Obj.putName x (PyData.keyHash C.S.w.params x) (.str x (s.toks+1)) v) hd (by rw [hp]; rfl)
 rw [hp] at hu
 refine wpAny_bind (wpAny_lookBehind hu (pastItsLine_dict (by
  rw [List.size_toArray,ZcG]
  have h1:=f.1
  have h2:cnt fs≤fs.length:=List.countP_le_length
  have h3:=f.2.1
  have h4:=Y.few
  rw [sizeLine_eq]
  split<;>lia -abstractProof)) ?_)
 refine wpAny_pure ?_
 have k':∀ b o,b≠p.1→b≠p.2→s.heap.get? b=some o→(s.heap.update p.2 (Obj.putName x (PyData.keyHash C.S.w.params x) (.str x (s.toks+1)) v)).get? b=some o:=fun b o _ hb z=>(Heap.get?_update_other _ _ (Ne.symm hb)).trans z
 exact Zbz L rp z (fun es e'=>by rw [(ZhM e).2] at e'; cases e') (fun _ q=>nomatch q) k' (fun K=>⟨ne,D,_,_,hc,(Heap.get?_update_other _ _ ne).trans I.at_,hu,(f.keep K).put Y.inj hx hk (rv.keep K)⟩) (fun _=>rfl)
theorem ZdE {H':AH} (L:Live C s.heap M) (rp:Rep C.S C.pv s.heap M H) (ro:VRel (C.wd s.heap M) u o) (ri:VRel (C.wd s.heap M) w₀ i) (rv:VRel (C.wd s.heap M) v a) (e:setItemA o i a H=some H'):Ev EqR C (setItem u w₀ v) s M (.ok () H'):=by
 cases o<;>first | exact Zad e | skip
 rename_i n
 cases q:H[n]? with
 | none=>rw [Zbd q] at e; cases e
 | some ao =>
  rw [Zbd q] at e
  cases ao with
  | inst c fs=>cases e
  | ldict es=>cases e
  | lst xs =>
   cases i<;>first | exact Zad e | skip
   rename_i k
   simp only at e
   split at e<;>first | exact Zad e | skip
   rename_i hs
   obtain ⟨lo,hi⟩:=Zdg hs
   refine x1_2 (oms e) fun j hn e2'=>?_; subst e2'
   obtain ⟨t,rfl⟩:=ri.inv
   refine x1_2 (ro.inv) fun p e1' z=>?_; subst e1'
   obtain ⟨ep,vs,m,hl,rl⟩:=rp.obj _ _ _ z q
   have hs:=rl.size
   have fin:∀ j',j'=j→Post EqR C s M () (setL H n (xs.set j a)) () { s with heap:=s.heap.update p.1 (Obj.mapSeq (·.setIfInBounds j' v)) }:=by
    rintro j' rfl
    refine Zbz (tk:=s.toks) L rp z (fun es e=>by rw [q] at e; cases e) (fun _ q=>nomatch q) (fun b o hb _ z=>(Heap.get?_update_other _ _ (Ne.symm hb)).trans z) (fun K=>⟨ep,_,_,IsL.update hl _,?_⟩) (fun _=>rfl)
    simpa using VRels.set (rv.keep K) (rl.keep K) j'
   by_cases h0:0≤k
   ·have:k.toNat=j∧k<xs.length:=by unfold idxA at hn; rw [if_pos h0] at hn; split at hn<;>simp at hn; exact ⟨hn,by assumption⟩
    exact ki_setAt hl h0 (by lia) (by rw [hs]; exact this.2) (fin _ this.1)
   ·have:0≤k+xs.length∧(k+xs.length).toNat=j:=by unfold idxA at hn; rw [if_neg h0] at hn; split at hn<;>simp at hn; exact ⟨by assumption,hn⟩
    refine ki_setBack hl (by lia) (by rw [hs]; lia) (by lia) (fin _ ?_)
    rw [hs]; exact this.2
  | dict es =>
   simp only at e
   split at e<;>first | exact Zad e | skip
   rename_i hz
   refine x1_2 (oms e) fun k hk e2'=>?_; subst e2'
   refine x2_7 (ZeG (n:=n) (es:=es) rp ro (ZaN q)) fun p kvs e2' z ep hm e1 e2 ok=>?_; subst e2'
   have hlen:kvs.length=es.length:=by simpa using congrArg List.length e1
   refine wpAny_setItem_pairs (hsz:=by rw [hlen,sizeLine_eq]; exact Nat.le_of_lt (lt_t ‹_› rfl)) (Zcs ri hk).1 hm fun h' hm' hsb=>?_
   refine Zbz L rp z (fun es e=>by rw [q] at e; cases e) (fun _ q=>nomatch q) (fun b o hb _ z=>(hsb.2 b hb).trans z) (fun K=>?_) (fun K=>rfl)
   have hz:=Ze9 (k:=k) (rv.keep K) e1 (e2.keep K)
   exact ⟨ep,_,hm',hz.1,hz.2,Zkp ok (Zcs ri hk).2⟩
end
set_option linter.unusedSimpArgs false
noncomputable def plainBase:Expr→Bool
 | .Call (.Name _ _) [] [] _=>false
 | _=>true
noncomputable def notSlice:Expr→Bool
 | .Slice ..=>false
 | _=>true
noncomputable def notSet:Expr→Bool
 | .Set ..=>false
 | _=>true
noncomputable def notStar:Expr→Bool
 | .Starred ..=>false
 | _=>true
noncomputable def constA:Const→Option AV
 | .none=>some .none
 | .bool b=>some (.bool b)
 | .int i=>some (.int i)
 | .str x=>if PyData.strOk x then some (.str x) else none
 | _=>none
def Snd (C:Cx) (env:Env) (ns:List (Option Str)) (f:DE) (e:Expr):Prop :=
 ∀ {ρ:RE} {s:Shared} {M:Mp} {H:AH},St C env ns ρ s M H→Ev VRel C (eval e env) s M (f ρ H)
noncomputable def tst (f:DE) (ρ:RE) (H:AH):Out Bool:=(f ρ H).bind fun a H₁=>asBool a fun b=>.ok b H₁
def SndT (C:Cx) (env:Env) (ns:List (Option Str)) (f:DE) (e:Expr):Prop :=
 ∀ {ρ:RE} {s:Shared} {M:Mp} {H:AH},St C env ns ρ s M H→Ev EqR C (isTrue e env (eval e env)) s M (tst f ρ H)
noncomputable abbrev Snd2 (C:Cx) (env:Env) (ns:List (Option Str)) (f:DE) (e:Expr):Prop:=Snd C env ns f e∧SndT C env ns f e
theorem Zbv {α β γ:Type} (o:Out α) (f:α→AH→Out β) (g:β→AH→Out γ):(o.bind f).bind g=o.bind fun a H=>(f a H).bind g:=by cases o<;>rfl
theorem ZdW {α β:Type} (a:AV) (f:Bool→Out α) (g:α→AH→Out β):(asBool a f).bind g=asBool a fun i=>(f i).bind g:=by cases a<;>rfl
theorem Ze0 {α β γ:Type} (o:Option γ) (f:γ→Out α) (g:α→AH→Out β):(orBad o f).bind g=orBad o fun i=>(f i).bind g:=by cases o<;>rfl
section
variable {C:Cx} {G:Gm} {env:Env} {ns:List (Option Str)}
theorem Zes {e:Expr}:Snd C env ns badE e:=fun _=>trivial
theorem Zhs {e:Expr}:Snd2 C env ns badE e:=⟨fun _=>trivial,fun _=>trivial⟩
theorem ZkC {k:Const} {kd:Nat} {p:Pos} {a:AV} (h:constA k=some a):Snd C env ns (cstE a) (.Constant k kd p):=fun {ρ s M H} st=>by
 show Ev VRel C (constValue env k) s M (.ok a H)
 cases k<;>first | exact Zad h | skip
 ·cases h; exact Ev.pure st.rep .none
 ·cases h; exact Ev.pure st.rep (.bool _)
 ·cases h; exact wpAny_mkInt (Zao st.rep (.int _ _) _)
 ·rename_i x
  replace h:(if PyData.strOk x=true then some (AV.str x) else none)=some a:=h
  split at h<;>cases h
  rename_i ok; exact wpAny_mkText (Zao st.rep (.str _ _ ok) _)
theorem ZnR {i:Nat} {x:Str} {p:Pos} (hx:ns[i]?=some (some x)) (hd:(x == ("__debug__" : Str))=false) (hcd:(x == ("__classdict__" : Str))=false):Snd C env ns (varE i) (.Name x p):=fun {ρ s M H} st=>by
 show Ev VRel C _ s M (match ρ[i]? with | some (some a)=>.ok a H | _=>.bad)
 split
 ·rename_i a ha
  refine x2_1 (st.env) fun m cm E=>?_
  refine x1_2 (E.var i x a hx ha) fun v rv hv=>?_
  refine wpAny_Name ?_ hd
  rcases hv with ⟨hk,hm⟩ | ⟨hk,⟨c,hc⟩,hcm⟩
  ·exact wpAny_loadName_local E.fn hk E.loc hm (ZaC st.rep rv)
  ·have hcell:=(E.cell x c hc).1
   rw [hcm] at hcell
   rcases hk with hk | hk
   ·exact wpAny_loadName_cell E.fn hk hc hcell (ZaC st.rep rv)
   ·exact wpAny_loadName_free E.fn hk hc hcell (ZaC st.rep rv) hcd
 ·trivial
theorem Zb2 {ρ:RE} {s:Shared} {M:Mp} {H:AH} {x:Str} {p:Pos} {v:Value} {P:Value→Shared→Prop} {E:Value→Shared→Prop} (st:St C env ns ρ s M H) (hk:env.kindOf x=some .globalImplicit) (hd:(x == ("__debug__" : Str))=false)
  (e:nsIn C.S.K mainGlobals x=some (some v)) (h:P v s):wpAny C.S.M C.A (eval (.Name x p) env) P E s:=by
 refine x2_1 (st.env) fun m cm Ev=>?_
 have hg:s.heap.Ns env.globals C.S.mg:=Ev.glob▸C.S.hT.g.keeps st.live.stays
 exact Calls.Name_function_global Ev.fn hk (Calls.loadGlobal_global hg (mg_of C.S.hK C.S.hT.g e) h) hd
theorem Zen {ρ:RE} {s:Shared} {M:Mp} {H:AH} {x:Str} {p:Pos} {v:Value} {P:Value→Shared→Prop} {E:Value→Shared→Prop} (st:St C env ns ρ s M H) (hk:env.kindOf x=some .globalImplicit) (hd:(x == ("__debug__" : Str))=false)
  (e:nsIn C.S.K mainGlobals x=some none) (hb:bootBuiltins x=some v) (hn:x ≠ "__name__") (h:P v s):wpAny C.S.M C.A (eval (.Name x p) env) P E s:=by
 refine x2_1 (st.env) fun m cm Ev=>?_
 have hg:s.heap.Ns env.globals C.S.mg:=Ev.glob▸C.S.hT.g.keeps st.live.stays
 have hbn:s.heap.Ns env.builtins C.S.mb:=Ev.bns▸C.S.hT.b.keeps st.live.stays
 exact Calls.Name_function_global Ev.fn hk (Calls.loadGlobal_builtin hg (mg_none_of C.S.hK C.S.hT.g e) hbn ((C.S.hT.builtins x hn).trans hb) h) hd
theorem ZoL {x:Str} {i:Int} {t:Tok} {p:Pos} (hk:env.kindOf x=some .globalImplicit) (hd:(x == ("__debug__" : Str))=false) (e:nsIn C.S.K mainGlobals x=some (some (.int i t))):Snd C env ns (cstE (.int i)) (.Name x p) :=
 fun st=>Zb2 st hk hd e (ZaC st.rep (.int _ _))
theorem ZnH {mt:Bool} {op:Operator} {l r:DE} {l' r':Expr} {p:Pos} (h1:Snd C env ns l l') (h2:Snd C env ns r r'):Snd C env ns (binE mt op l r) (.BinOp l' op r' p):=fun {ρ s M H} st=>by
 show Ev VRel C (eval l' env >>= fun a=>holding [a] (eval r' env) >>= fun b=>standAt p >>= fun _=>operate [a,b] (binaryOp op a b)) s M _
 refine (h1 st).then fun a H₁ v s₁ M₁ x1 rp1 ra=>?_
 have st1:=st.step x1 rp1
 refine Ev.then (Ev.holding (h2 st1)) fun b H₂ u s₂ M₂ x2 rp2 rb=>?_
 exact Ev.stand (Ev.operate (ZlL (st1.live.step x2) rp2 (ra.keep (x2.kp st1.live Zap)) rb))
theorem ZnM {f:DE} {e':Expr} {p:Pos} (h1:Snd C env ns f e'):Snd C env ns (negE f) (.UnaryOp .USub e' p):=fun {ρ s M H} st=>by
 show Ev VRel C (eval e' env >>= fun v=>standAt p >>= fun _=>holding [v] (unaryOp .USub v)) s M _
 refine (h1 st).then fun a H₁ v s₁ M₁ x1 rp1 ra=>Ev.asInt fun i e=>?_
 subst e
 obtain ⟨t,rfl⟩:=ra.inv
 exact Ev.stand (Ev.holding (P.neg_int (Zao rp1 (.int _ _) _)))
theorem Zex {b:Bool} {s:Shared} {M:Mp} {H:AH} (rp:Rep C.S C.pv s.heap M H):Ev EqR C (truthy (.bool b)) s M (.ok b H):=wpAny_truthy_bool (ZaC rp rfl)
theorem ZoO {f:DE} {e':Expr} {p:Pos} (h1:Snd C env ns f e'):Snd C env ns (ntE f) (.UnaryOp .Not e' p):=fun {ρ s M H} st=>by
 show Ev VRel C (eval e' env >>= fun v=>standAt p >>= fun _=>holding [v] (unaryOp .Not v)) s M _
 refine (h1 st).then fun a H₁ v s₁ M₁ x1 rp1 ra=>Ev.asBool fun b e=>?_
 subst e
 rw [show v=.bool b from ra.inv]
 exact Ev.stand (Ev.holding (not_of (wpAny_truthy_bool (ZaC rp1 (.bool _)))))
theorem ZiJ {f:DE} {e:Expr} (h:Snd C env ns f e) (he:∀ w,isTrue e env w=(w >>= fun v=>standAt e.pos >>= fun _=>holding [v] (truthy v))):SndT C env ns f e:=fun {ρ s M H} st=>by
 rw [he]
 refine (h st).then fun a H₁ v s₁ M₁ x1 rp1 ra=>Ev.asBool fun b e=>?_
 subst e
 rw [show v=.bool b from ra.inv]
 exact Ev.stand (Ev.holding (Zex rp1))
theorem Zf5 {e:Expr} {env:Env} (h1:∀ x p,e≠.UnaryOp .Not x p) (h2:∀ o vs p,e≠.BoolOp o vs p) (h3:∀ t b o p,e≠.IfExp t b o p) (h4:∀ l ops rs p,e≠.Compare l ops rs p) (w:Sem Value) :
  isTrue e env w=(w >>= fun v=>standAt e.pos >>= fun _=>holding [v] (truthy v)):=by
 cases e<;>first | rfl | skip
 ·exact absurd rfl (h2 _ _ _)
 ·rename_i op x p
  cases op<;>first | rfl | exact absurd rfl (h1 _ _)
 ·exact absurd rfl (h3 _ _ _ _)
 ·exact absurd rfl (h4 _ _ _ _)
theorem ZnG {f:DE} {e':Expr} {p:Pos} (h1:SndT C env ns f e'):SndT C env ns (ntE f) (.UnaryOp .Not e' p):=fun {ρ s M H} st=>by
 show Ev EqR C (isTrue e' env (eval e' env) >>= fun b=>pure (!b)) s M _
 have:tst (ntE f) ρ H=(tst f ρ H).bind fun b H₁=>.ok (!b) H₁:=by
  simp only [tst,ntE,Zbv,ZdW]; rfl
 rw [this]
 refine (h1 st).then fun c H₁ v s₁ M₁ x1 rp1 ra=>?_
 cases ra
 exact Ev.pure rp1 rfl
noncomputable def opOf (k:Bool):BoolOp:=if k then .And else .Or
set_option backward.match.sparseCases true in
theorem ZfQ {f:Expr→DE} (h:∀ e,Snd2 C env ns (f e) e) (k:Bool) {p:Pos}:∀ (es:List Expr) {ρ:RE} {s:Shared} {M:Mp} {H:AH},St C env ns ρ s M H→Ev VRel C (boolOp p (opOf k) (evalEach es env)) s M (bopE k (es.map f) ρ H)
 | [],_,_,_,_,st=>trivial
 | [x],_,_,_,_,st=>(h x).1 st
 | x::y::r',ρ,s,M,H,st=>by
  show Ev VRel C (eval x env >>= fun v=>standAt p >>= fun _=>holding [v] (truthy v) >>= fun t=>match opOf k,t with
   | .And,false | .Or,true=>pure v
   | _,_=>boolOp p (opOf k) (evalEach (y::r') env)) s M ((f x ρ H).bind fun a H₁=>asBool a fun b=>if b=k then bopE k ((y::r').map f) ρ H₁ else .ok (.bool b) H₁)
  refine ((h x).1 st).then fun a H₁ v s₁ M₁ x1 rp1 ra=>Ev.asBool fun b e=>?_
  subst e
  rw [show v=.bool b from ra.inv]
  refine Ev.stand (Ev.look (v:=b) (fun z=>wpAny_holding (wpAny_truthy_bool z)) ?_)
  have ih:=ZfQ h k (p:=p) (y::r') (st.step x1 rp1)
  cases k<;>cases b
  ·exact ih
  ·exact Ev.pure rp1 (.bool _)
  ·exact Ev.pure rp1 (.bool _)
  ·exact ih
set_option backward.match.sparseCases true in
theorem Zhw {f:Expr→DE} (h:∀ e,Snd2 C env ns (f e) e) (k:Bool):∀ (es:List Expr) {ρ:RE} {s:Shared} {M:Mp} {H:AH},St C env ns ρ s M H→Ev EqR C (allTrue (opOf k) es env) s M (tst (bopE k (es.map f)) ρ H)
 | [],_,_,_,_,st=>trivial
 | [x],ρ,s,M,H,st=>by
  show Ev EqR C (isTrue x env (eval x env) >>= fun t=>match opOf k,t with
   | .And,false=>pure false
   | .Or,true=>pure true
   | _,_=>pure (opOf k == .And)) s M (tst (f x) ρ H)
  have:tst (f x) ρ H=(tst (f x) ρ H).bind fun b H₁=>.ok b H₁:=by cases tst (f x) ρ H<;>rfl
  rw [this]
  refine ((h x).2 st).then fun b H₁ v s₁ M₁ x1 rp1 ra=>?_
  cases ra
  cases k<;>cases b<;>exact Ev.pure rp1 rfl
 | x::y::r',ρ,s,M,H,st=>by
  show Ev EqR C (isTrue x env (eval x env) >>= fun t=>match opOf k,t with
   | .And,false=>pure false
   | .Or,true=>pure true
   | _,_=>allTrue (opOf k) (y::r') env) s M (((f x ρ H).bind fun a H₁=>asBool a fun b=>if b=k then bopE k ((y::r').map f) ρ H₁ else .ok (.bool b) H₁).bind fun a H₁=>asBool a fun b=>.ok b H₁)
  have:(((f x ρ H).bind fun a H₁=>asBool a fun b=>if b=k then bopE k ((y::r').map f) ρ H₁ else .ok (.bool b) H₁).bind fun a H₁=>asBool a fun b=>.ok b H₁)=(tst (f x) ρ H).bind fun b H₁=>if b=k then tst (bopE k ((y::r').map f)) ρ H₁ else .ok b H₁:=by
   simp only [tst,Zbv,ZdW]
   congr 1
   funext a H₁
   congr 1
   funext b
   show _=if b=k then _ else _
   split<;>rfl
  rw [this]
  refine ((h x).2 st).then fun b H₁ v s₁ M₁ x1 rp1 ra=>?_
  cases ra
  have ih:=Zhw h k (y::r') (st.step x1 rp1)
  cases k<;>cases b
  ·exact ih
  ·exact Ev.pure rp1 rfl
  ·exact Ev.pure rp1 rfl
  ·exact ih
theorem Zem:∀ (ops:List CmpOp) (es:List Expr),es.all notSet=true→lastMarks ops es=false
 | [],_,_=>by simp [lastMarks]
 | _::_,[],_=>by simp [lastMarks]
 | [op],[e],h=>by
  simp only [List.all_cons,qBt] at h
  simp only [lastMarks]
  cases e<;>first | rfl | exact Zco h.1
 | op::op'::ops,e::r,h=>by
  simp only [List.all_cons,qBt] at h
  simp only [lastMarks]
  exact Zem _ _ h.2
 | [op],e::e'::r,h=>by
  simp only [List.all_cons,qBt] at h
  simp only [lastMarks]
theorem Zel (ops:List CmpOp) (es:List Expr) (ts:List (Sem Value)) (h:es.all notSet=true):markedEach ops es ts=ts :=
 markedEach_of_false ops es ts (Zem ops es h)
theorem ZhA {op:CmpOp} {s:Shared} {M:Mp} {H:AH} {v u:Value} {a b:AV} {c:Bool} (L:Live C s.heap M) (rp:Rep C.S C.pv s.heap M H) (ra:VRel (C.wd s.heap M) v a) (rb:VRel (C.wd s.heap M) u b) (e:cmpA H op a b=some c):Ev VRel C (compareOp op v u) s M (.ok (.bool c) H) :=
 ZlM L rp ra rb e fun t=>Zao rp (.bool _) t
theorem ZdZ {f:Expr→DE} (h:∀ e,Snd2 C env ns (f e) e) {p:Pos}:∀ (es:List Expr) (ops:List CmpOp),ops.length=es.length→∀ {ρ:RE} {s:Shared} {M:Mp} {H:AH} {a:AV} {v:Value},St C env ns ρ s M H→VRel (C.wd s.heap M) v a→Ev VRel C (compareChain p v ops (evalEach es env)) s M (chainE a ops (es.map f) ρ H)
 | [],[],_,_,_,_,_,_,_,st,ra=>trivial
 | [],_::_,hl,_,_,_,_,_,_,st,ra=>by cases hl
 | [x],[],hl,_,_,_,_,_,_,st,ra=>by cases hl
 | [x],[op],hl,ρ,s,M,H,a,v,st,ra=>by
  show Ev VRel C (holding [v] (eval x env) >>= fun rv=>standAt p >>= fun _=>operate [v,rv] (compareOp op v rv)) s M ((f x ρ H).bind fun b H₁=>orBad (cmpA H₁ op a b) fun c=>.ok (.bool c) H₁)
  refine Ev.then (Ev.holding ((h x).1 st)) fun b H₁ u s₁ M₁ x1 rp1 rb=>Ev.orBad fun c e=>Ev.stand (Ev.operate ?_)
  exact ZhA (st.live.step x1) rp1 (ra.keep (x1.kp st.live Zap)) rb e
 | [x],op::op'::ops,hl,_,_,_,_,_,_,st,ra=>by cases hl
 | x::y::r',[],hl,_,_,_,_,_,_,st,ra=>by cases hl
 | x::y::r',[op],hl,_,_,_,_,_,_,st,ra=>by cases hl
 | x::y::r',op::op'::ops,hl,ρ,s,M,H,a,v,st,ra=>by
  show Ev VRel C (holding [v] (eval x env) >>= fun rv=>standAt p >>= fun _=>holding [v,rv] (compareOp op v rv) >>= fun c=>release [v,rv] [c] >>= fun _=>holding [c,rv] (truthy c) >>= fun t =>
    if t=true then compareChain p rv (op'::ops) (evalEach (y::r') env) else pure c) s M ((f x ρ H).bind fun b H₁=>orBad (cmpA H₁ op a b) fun c=>if c then chainE b (op'::ops) ((y::r').map f) ρ H₁ else .ok (.bool false) H₁)
  refine Ev.then (Ev.holding ((h x).1 st)) fun b H₁ u s₁ M₁ x1 rp1 rb=>Ev.orBad fun c e=>Ev.stand ?_
  have st1:=st.step x1 rp1
  have:(if c=true then chainE b (op'::ops) ((y::r').map f) ρ H₁ else .ok (.bool false) H₁)=(Out.ok (.bool c) H₁).bind fun d H₂=>asBool d fun c=>if c=true then chainE b (op'::ops) ((y::r').map f) ρ H₂ else .ok (.bool false) H₂:=rfl
  rw [this]
  refine Ev.then (Ev.holding (ZhA (st.live.step x1) rp1 (ra.keep (x1.kp st.live Zap)) rb e)) fun d H₂ cv s₂ M₂ x2 rp2 rc=>Ev.asBool fun c e=>?_
  subst e
  rw [show cv=.bool c from rc.inv]
  refine Ev.look (v:=()) (fun z=>wpAny_release z) (Ev.look (v:=c) (fun z=>wpAny_holding (wpAny_truthy_bool z)) ?_)
  cases c
  ·exact Ev.pure rp2 (.bool _)
  ·exact ZdZ h (y::r') (op'::ops) (Nat.succ.inj hl) (st1.step x2 rp2) (rb.keep (x2.kp st1.live Zap))
theorem ZeN {f:Expr→DE} (h:∀ e,Snd2 C env ns (f e) e) {p:Pos}:∀ (es:List Expr) (ops:List CmpOp),ops.length=es.length→∀ {ρ:RE} {s:Shared} {M:Mp} {H:AH} {a:AV} {v:Value},St C env ns ρ s M H→VRel (C.wd s.heap M) v a→Ev EqR C (testChain p v ops (evalEach es env)) s M (tst (chainE a ops (es.map f)) ρ H)
 | [],[],_,_,_,_,_,_,_,st,ra=>trivial
 | [],_::_,hl,_,_,_,_,_,_,st,ra=>by cases hl
 | [x],[],hl,_,_,_,_,_,_,st,ra=>by cases hl
 | [x],[op],hl,ρ,s,M,H,a,v,st,ra=>by
  show Ev EqR C (holding [v] (eval x env) >>= fun rv=>standAt p >>= fun _=>operate [v,rv] (compareOp op v rv) >>= fun c=>holding [c] (truthy c)) s M (((f x ρ H).bind fun b H₁=>orBad (cmpA H₁ op a b) fun c=>.ok (.bool c) H₁).bind fun a H₁=>asBool a fun b=>.ok b H₁)
  simp only [Zbv,Ze0]
  refine Ev.then (Ev.holding ((h x).1 st)) fun b H₁ u s₁ M₁ x1 rp1 rb=>Ev.orBad fun c e=>Ev.stand ?_
  refine Ev.then (Ev.operate (ZhA (st.live.step x1) rp1 (ra.keep (x1.kp st.live Zap)) rb e)) fun d H₂ cv s₂ M₂ x2 rp2 rc=>Ev.asBool fun c e=>?_
  subst e
  rw [show cv=.bool c from rc.inv]
  exact Ev.holding (Zex rp2)
 | [x],op::op'::ops,hl,_,_,_,_,_,_,st,ra=>by cases hl
 | x::y::r',[],hl,_,_,_,_,_,_,st,ra=>by cases hl
 | x::y::r',[op],hl,_,_,_,_,_,_,st,ra=>by cases hl
 | x::y::r',op::op'::ops,hl,ρ,s,M,H,a,v,st,ra=>by
  show Ev EqR C (holding [v] (eval x env) >>= fun rv=>standAt p >>= fun _=>holding [v,rv] (compareOp op v rv) >>= fun c=>release [v,rv] [c] >>= fun _=>holding [c,rv] (truthy c) >>= fun t =>
    if t=true then testChain p rv (op'::ops) (evalEach (y::r') env) else pure false) s M (((f x ρ H).bind fun b H₁=>orBad (cmpA H₁ op a b) fun c=>if c then chainE b (op'::ops) ((y::r').map f) ρ H₁ else .ok (.bool false) H₁).bind fun a H₁=>asBool a fun b=>.ok b H₁)
  simp only [Zbv,Ze0]
  refine Ev.then (Ev.holding ((h x).1 st)) fun b H₁ u s₁ M₁ x1 rp1 rb=>Ev.orBad fun c e=>Ev.stand ?_
  have st1:=st.step x1 rp1
  have:((if c=true then chainE b (op'::ops) ((y::r').map f) ρ H₁ else .ok (.bool false) H₁).bind fun a H₁=>asBool a fun b=>.ok b H₁)=(Out.ok (.bool c) H₁).bind fun d H₂=>asBool d fun c=>if c=true then tst (chainE b (op'::ops) ((y::r').map f)) ρ H₂ else .ok false H₂:=by
   cases c<;>rfl
  rw [this]
  refine Ev.then (Ev.holding (ZhA (st.live.step x1) rp1 (ra.keep (x1.kp st.live Zap)) rb e)) fun d H₂ cv s₂ M₂ x2 rp2 rc=>Ev.asBool fun c e=>?_
  subst e
  rw [show cv=.bool c from rc.inv]
  refine Ev.look (v:=()) (fun z=>wpAny_release z) (Ev.look (v:=c) (fun z=>wpAny_holding (wpAny_truthy_bool z)) ?_)
  cases c
  ·exact Ev.pure rp2 rfl
  ·exact ZeN h (y::r') (op'::ops) (Nat.succ.inj hl) (st1.step x2 rp2) (rb.keep (x2.kp st1.live Zap))
theorem ZnJ {f:Expr→DE} (h:∀ e,Snd2 C env ns (f e) e) {l:Expr} {ops:List CmpOp} {es:List Expr} {p:Pos} (hs:es.all notSet=true) (hl:ops.length=es.length):Snd2 C env ns (cmpE (f l) ops (es.map f)) (.Compare l ops es p):=by
 refine ⟨fun {ρ s M H} st=>?_,fun {ρ s M H} st=>?_⟩
 ·show Ev VRel C (eval l env >>= fun v=>compareChain p v ops (markedEach ops es (evalEach es env))) s M _
  rw [Zel ops es _ hs]
  exact ((h l).1 st).then fun a H₁ v s₁ M₁ x1 rp1 ra=>ZdZ h es ops hl (st.step x1 rp1) ra
 ·show Ev EqR C (eval l env >>= fun v=>testChain p v ops (markedEach ops es (evalEach es env))) s M (((f l ρ H).bind fun a H₁=>chainE a ops (es.map f) ρ H₁).bind fun a H₁=>asBool a fun b=>.ok b H₁)
  rw [Zel ops es _ hs,Zbv]
  exact ((h l).1 st).then fun a H₁ v s₁ M₁ x1 rp1 ra=>ZeN h es ops hl (st.step x1 rp1) ra
theorem ZnI {f:Expr→DE} (h:∀ e,Snd2 C env ns (f e) e) {k:Bool} {es:List Expr} {p:Pos}:Snd2 C env ns (bopE k (es.map f)) (.BoolOp (opOf k) es p):=⟨fun st=>ZfQ h k es st,fun st=>Zhw h k es st⟩
end
noncomputable def EvC (C:Cx) (c:Code) (s:Shared) (M:Mp):Out AV→Prop
 | .ok y H'=>codeAny C.S.M C.A c (fun r s'=>∃ v,r=.ok (.ret v)∧Post VRel C s M y H' v s') s
 | .exc x H'=>codeAny C.S.M C.A c (fun r s'=>∃ e,r=.error e∧PostX C s M x H' e s') s
 | .bad=>True
def CallOK (S:Stat) (hot:Bool) (d:Nat) (f:Addr) (args:List AV) (H:AH) (o:Out AV):Prop :=
 ∀ (C:Cx) (s:Shared) (M:Mp) (vals:List Value),C.S=S→C.hot=hot→d≤C.d→Live C s.heap M→Rep S C.pv s.heap M H→VRels (C.wd s.heap M) vals args→EvC C (.call (.ref f) ⟨vals,[]⟩) s M o
def FOK (S:Stat) (hot:Bool) (d:Nat) (Φ:FT):Prop:=∀ f fa args H,S.fa f=some fa→CallOK S hot d fa args H (Φ f args H)
theorem Ev.ofCode {C:Cx} {f:Value} {vals:List Value} {s:Shared} {M:Mp} {o:Out AV} (h:EvC C (.call f ⟨vals,[]⟩) s M o):Ev VRel C (call f vals) s M o:=by
 cases o with
 | bad=>trivial
 | ok y H'=>exact wpAny_call (codeAny_mono h fun r s' z_1=>x1_2 z_1 fun v e p=>by subst e; exact p)
 | exc c H'=>exact wpAny_call (codeAny_mono h fun r s' z_2=>x1_2 z_2 fun v e p=>by subst e; exact p)
section
variable {C:Cx} {G:Gm} {Φ:FT} {d:Nat} {env:Env} {ns:List (Option Str)}
theorem ZkE {e:Expr} {r:List Expr} (h:notStar e=true):starEach (e::r) env=(false,eval e env)::starEach r env:=by
 cases e<;>first | rfl | exact Zco h
theorem Zbu {e:Expr} {r:List Expr} {pos:Pos} (h:notStar e=true):backTo pos (starEach (e::r) env)=(false,eval e env)::backTo pos (starEach r env):=by
 rw [ZkE h]; rfl
theorem ZaD {pos:Pos}:∀ (es:List Expr),es.all notStar=true→(backTo pos (starEach es env)).any (·.1)=false
 | [],_=>rfl
 | e::r,h=>by
  simp only [List.all_cons,qBt] at h
  rw [Zbu h.1]
  simpa using ZaD r h.2
theorem ZdT {f:Expr→DE} (h:∀ e,Snd2 C env ns (f e) e) {pos:Pos}:∀ (es:List Expr),es.all notStar=true→∀ {ρ:RE} {s:Shared} {M:Mp} {H:AH},St C env ns ρ s M H→Ev VRels C (spliced (backTo pos (starEach es env))) s M (evL (es.map f) ρ H)
 | [],_,ρ,s,M,H,st=>Ev.pure st.rep .nil
 | e::r,hs,ρ,s,M,H,st=>by
  simp only [List.all_cons,qBt] at hs
  rw [Zbu hs.1]
  show Ev VRels C (eval e env >>= fun v=>pure [v] >>= fun here=>holding here (spliced (backTo pos (starEach r env))) >>= fun vs=>pure (here++vs)) s M ((f e ρ H).bind fun a H₁=>(evL (r.map f) ρ H₁).bind fun as H₂=>.ok (a::as) H₂)
  refine ((h e).1 st).then fun a H₁ v s₁ M₁ x1 rp1 ra=>Ev.look (fun z=>wpAny_pure z) ?_
  have st1:=st.step x1 rp1
  refine Ev.then (Ev.holding (ZdT h r hs.2 st1)) fun as H₂ vs s₂ M₂ x2 rp2 rs=>?_
  exact Ev.pure rp2 (.cons (ra.keep (x2.kp st1.live Zap)) rs)
theorem ZnQ {f:Expr→DE} (h:∀ e,Snd2 C env ns (f e) e) {es:List Expr} {k:Nat} {p:Pos} (hs:es.all notStar=true):Snd C env ns (tupE (es.map f)) (.Tuple es k p):=fun {ρ s M H} st=>by
 show Ev VRel C (standAt p >>= fun _=>spliced (backTo p (starEach es env)) >>= fun vs=>newTuple vs) s M _
 refine Ev.stand ((ZdT h es hs st).then fun as H₁ vs s₁ M₁ x1 rp1 ra=>Ev.ite fun hz=>?_)
 exact wpAny_newTuple (Zda rp1 (Znl (vs:=vs.toArray) (n:=0) (st.live.step x1) rp1 (by simpa using ra) rfl) _) (by rw [ra.1]; exact hz)
theorem ZnL {mt:Bool} {f:Expr→DE} (h:∀ e,Snd2 C env ns (f e) e) {es:List Expr} {p:Pos} (hs:es.all notStar=true):Snd C env ns (lstE mt (es.map f)) (.List es p):=fun {ρ s M H} st=>by
 show Ev VRel C (standAt p >>= fun _=>spliced (backTo p (starEach es env)) >>= fun vs=>newList vs) s M _
 refine Ev.stand ((ZdT h es hs st).then fun as H₁ vs s₁ M₁ x1 rp1 ra=>Ev.ite fun hz=>?_)
 exact Zee (st.live.step x1) rp1 fun k=>wpAny_newList (k _ vs.toArray 0 _ _ (fun b o e=>Heap.get?_push_of_some _ e) (Zaq _) (Heap.get?_push_size _ rfl) (by simpa using ra)) (by rw [ra.1]; exact hz)
noncomputable def ArgsR:RelT Args (List AV):=fun w a xs=>a.kw=[]∧VRels w a.pos xs
theorem ZmB {f:Expr→DE} (h:∀ e,Snd2 C env ns (f e) e) {es:List Expr} {pos:Pos} {fv:Value} {ρ:RE} {s:Shared} {M:Mp} {H:AH} (hs:es.all notStar=true) (st:St C env ns ρ s M H):Ev ArgsR C (evalArgs fv true (backTo pos (starEach es env)) []) s M (evL (es.map f) ρ H):=by
 have:=ZdT h (pos:=pos) es hs st
 cases es with
 | nil=>exact PyProof.Rows.evalArgs_none (ZaC st.rep ⟨rfl,.nil⟩)
 | cons e r =>
  simp only [List.all_cons,qBt] at hs
  rw [Zbu hs.1] at this ⊢
  generalize evL ((e::r).map f) ρ H=o at this
  cases o with
  | bad=>trivial
  | exc c H'=>exact Calls.evalArgs_plain (wpAny_mono this (fun _ _ q=>q.elim) fun _ _ q=>q)
  | ok y H'=>exact Calls.evalArgs_plain (wpAny_mono this (fun _ _ z_3=>x1_3 z_3 fun M' a b c=>⟨M',a,b,rfl,c⟩) fun _ _ q=>q)
theorem ZdY {f:Expr→DE} (h:∀ e,Snd2 C env ns (f e) e) {es:List Expr} {pos:Pos} {fv:Value} {first:List Value} {ρ:RE} {s:Shared} {M:Mp} {H:AH} {t:Sem Value} {g:List AV→AH→Out AV} (hs:es.all notStar=true) (st:St C env ns ρ s M H)
  (cw:∀ {P:Value→Shared→Prop} {E:Value→Shared→Prop},wpAny C.S.M C.A (evalArgs fv true (backTo pos (starEach es env)) []) (fun a s₁=>C.S.K.In s₁.heap∧wpAny C.S.M C.A (call fv (first++a.pos) a.kw) P E s₁) E s→wpAny C.S.M C.A t P E s)
  (hk:∀ as H₁ vals s₁ M₁,Step C noW s M s₁ M₁→St C env ns ρ s₁ M₁ H₁→VRels (C.wd s₁.heap M₁) vals as→Ev VRel C (call fv (first++vals)) s₁ M₁ (g as H₁)):Ev VRel C t s M ((evL (es.map f) ρ H).bind g):=by
 have A:=ZmB (fv:=fv) (pos:=pos) h hs st
 generalize evL (es.map f) ρ H=o at A
 cases o with
 | bad=>trivial
 | exc c H'=>exact cw (wpAny_mono A (fun _ _ q=>q.elim) fun _ _ q=>q)
 | ok as H₁ =>
  show Ev VRel C t s M (g as H₁)
  have B:=fun vals s₁ M₁ x1 rp1 r=>hk as H₁ vals s₁ M₁ x1 (st.step x1 rp1) r
  generalize g as H₁=o' at B
  cases o' with
  | bad=>trivial
  | exc c H' =>
   refine cw (wpAny_mono A (fun a s₁ z_4=>x1_4 z_4 fun M₁ x1 rp1 hkw r=>⟨(st.live.step x1).K,?_⟩) fun _ _ q=>q.elim)
   rw [hkw]
   exact wpAny_mono (B a.pos s₁ M₁ x1 rp1 r) (fun _ _ q=>q) fun _ _ z_5=>x3_2 z_5 fun e M₂ B he z=>⟨e,M₂,B,he,z.after x1 fun _ q=>q⟩
  | ok y H' =>
   refine cw (wpAny_mono A (fun a s₁ z_6=>x1_4 z_6 fun M₁ x1 rp1 hkw r=>⟨(st.live.step x1).K,?_⟩) fun _ _ q=>q.elim)
   rw [hkw]
   exact wpAny_mono (B a.pos s₁ M₁ x1 rp1 r) (fun _ _ z_7=>x1_2 z_7 fun M₂ x2 z=>⟨M₂,x1.trans x2,z⟩) fun _ _ q=>q
theorem ZfZ {K:Frag} {f:Addr} (h:fnIn K f=true):keepIn K (.ref f)=true:=by
 unfold fnIn at h
 unfold keepIn
 dsimp only
 cases q:K.lookup f with
 | none=>rw [q] at h; cases h
 | some o =>
  rw [q] at h
  obtain ⟨_,_,d,_⟩:=o
  cases d with
  | func _=>rfl
  | _=>exact Zco h
theorem Zl5 {f:Expr→DE} (Y:Fit C.S G) (F:FOK C.S C.hot d Φ) (hd:d≤C.d) (h:∀ e,Snd2 C env ns (f e) e) {x:Str} {i:Nat} {es:List Expr} {p p':Pos} (hk:env.kindOf x=some .globalImplicit) (hdb:(x == ("__debug__" : Str))=false) (hi:C.S.T.fns[i]?=some (some x)) (hs:es.all notStar=true) :
  Snd C env ns (callE Φ i (es.map f)) (.Call (.Name x p') es [] p):=fun {ρ s M H} st=>by
 refine x1_3 (Y.fn i x hi) fun fa h1 h2 h3=>?_
 show Ev VRel C (eval (.Name x p') env >>= fun fv=>callWith p fv [] (backTo p (starEach es env)) []) s M _
 refine Ev.look (fun z=>Zb2 st hk hdb h2 z) ?_
 refine ZdY (first:=[]) h hs st (fun z=>callWith_of (P:=C.S.K.In) (by rw [ZaD es hs]; rfl) (keeps_K (ZfZ h3)) z) fun as H₁ vals s₁ M₁ x1 st1 r=>?_
 exact Ev.ofCode (F i fa as H₁ h1 C s₁ M₁ vals rfl rfl hd st1.live st1.rep r)
theorem ZiV (b:Bi):(∃ i,biV b=.builtin i)∨∃ T,biV b=.type T:=by cases b<;>first | exact .inl ⟨_,rfl⟩ | exact .inr ⟨_,rfl⟩
theorem ZoK {f:Expr→DE} (Y:Fit C.S G) (h:∀ e,Snd2 C env ns (f e) e) {x:Str} {b:Bi} {es:List Expr} {p p':Pos} (hk:env.kindOf x=some .globalImplicit) (hdb:(x == ("__debug__" : Str))=false) (hn:x ≠ "__name__") (hx:x∈biNames) (hb:bootBuiltins x=some (biV b)) (hs:es.all notStar=true) :
  Snd C env ns (biE C.hot b (es.map f)) (.Call (.Name x p') es [] p):=fun {ρ s M H} st=>by
 show Ev VRel C (eval (.Name x p') env >>= fun fv=>callWith p fv [] (backTo p (starEach es env)) []) s M _
 refine Ev.look (fun z=>Zen st hk hdb (Y.bi x hx) hb hn z) ?_
 refine ZdY (first:=[]) (pos:=p) h hs st (fun {P E} z=>?_) fun as H₁ vals s₁ M₁ x1 st1 r=>Znr st1.live st1.rep r
 have z':=wpAny_mono z (fun a s₁ q=>q.2) fun _ _ q=>q
 rcases ZiV b with ⟨i,e⟩ | ⟨T,e⟩<;>rw [e] at z' ⊢
 ·exact Calls.callWith_builtin (ZaD es hs) z'
 ·exact PyProof.Rows.callWith_type (ZaD es hs) z'
theorem Zdh {o:Expr} {m:Str} {w:Sem Value} (h:plainBase o=true):attributeBase o m env w=w:=by
 cases o<;>first | rfl | skip
 rename_i f as ks p
 cases f<;>first | rfl | skip
 cases as<;>first | rfl | skip
 cases ks<;>first | rfl | cases h
theorem Zju {pos:Pos} {es:List Expr} (hs:es.all notStar=true) (hl:es.length<20):methodCallForm (es.length+([]:List Keyword).length) (backTo pos (starEach es env)) (backToKw pos (keywordEach [] env))=true:=by
 unfold methodCallForm
 have h1:(backTo pos (starEach es env)).all (fun x=>!x.1)=true:=by
  have:=ZaD (env:=env) (pos:=pos) es hs
  rw [List.all_eq_true]
  rw [List.any_eq_false] at this
  intro x hx
  simpa using this x hx
 rw [h1]
 simp only [Bool.true_and]
 have h2:(backToKw pos (keywordEach [] env)).all (fun x=>x.1.isSome)=true:=rfl
 have h3:(backToKw pos (keywordEach [] env)).isEmpty=true:=rfl
 rw [h2,h3]
 simp
 lia
theorem ZoM {f:Expr→DE} (h:∀ e,Snd2 C env ns (f e) e) {b:Bm} {o':Expr} {es:List Expr} {apos p:Pos} (hb:plainBase o'=true) (hs:es.all notStar=true) (hl:es.length<20) (hline:(apos.endLine == p.line)=true) :
  Snd C env ns (mbE b (f o') (es.map f)) (.Call (.Attribute o' b.name apos) es [] p):=fun {ρ s M H} st=>by
 show Ev VRel C (eval (.Call (.Attribute o' b.name apos) es [] p) env) s M _
 rw [arm_eval_Call,Zdh hb]
 refine ((h o').1 st).then fun a H₁ v s₁ M₁ x1 rp1 ra=>Ev.orBad fun id hid=>Ev.stand ?_
 unfold methodCall
 rw [Zju hs hl]
 have hpos:methodCallPos true o' env apos p=pure p:=by unfold methodCallPos; simp [hline]
 have st1:=st.step x1 rp1
 refine x1_5 (Znh rp1 ra hid) fun T pa slot hty hT hdd=>?_
 refine Ev.look (fun z=>wpAny_holding (getMethod_builtin hT pa slot hty hdd z)) (Ev.look (fun z=>wpAny_of_eq hpos z) ?_)
 refine ZdY (first:=[v]) h hs st1 (fun z=>Calls.callWith_builtin (ZaD es hs) (wpAny_mono z (fun a s₁ q=>q.2) fun _ _ q=>q)) fun as H₂ vals s₂ M₂ x2 st2 r=>Ev.ite fun hkd=>?_
 rw [hkd] at hid
 exact Zns st2.live st2.rep (ra.keep (x2.kp st1.live Zap)) r hid
theorem ZoN {f:Expr→DE} (Y:Fit C.S G) (F:FOK C.S C.hot d Φ) (hd:d≤C.d) (h:∀ e,Snd2 C env ns (f e) e) {m:Nat} {x:Str} {o':Expr} {es:List Expr} {apos p:Pos} (hx:C.S.T.mn[m]?=some x) (hb:plainBase o'=true) (hs:es.all notStar=true) (hl:es.length<20) (hline:(apos.endLine == p.line)=true) :
  Snd C env ns (moE G Φ m (f o') (es.map f)) (.Call (.Attribute o' x apos) es [] p):=fun {ρ s M H} st=>by
 show Ev VRel C (eval (.Call (.Attribute o' x apos) es [] p) env) s M _
 rw [arm_eval_Call,Zdh hb]
 refine ((h o').1 st).then fun a H₁ v s₁ M₁ x1 rp1 ra=>Ev.orBad fun i hi=>Ev.orBad fun fi hf=>Ev.stand ?_
 obtain ⟨n,c,fs⟩:=i
 unfold methodCall
 rw [Zju hs hl]
 have hpos:methodCallPos true o' env apos p=pure p:=by unfold methodCallPos; simp [hline]
 have st1:=st.step x1 rp1
 refine x4_7 (Zm0 rp1 ra hi) fun q D ds k e4' z hc I hde fr ne=>?_; subst e4'
 refine x2_6 (Y.mth c D m fi hc hf) fun x' fa e1 e2 e3 e4 e5 e6=>?_
 rw [hx] at e1
 cases e1
 have K:=Y.cls c D hc
 refine Ev.look (fun z=>wpAny_holding (method_fn st1.live.K I K.ga K.gt e4 (beq_iff_eq.mp e5) ?_ z)) (Ev.look (fun z=>wpAny_of_eq hpos z) ?_)
 ·have:=fr.2.2.1 x e2
  show (lookIn x (dictOf ds k)).map _=_
  rw [lookIn_dict,this]; rfl
 refine ZdY (first:=[.ref q.1]) h hs st1 (fun z=>callWith_of (P:=C.S.K.In) (by rw [ZaD es hs]; rfl) (keeps_K (ZfZ e6)) z) fun as H₂ vals s₂ M₂ x2 st2 r=>?_
 exact Ev.ofCode (F fi fa (a::as) H₂ e3 C s₂ M₂ (.ref q.1::vals) rfl rfl hd st2.live st2.rep (.cons (ra.keep (x2.kp st1.live Zap)) r))
theorem Zl4 (Y:Fit C.S G) {f:DE} {k:Nat} {e':Expr} {x:Str} {p:Pos} (h0:Snd C env ns f e') (hx:C.S.an[k]?=some x) (hb:plainBase e'=true):Snd C env ns (attrE k f) (.Attribute e' x p):=fun {ρ s M H} st=>by
 show Ev VRel C (attributeBase e' x env (eval e' env) >>= fun o=>standAt p.atName >>= fun _=>holding [o] (getAttr o x true) >>= fun r=>letTemporaryGo e' o r >>= fun _=>pure r) s M _
 rw [Zdh hb]
 refine (h0 st).then fun a H₁ v s₁ M₁ x1 rp1 ra=>Ev.orBad fun i hi=>Ev.stand ?_
 obtain ⟨n,c,fs⟩:=i
 show Ev VRel C _ s₁ M₁ (match fs[k]? with | some (some v)=>.ok v H₁ | _=>.bad)
 split
 ·rename_i b hb
  rw [show Out.ok b H₁=(Out.ok b H₁).bind fun y H=>.ok y H from rfl]
  refine Ev.then (Ev.holding (Zkb Y (st.live.step x1) rp1 ra hi hx hb)) fun y H₂ u s₂ M₂ x2 rp2 ry=>?_
  exact Ev.look (v:=()) (fun z=>wpAny_letTemporaryGo z) (Ev.pure rp2 ry)
 ·trivial
end
section
variable {C:Cx} {G:Gm} {Φ:FT} {d:Nat} {env:Env} {ns:List (Option Str)}
theorem Zio {s:Shared} {M:Mp} {H:AH} {v:Value} {a:AV} (rp:Rep C.S C.pv s.heap M H) (r:VRel (C.wd s.heap M) v a) (h:(∃ xs,lsOf H a=some xs)∨(∃ xs,a=.tup xs)∨(∃ x,a=.str x)∨∃ p,dcOf H a=some p) :
  ∃ T id,s.TypeIs v T∧typeLookup (.type T) "__getitem__" = pure (some (.builtin id)):=by
 rcases h with ⟨xs,e⟩ | ⟨xs,rfl⟩ | ⟨x,rfl⟩ | ⟨⟨n,es⟩,e⟩
 ·refine x3_3 (ZeK rp r e) fun l vs n e3' hl rl=>?_; subst e3'
  exact ⟨"list", _,⟨_,hl,rfl⟩,list_getitem_lookup⟩
 ·refine x3_3 (r.inv) fun l vs n e3' ho _=>?_; subst e3'
  exact ⟨"tuple", _,⟨_,ho,rfl⟩,F.slot_tuple_getitem.lookup⟩
 ·refine x1_2 (r.inv) fun t e1' _=>?_; subst e1'
  exact ⟨"str", _,typeIs_str _ _ _,F.slot_str_getitem.lookup⟩
 ·refine x2_5 (ZeG rp r e) fun p kvs e2' z _ hd _=>?_; subst e2'
  exact ⟨"dict", _,hd.typeIs,F.slot_dict_getitem.lookup⟩
noncomputable def itemy (H:AH) (a:AV):Bool:=(lsOf H a).isSome || (dcOf H a).isSome || (match a with | .tup _=>true | .str _=>true | _=>false)
theorem ZgZ {H:AH} {a:AV} (h:itemy H a=true):(∃ xs,lsOf H a=some xs)∨(∃ xs,a=.tup xs)∨(∃ x,a=.str x)∨∃ p,dcOf H a=some p:=by
 unfold itemy at h
 rw [Bool.or_eq_true,Bool.or_eq_true] at h
 rcases h with (h | h) | h
 ·exact .inl (Option.isSome_iff_exists.mp h)
 ·exact .inr (.inr (.inr (Option.isSome_iff_exists.mp h)))
 ·cases a with
  | tup xs=>exact .inr (.inl ⟨xs,rfl⟩)
  | str x=>exact .inr (.inr (.inl ⟨x,rfl⟩))
  | _=>exact Zco h
theorem ZoR {P:Prop} (h:true=false):P:=nomatch h
theorem ZkK {a i:AV} {H:AH} (h:itemy H a=false):subA a i H=.bad:=by
 unfold itemy at h
 rw [Bool.or_eq_false_iff,Bool.or_eq_false_iff] at h
 obtain ⟨⟨h1,h2⟩,h3⟩:=h
 have e1:lsOf H a=none:=by simpa using h1
 have e2:dcOf H a=none:=by simpa using h2
 unfold subA
 rw [e2]
 cases i<;>first | rfl | skip
 cases a<;>first | exact ZoR h3 | (simp only [asInt,e1]; rfl)
theorem Zky {mt:Bool} {a l u t:AV} {H:AH} (h:itemy H a=false):slcA mt a l u t H=.bad:=by
 unfold itemy at h
 rw [Bool.or_eq_false_iff,Bool.or_eq_false_iff] at h
 obtain ⟨⟨h1,h2⟩,h3⟩:=h
 have e1:lsOf H a=none:=by simpa using h1
 unfold slcA
 cases optI l<;>first | rfl | skip
 cases optI u<;>first | rfl | skip
 cases t.isNone<;>first | rfl | skip
 cases a<;>first | exact ZoR h3 | (simp only [orBad,e1,↓reduceIte])
theorem ZkN {value slice:Expr} {o i:Value} {s:Shared} {M:Mp} {H:AH} {a:AV} {r:Out AV} {ops:List Value} (rp:Rep C.S C.pv s.heap M H) (ra:VRel (C.wd s.heap M) o a) (hb:itemy H a=false→r=.bad)
  (hs:subscripted slice false o i=operate ops (getItem o i)) (hg:Ev VRel C (getItem o i) s M r):Ev VRel C (getitemInPython o >>= fun b=>subscripted slice b o i >>= fun r=>letTemporaryGo value o r >>= fun _=>pure r) s M r:=by
 cases h:itemy H a with
 | false=>rw [hb h]; trivial
 | true =>
  refine x2_2 (Zio rp ra (ZgZ h)) fun T id hT hl=>?_
  exact hg.map fun z=>tail_any (value:=value) hT hl z hs
theorem ZnP {f g:DE} {e' i':Expr} {p:Pos} (h0:Snd C env ns f e') (h1:Snd C env ns g i') (hn:notSlice i'=true):Snd C env ns (subE f g) (.Subscript e' i' p):=fun {ρ s M H} st=>by
 show Ev VRel C (eval e' env >>= fun o=>holding [o] (eval i' env) >>= fun i=>standAt p >>= fun _=>getitemInPython o >>= fun b=>subscripted i' b o i >>= fun r=>letTemporaryGo e' o r >>= fun _=>pure r) s M _
 refine (h0 st).then fun a H₁ v s₁ M₁ x1 rp1 ra=>?_
 have st1:=st.step x1 rp1
 refine Ev.then (Ev.holding (h1 st1)) fun b H₂ u s₂ M₂ x2 rp2 rb=>Ev.stand ?_
 have ra2:=ra.keep (x2.kp st1.live Zap)
 exact ZkN (ops:=[v,u]) rp2 ra2 ZkK (by cases i'<;>first | rfl | cases hn) (Zh1 (st1.live.step x2) rp2 ra2 rb)
def SndO (C:Cx) (env:Env) (ns:List (Option Str)) (f:DE) (e:Option Expr):Prop :=
 ∀ {ρ:RE} {s:Shared} {M:Mp} {H:AH},St C env ns ρ s M H→Ev VRel C (valueOrNone (evalOpt e env)) s M (f ρ H)
theorem Zhe {f:Expr→DE} (h:∀ e,Snd2 C env ns (f e) e):∀ o:Option Expr,SndO C env ns ((o.map f).getD (cstE .none)) o
 | none=>fun st=>Ev.pure st.rep .none
 | some e=>fun st=>(h e).1 st
noncomputable def SliceR:RelT Value (AV×AV×AV):=fun w v a=>∃ g w₁ w₂ w₃,v=.ref g∧w.h.IsSliceOf g w₁ w₂ w₃∧VRel w w₁ a.1∧VRel w w₂ a.2.1∧VRel w w₃ a.2.2
theorem ZnO {mt:Bool} {f lo hi t:DE} {e':Expr} {lo' hi' t':Option Expr} {p p':Pos} (h0:Snd C env ns f e') (h1:SndO C env ns lo lo') (h2:SndO C env ns hi hi') (h3:SndO C env ns t t'):Snd C env ns (slcE mt f lo hi t) (.Subscript e' (.Slice lo' hi' t' p') p):=fun {ρ s M H} st=>by
 show Ev VRel C (eval e' env >>= fun o=>holding [o] (eval (.Slice lo' hi' t' p') env) >>= fun i=>standAt p >>= fun _=>getitemInPython o >>= fun b=>subscripted (.Slice lo' hi' t' p') b o i >>= fun r=>letTemporaryGo e' o r >>= fun _=>pure r) s M _
 refine (h0 st).then fun a H₁ v s₁ M₁ x1 rp1 ra=>?_
 have st1:=st.step x1 rp1
 have sl:Ev SliceR C (eval (.Slice lo' hi' t' p') env) s₁ M₁ ((lo ρ H₁).bind fun l H₂=>(hi ρ H₂).bind fun u H₃=>(t ρ H₃).bind fun k H₄=>.ok (l,u,k) H₄):=by
  show Ev SliceR C (valueOrNone (evalOpt lo' env) >>= fun l=>holding [l] (valueOrNone (evalOpt hi' env)) >>= fun u=>holding [l,u] (valueOrNone (evalOpt t' env)) >>= fun k=>newFields "slice" [l,u,k]) s₁ M₁ _
  refine (h1 st1).then fun a H₁ v s₁ M₁ x1 rp1 ra=>?_
  have st1:=st1.step x1 rp1
  refine Ev.then (Ev.holding (h2 st1)) fun b H₂ u s₂ M₂ x2 rp2 rb=>?_
  have st2:=st1.step x2 rp2
  refine Ev.then (Ev.holding (h3 st2)) fun c H₃ k s₃ M₃ x3 rp3 rc=>?_
  have ex:∀ {o:Obj},Kp (C.wd s₃.heap M₃) (C.wd (s₃.heap.push o) M₃):=fun {o}=>ZdB fun b o e=>Heap.get?_push_of_some _ e
  exact wpAny_newObj_type (Zda rp3 ⟨_,v,u,k,rfl,Heap.IsSliceOf.new _ _ _ _,((ra.keep (x2.kp st1.live Zap)).keep (x3.kp st2.live Zap)).keep ex,(rb.keep (x3.kp st2.live Zap)).keep ex,rc.keep ex⟩ _)
 have:((lo ρ H₁).bind fun l H₂=>(hi ρ H₂).bind fun u H₃=>(t ρ H₃).bind fun k H₄=>slcA mt a l u k H₄)=((lo ρ H₁).bind fun l H₂=>(hi ρ H₂).bind fun u H₃=>(t ρ H₃).bind fun k H₄=>.ok (l,u,k) H₄).bind fun y H₄=>slcA mt a y.1 y.2.1 y.2.2 H₄:=by
  simp only [Zbv]; rfl
 show Ev VRel C _ s₁ M₁ ((lo ρ H₁).bind fun l H₂=>(hi ρ H₂).bind fun u H₃=>(t ρ H₃).bind fun k H₄=>slcA mt a l u k H₄)
 rw [this]
 refine Ev.then (Ev.holding sl) fun y H₂ i s₂ M₂ x2 rp2 ri=>Ev.stand ?_
 refine x4_5 (ri) fun g w₁ w₂ w₃ e4' hg r1 r2 r3=>?_; try clear ri; subst e4'
 have ra2:=ra.keep (x2.kp st1.live Zap)
 have hsub:∃ ops,subscripted (.Slice lo' hi' t' p') false v (.ref g)=operate ops (getItem v (.ref g)):=by
  cases t'
  ·exact ⟨[.ref g,v],rfl⟩
  ·exact ⟨[v,.ref g],rfl⟩
 obtain ⟨ops,hsub⟩:=hsub
 exact ZkN (ops:=ops) rp2 ra2 Zky hsub (ZlO (st1.live.step x2) rp2 ra2 r1 r2 r3 hg)
theorem Zl7 {p:Pos}:Snd C env ns dct0E (.Dict [] [] p):=fun {ρ s M H} st=>by
 show Ev VRel C (standAt p >>= fun _=>dictDisplay []) s M (.ok (.ref H.length) (H++[.dict []]))
 refine Ev.stand ?_
 show wpAny C.S.M C.A newDict _ _ s
 have hr:=Zaq s.heap
 have k:∀ (ob:Obj) b o,s.heap.get? b=some o→(s.heap.push ob).get? b=some o:=fun ob b o e=>Heap.get?_push_of_some _ e
 refine wpAny_bind (wpAny_alloc (wpAny_pure ⟨M++[(s.heap.objs.size,s.heap.objs.size)],Step.new (t:=s.toks) (k _) hr hr,st.rep.newO (fun a q=>st.live.priv a (.inr q)) (fun _ q=>nomatch q) (k _) hr hr ⟨rfl,[],Heap.DictOf.new _,rfl,.nil,fun _ h=>nomatch h⟩,.ref (p:=(s.heap.objs.size,s.heap.objs.size)) ?_⟩))
 show (M++[_])[H.length]?=_
 rw [← st.rep.len]; simp
theorem Zk9 {k v:Sem Value} {S:Model} {A:Around} {P:Value→Shared→Prop} {E:Value→Shared→Prop} {s:Shared} {p:Pos} (h:wpAny S A (alloc { cls:=.type "dict", data:=.dict #[] } >>= fun d=>k >>= fun a=>v >>= fun b=>standAt p >>= fun _=>dictSet d a b >>= fun _=>pure (.ref d)) P E s):wpAny S A (dictDisplay [(some k,v >>= fun x=>standAt p >>= fun _=>pure x)]) P E s:=by
 rw [show dictDisplay [(some k,v >>= fun x=>standAt p >>= fun _=>pure x)]=_ from dictDisplay_pairs [(k,v >>= fun x=>standAt p >>= fun _=>pure x)] (by simp) (by simp)]
 intro Γ q hΓ
 have:=h Γ q hΓ
 unfold subDict
 simp only [List.length_cons,List.length_nil,if_pos (show 0+1≤15 by decide),evalPairs,Sem.wp_bind',Sem.wp_holding,Sem.wp_pure',List.forIn_cons,List.forIn_nil] at this ⊢
 exact this
theorem Zkc {s:Shared} {M:Mp} {H H':AH} {v:Value} {w₀:Value} {d:Addr} {o i a:AV} (L:Live C s.heap M) (rp:Rep C.S C.pv s.heap M H) (ro:VRel (C.wd s.heap M) (.ref d) o) (ri:VRel (C.wd s.heap M) w₀ i) (rv:VRel (C.wd s.heap M) v a) {n:Nat} {es:List (Key×AV)} (ho:o=.ref n) (q:H[n]?=some (.dict es)) (e:setItemA o i a H=some H'):Ev EqR C (dictSet d w₀ v) s M (.ok () H'):=by
 subst ho
 rw [Zbd q] at e
 simp only at e
 split at e<;>first | exact Zad e | skip
 rename_i hz
 refine x1_2 (oms e) fun k hk e2'=>?_; subst e2'
 refine x2_7 (ZeG (n:=n) (es:=es) rp ro (ZaN q)) fun p kvs e2' z ep hm e1 e2 ok=>?_; cases e2'
 have hlen:kvs.length=es.length:=by simpa using congrArg List.length e1
 refine wpAny_dictSet_pairs (hsz:=by rw [hlen,sizeLine_eq]; exact Nat.le_of_lt (lt_t ‹_› rfl)) (Zcs ri hk).1 hm fun h' hm' hsb=>?_
 refine Zbz L rp z (fun es e=>by rw [q] at e; cases e) (fun _ q=>nomatch q) (fun b o hb _ z=>(hsb.2 b hb).trans z) (fun K=>?_) (fun K=>rfl)
 have hz:=Ze9 (k:=k) (rv.keep K) e1 (e2.keep K)
 exact ⟨ep,_,hm',hz.1,hz.2,Zkp ok (Zcs ri hk).2⟩
theorem Zl8 {f g:DE} {e' i':Expr} {p:Pos} (h0:Snd C env ns f e') (h1:Snd C env ns g i'):Snd C env ns (dct1E f g) (.Dict [some e'] [i'] p):=fun {ρ s M H} st=>by
 show Ev VRel C (standAt p >>= fun _=>dictDisplay [(some (eval e' env),eval i' env >>= fun x=>standAt p >>= fun _=>pure x)]) s M (dctF f g ρ (.ref H.length) (H++[.dict []]))
 refine Ev.stand (Ev.map Zk9 ?_)
 have hr:=Zaq s.heap
 have k:∀ (ob:Obj) b o,s.heap.get? b=some o→(s.heap.push ob).get? b=some o:=fun ob b o e=>Heap.get?_push_of_some _ e
 have a0:Ev (fun w d a=>VRel w (.ref d) a) C (alloc { cls:=.type "dict", data:=.dict #[] }) s M (.ok (.ref H.length) (H++[.dict []])):=wpAny_alloc ⟨M++[(s.heap.objs.size,s.heap.objs.size)],Step.new (t:=s.toks) (k _) hr hr,st.rep.newO (fun a q=>st.live.priv a (.inr q)) (fun _ q=>nomatch q) (k _) hr hr ⟨rfl,[],Heap.DictOf.new _,rfl,.nil,fun _ h=>nomatch h⟩,.ref (p:=(s.heap.objs.size,s.heap.objs.size)) (by
  show (M++[_])[H.length]?=_
  rw [← st.rep.len]; simp)⟩
 refine Ev.then (f:=fun d H=>dctF f g ρ d H) a0 fun a H₁ dd s₁ M₁ x1 rp1 ra=>?_
 have st1:=st.step x1 rp1
 refine (h0 st1).then fun b H₂ u s₂ M₂ x2 rp2 rb=>?_
 have st2:=st1.step x2 rp2
 refine (h1 st2).then fun c H₃ w s₃ M₃ x3 rp3 rc=>?_
 refine Ev.stand (Ev.ite fun hd=>Ev.orBad fun H₄ e=>?_)
 have kp2:=x2.kp st1.live Zap
 have kp3:=x3.kp st2.live Zap
 have ra1:VRel (C.wd s₁.heap M₁) (.ref dd) a:=ra
 have ra3:VRel (C.wd s₃.heap M₃) (.ref dd) a:=(ra1.keep kp2).keep kp3
 have L3:=st2.live.step x3
 obtain ⟨⟨n,es⟩,hq⟩:=Option.isSome_iff_exists.mp hd
 have ho:a=.ref n∧H₃[n]?=some (.dict es):=by
  cases a<;>first | exact Zad hq | skip
  rename_i m
  cases h:H₃[m]? with
  | none=>rw [ZaN h] at hq; cases hq
  | some ao =>
   rw [ZaN h] at hq
   cases ao with
   | dict es'=>cases hq; exact ⟨rfl,h⟩
   | ldict es'=>rw [Zbd h] at e; cases e
   | _=>cases hq
 refine Ev.then (o:=.ok () H₄) (f:=fun _ H=>.ok a H) (Zkc L3 rp3 ra3 (rb.keep kp3) rc ho.1 ho.2 e) fun _ H₅ _ s₅ M₅ x5 rp5 _=>Ev.pure rp5 (ra3.keep (x5.kp L3 Zap))
theorem ZfS (C:Addr) (rest:List Value):(Code.builtin "type.__call__" ⟨.ref C::rest,[]⟩).weight=1∧(Code.builtin "type.__call__" ⟨.ref C::rest,[]⟩).cUnits≤20∧(Code.builtin "type.__call__" ⟨.ref C::rest,[]⟩).envs=[]:=by
 refine ⟨rfl,?_,rfl⟩
 have:∃ n,n≤20∧(Code.builtin "type.__call__" ⟨.ref C::rest,[]⟩).cUnits=n:=⟨1,by decide,by with_unfolding_all rfl⟩
 refine x1_2 (this) fun n h1 h2=>?_; try clear this
 lia
theorem Zos {c f:Nat} {s:Shared} {M:Mp} {H:AH} {as:List AV} {vals:List Value} {D:Addr} (Y:Fit C.S G) (F:FOK C.S C.hot d Φ) (hd:d+1≤C.d) (hc:C.S.cl c=some D) (hf:G.fn c 0=some f) (L:Live C s.heap M) (rp:Rep C.S C.pv s.heap M H) (ra:VRels (C.wd s.heap M) vals as) :
  Ev VRel C (call (.ref D) vals) s M ((Φ f (.ref H.length::as) (H++[.inst c (List.replicate G.na none)])).bind fun r H₂=>match r with | .none=>.ok (.ref H.length) H₂ | _=>.bad):=by
 refine x2_6 (Y.mth c D 0 f hc hf) fun x fa e1 e2 e3 e4 e5 e6=>?_
 rw [Y.ini] at e1
 cases e1
 have K:=Y.cls c D hc
 refine Ev.ofCode ?_
 obtain ⟨hp,g,dr,t,os⟩:=s
 have XK:C.S.K.In hp:=L.K
 have mk:∀ {R:Result→Shared→Prop},codeAny C.S.M (C.A.under (.builtin "type.__call__" ⟨.ref D::vals,[]⟩)) (.call (.ref fa) ⟨.ref (hp.objs.size+1)::vals,[]⟩) (InitBack (hp.objs.size+1) R) ⟨(hp.push emptyDict).push (instObj D hp.objs.size),g,dr,t,os⟩→codeAny C.S.M C.A (.call (.ref D) ⟨vals,[]⟩) R ⟨hp,g,dr,t,os⟩:=fun z =>
  make_core (makes_of XK K.mks) (looks_findIn XK e4) (fun self=>bind_fn XK self (beq_iff_eq.mp e5)) (.inl rfl) z
 refine x0_3 (ZfS D vals) fun u1 u2 u3=>?_
 let C':Cx:={ C with A:=C.A.under (.builtin "type.__call__" ⟨.ref D::vals,[]⟩),d:=C.d-1 }
 have kp:∀ b o,hp.get? b=some o→((hp.push emptyDict).push (instObj D hp.objs.size)).get? b=some o:=fun b o e=>Heap.get?_push_of_some _ (Heap.get?_push_of_some _ e)
 have hdx:hp.get? hp.objs.size=none:=Zaq _
 have hx:hp.get? (hp.objs.size+1)=none:=by
  cases q:hp.get? (hp.objs.size+1) with
  | none=>rfl
  | some o=>exact absurd (Heap.lt_size q) (Nat.not_lt.mpr (Nat.le_succ _))
 have hx1:((hp.push emptyDict).push (instObj D hp.objs.size)).get? (hp.objs.size+1)=some (instObj D hp.objs.size):=by
  have:=Heap.get?_push_size (hp.push emptyDict) (o:=instObj D hp.objs.size) rfl
  rw [Heap.size_push] at this
  exact this
 have rp':Rep C.S C.pv ((hp.push emptyDict).push (instObj D hp.objs.size)) (M++[(hp.objs.size+1,hp.objs.size)]) (H++[.inst c (List.replicate G.na none)]):=by
  refine rp.newO (p:=(hp.objs.size+1,hp.objs.size)) (fun a q=>L.priv a (.inr q)) (fun _ q=>nomatch q) kp hx hdx ⟨Ne.symm (Nat.succ_ne_self _),D,[],0,hc,hx1,Heap.get?_push_of_some _ (Heap.get?_push_size _ rfl),?_,?_,fun _ _=>rfl,fun k x hk=>?_⟩
  ·unfold cnt; rw [List.countP_replicate]; rfl
  ·rw [List.length_replicate]; exact Y.na
  ·rw [List.getElem?_replicate]
   by_cases q:k<G.na
   ·rw [if_pos q]; rfl
   ·rw [if_neg q]; rfl
 have x1:Step C noW ⟨hp,g,dr,t,os⟩ M ⟨(hp.push emptyDict).push (instObj D hp.objs.size),g,dr,t,os⟩ (M++[(hp.objs.size+1,hp.objs.size)]):=Step.new (s:=⟨hp,g,dr,t,os⟩) (t:=t) kp hx hdx
 have L1:=L.step x1
 have L':Live C' ((hp.push emptyDict).push (instObj D hp.objs.size)) (M++[(hp.objs.size+1,hp.objs.size)]):=by
  refine ⟨?_,L1.funs,L1.stays,L1.off,L1.new,fun h=>L1.handled h,L1.dicts,?_,?_,L1.priv,L1.poff⟩
  ·show pushEnvs (Code.builtin "type.__call__" ⟨.ref D::vals,[]⟩).envs C.A.frames=some C.fe
   rw [u3]; exact L1.frames
  ·show C.A.depth+_+(C.d-1)<recursionLimit
   rw [u1]; have:C.A.depth+C.d<recursionLimit:=L1.depth; lia -abstractProof
  ·show C.A.units+_+20*(C.d-1)+100<cLine
   have:C.A.units+20*C.d+100<cLine:=L1.units; lia -abstractProof
 have Ks:Kp (C.wd hp M) (C.wd ((hp.push emptyDict).push (instObj D hp.objs.size)) (M++[(hp.objs.size+1,hp.objs.size)])):=ZjM kp hx hdx
 have self:VRel (C.wd ((hp.push emptyDict).push (instObj D hp.objs.size)) (M++[(hp.objs.size+1,hp.objs.size)])) (.ref (hp.objs.size+1)) (.ref H.length):=by
  refine .ref (p:=(hp.objs.size+1,hp.objs.size)) ?_
  show (M++[_])[H.length]?=_
  rw [← rp.len]; simp
 have back:∀ {W:Addr→Prop} {s s':Shared} {M M':Mp},Step C' W s M s' M'→Step C W s M s' M':=fun x=>⟨x.keep,x.slots,x.alive,x.pre,x.grow,x.gens,x.os⟩
 have B:=F f fa (.ref H.length::as) (H++[.inst c (List.replicate G.na none)]) e3 C' ⟨(hp.push emptyDict).push (instObj D hp.objs.size),g,dr,t,os⟩ _ (.ref (hp.objs.size+1)::vals) rfl rfl (by show d≤C.d-1; lia -abstractProof) L' rp' (.cons self (ra.keep Ks))
 generalize Φ f (.ref H.length::as) (H++[.inst c (List.replicate G.na none)])=o at B
 cases o with
 | bad=>trivial
 | exc c' H' =>
  refine mk (codeAny_mono B fun r s' z_1=>x1_2 z_1 fun e he z_1=>x3_2 z_1 fun e' M' B' ev ex=>?_)
  subst he
  have ex':Exn C noW _ (M++[(hp.objs.size+1,hp.objs.size)]) e' c' s' M' H' B':=⟨ex.keepB,ex.base,ex.rep,ex.flt,ex.slots,ex.alive,ex.pre,ex.grow,ex.gens,ex.os,ex.fresh⟩
  exact ⟨_,rfl,e',M',B',ev,ex'.after x1 fun _ q=>q⟩
 | ok y H' =>
  cases y<;>first | trivial | skip
  refine mk (codeAny_mono B fun r s' z_1=>x1_2 z_1 fun v he z_1=>x1_3 z_1 fun M' st rp2 rv=>?_)
  subst he
  rw [show v=.none from rv.inv]
  exact ⟨rfl,_,rfl,M',x1.trans (back st),rp2,self.keep ((back st).kp L1 Zap)⟩
theorem ZnN {f:Expr→DE} (Y:Fit C.S G) (F:FOK C.S C.hot d Φ) (hd:d+1≤C.d) (h:∀ e,Snd2 C env ns (f e) e) {x:Str} {c:Nat} {es:List Expr} {p p':Pos} (hk:env.kindOf x=some .globalImplicit) (hdb:(x == ("__debug__" : Str))=false) (hi:C.S.T.cls[c]?=some x) (hs:es.all notStar=true) :
  Snd C env ns (newE G Φ c (es.map f)) (.Call (.Name x p') es [] p):=fun {ρ s M H} st=>by
 refine x1_3 (Y.cn c x hi) fun D h1 h2 h3=>?_
 show Ev VRel C (eval (.Name x p') env >>= fun fv=>callWith p fv [] (backTo p (starEach es env)) []) s M _
 refine Ev.look (fun z=>Zb2 st hk hdb h2 z) ?_
 refine ZdY (first:=[]) h hs st (fun z=>callWith_of (P:=C.S.K.In) (by rw [ZaD es hs]; rfl) (keeps_K h3) z) fun as H₁ vals s₁ M₁ x1 st1 r=>Ev.orBad fun fi hf=>?_
 exact Zos Y F hd h1 hf st1.live st1.rep r
theorem Zlv {Q:Prop} {s:Shared} {M:Mp} {H:AH} {v:Value} {a:AV} {kd:Kd} (rp:Rep C.S C.pv s.heap M H) (r:VRel (C.wd s.heap M) v a) (hc:kdOf H a=some kd) (k:∀ P,KitX C.S.K v (.type kd.type) P→P s.heap→v≠.builtin "__main__.__loader__#opaque" → Q):Q:=by
 cases a<;>first | exact Zad hc | skip
 ·cases hc; obtain ⟨t,rfl⟩:=r.inv; exact k _ kitx_int trivial fun q=>nomatch q
 ·cases hc; obtain ⟨t,rfl,_⟩:=r.inv; exact k _ kitx_str trivial fun q=>nomatch q
 ·cases hc; refine x3_2 r.inv fun l vs n e z=>?_; subst e; exact k _ kitx_tuple ⟨_,z.1,rfl⟩ fun q=>nomatch q
 ·rename_i n
  refine x1_2 (r.inv) fun p e1' z=>?_; subst e1'
  cases q:H[n]? with
  | none=>rw [Zg0 q] at hc; exact Zad hc
  | some ao =>
   rw [Zg0 q] at hc
   cases ao with
   | lst xs =>
    cases hc
    obtain ⟨_,vs,m,ho,_⟩:=rp.obj _ _ _ z q
    exact k _ kitx_list ⟨_,ho,rfl⟩ fun q=>nomatch q
   | _=>exact Zad hc
theorem ZkU {ρ:RE} {s:Shared} {M:Mp} {H:AH} {x:Str} {p:Pos} {ty:Ty} {v:Value} {P:Value→Shared→Prop} {E:Value→Shared→Prop} (Y:Fit C.S G) (st:St C env ns ρ s M H) (hk:env.kindOf x=some .globalImplicit) (hd:(x == ("__debug__" : Str))=false) (hn:x ≠ "__name__")
  (hx:tyN C.S.T ty=some x) (hv:C.S.tyV ty=some v) (h:P v s):wpAny C.S.M C.A (eval (.Name x p) env) P E s:=by
 have boot:∀ {T:String} (y:Str),y∈biNames→bootBuiltins y=some (.type T)→some y=some x→some (Value.type T)=some v→wpAny C.S.M C.A (eval (.Name x p) env) P E s:=fun y h1 h2 e1 e2=>by
  cases e1; cases e2; exact Zen st hk hd (Y.bi _ h1) h2 hn h
 cases ty with
 | int=>exact boot "int" (by decide) (by decide +kernel) hx hv
 | bool=>exact boot "bool" (by decide) (by decide +kernel) hx hv
 | str=>exact boot "str" (by decide) (by decide +kernel) hx hv
 | tup=>exact boot "tuple" (by decide) (by decide +kernel) hx hv
 | lst=>exact boot "list" (by decide) (by decide +kernel) hx hv
theorem ZnK {f:DE} {e':Expr} {ty:Ty} {x:Str} {px:Pos} {p p':Pos} (Y:Fit C.S G) (hk:env.kindOf "isinstance" = some .globalImplicit) (h:Snd C env ns f e') (hs:notStar e'=true)
  (k1:env.kindOf x=some .globalImplicit) (k2:(x == ("__debug__" : Str))=false) (k3:x ≠ "__name__") (k4:tyN C.S.T ty=some x):Snd C env ns (isiE G f [ty]) (.Call (.Name "isinstance" p') [e',.Name x px] [] p):=fun {ρ s M H} st=>by
 obtain ⟨tv,h3⟩:∃ v,C.S.tyV ty=some v:=by cases ty<;>exact ⟨_,rfl⟩
 show Ev VRel C (eval (.Name "isinstance" p') env >>= fun fv=>callWith p fv [] (backTo p (starEach [e',.Name x px] env)) []) s M ((f ρ H).bind fun a H₁=>orBad ((kdOf H₁ a).map fun k=>isK k ty) fun b=>.ok (.bool b) H₁)
 refine Ev.look (fun z=>Zen st hk (by decide) (Y.bi _ (by decide)) (by decide +kernel:bootBuiltins "isinstance" = some (.builtin "isinstance")) (by decide) z) ?_
 have A:=h st
 generalize f ρ H=o at A
 have cw:∀ {P:Value→Shared→Prop} {E:Value→Shared→Prop},wpAny C.S.M C.A (eval e' env) (fun v s₁=>wpAny C.S.M C.A (spliced [(false,eval (.Name x px) env)]) (fun us s₂=>wpAny C.S.M C.A (call (.builtin "isinstance") (v::us)) P E s₂) E s₁) E s→wpAny C.S.M C.A (callWith p (.builtin "isinstance") [] (backTo p (starEach [e',.Name x px] env)) []) P E s:=fun z=>by
  refine Calls.callWith_builtin (ZaD [e',.Name x px] (by simp [hs]; rfl)) ?_
  rw [Zbu hs,Zbu rfl]
  exact Calls.evalArgs_plain (Calls.spliced_cons z)
 cases o with
 | bad=>trivial
 | exc c H'=>exact cw (wpAny_mono A (fun _ _ q=>q.elim) fun _ _ q=>q)
 | ok a H₁ =>
  show Ev VRel C _ s M (orBad ((kdOf H₁ a).map fun k=>isK k ty) fun b=>.ok (.bool b) H₁)
  refine Ev.orBad fun b hb=>cw (wpAny_mono A (fun v s₁ z_8=>x1_3 z_8 fun M₁ x1 rp1 ra=>?_) fun _ _ q=>q.elim)
  have st1:=st.step x1 rp1
  obtain ⟨k,hk,e2'⟩:=oms hb
  subst e2'
  refine Zlv rp1 ra hk fun P Z p0 hx=>?_
  refine Calls.spliced_cons (ZkU Y st1 k1 k2 k3 k4 h3 (Calls.spliced_nil ?_))
  exact kia_one Z st1.live.K p0 (Y.kb k ty tv h3) hx fun tk=>by
   refine x1_2 (Zao (C:=C) (R:=VRel) (x:=Value.bool (isK k ty)) (y:=AV.bool (isK k ty)) rp1 (.bool _) tk) fun M₃ x3 z=>?_
   exact ⟨M₃,x1.trans x3,z⟩
end
section
variable {C:Cx} {env:Env} {ns:List (Option Str)} {ρ:RE} {s s':Shared} {M M':Mp} {H H':AH}
noncomputable abbrev Cx.withPv (C:Cx) (pv:List Addr×List Addr):Cx:={ C with pv:=pv }
theorem St.pv {pv:List Addr×List Addr} (st:St C env ns ρ s M H) (R:Rep C.S pv s.heap M H') (k:Kp (C.wd s.heap M) (wdOf C.S pv s.heap M)) (hp:∀ a,a∈pv.1∨a∈pv.2→∃ o,s.heap.get? a=some o) (ho:∀ a∈pv.1,¬ foot M a):St (C.withPv pv) env ns ρ s M H':=by
 obtain ⟨L,_,m,cm,E⟩:=st
 exact ⟨⟨L.frames,L.funs,L.stays,L.off,L.new,L.handled,L.dicts,L.depth,L.units,hp,ho⟩,R,m,cm,E.keep rfl (fun _ q=>q) (fun o ho=>⟨o.slots,ho⟩) (fun n c o e ho=>ho) k fun a o _ _ n=>n⟩
theorem Zfu {S:Stat} {pv pv':List Addr×List Addr} {h:Heap} (e:∀ a o,h.get? a=some o→a∈pv'.1→a∈pv.1):Kp (wdOf S pv h M) (wdOf S pv' h M) :=
 ⟨fun b o eo n _=>⟨eo,fun q=>n (q.imp id (e b o eo))⟩,⟨[],by simp [wdOf]⟩,rfl⟩
theorem Rep.lock {S:Stat} {l1 l2:List Addr} {h:Heap} {n:Nat} {p:Addr×Addr} {es:List (Key×AV)} (R:Rep S (l1,l2) h M H) (e:M[n]?=some p) (q:H[n]?=some (.dict es)):Rep S (l1,p.1::l2) h M (H.set n (.ldict es)):=by
 have hlt:n<H.length:=(gsi q).1
 have o1:=R.obj n p _ e q
 refine ⟨by rw [List.length_set]; exact R.len,fun m r ao e1 e2=>?_,R.apart,fun m r e1 z=>?_,fun m r es' e1 e2=>?_⟩
 ·rw [List.getElem?_set] at e2
  split at e2
  ·rename_i y; subst y
   cases e2
   rw [e] at e1; cases e1; exact o1
  ·exact R.obj m r ao e1 e2
 ·by_cases y:n=m
  ·subst y; exact ⟨es,by rw [List.getElem?_set,if_pos rfl,if_pos hlt]⟩
  ·rw [List.getElem?_set,if_neg y]
   refine x0_4 (R.apart n m p r e e1 y) fun a b c d=>?_
   refine R.held m r e1 (z.imp (fun z=>?_) fun z=>?_)
   ·exact (List.mem_cons.mp z).resolve_left a.symm
   ·exact (List.mem_cons.mp z).resolve_left b.symm
 ·by_cases y:n=m
  ·subst y; rw [e] at e1; cases e1; exact .head _
  ·rw [List.getElem?_set,if_neg y] at e2; exact .tail _ (R.lkd m r es' e1 e2)
theorem Rep.free {S:Stat} {l1 l2:List Addr} {h:Heap} {n:Nat} {p:Addr×Addr} (R:Rep S (l1,p.1::l2) h M H) (e:M[n]?=some p) (hl:p.1∉l2∧p.2∉l2):Rep S (l1,l2) h M (freeH (some n) H):=by
 obtain ⟨es,q⟩:=R.held n p e (.inl (.head _))
 have hlt:n<H.length:=(gsi q).1
 have o1:=R.obj n p _ e q
 simp only [freeH,q]
 refine ⟨by rw [List.length_set]; exact R.len,fun m r ao e1 e2=>?_,R.apart,fun m r e1 z=>?_,fun m r es' e1 e2=>?_⟩
 ·rw [List.getElem?_set] at e2
  split at e2
  ·rename_i y; subst y
   cases e2
   rw [e] at e1; cases e1; exact o1
  ·exact R.obj m r ao e1 e2
 ·by_cases y:n=m
  ·subst y
   rw [e] at e1; cases e1
   exact absurd z fun z=>z.elim hl.1 hl.2
  ·rw [List.getElem?_set,if_neg y]
   exact R.held m r e1 (z.imp (.tail _) (.tail _))
 ·by_cases y:n=m
  ·subst y; rw [List.getElem?_set,if_pos rfl,if_pos hlt] at e2; cases e2
  ·rw [List.getElem?_set,if_neg y] at e2
   exact (List.mem_cons.mp (R.lkd m r es' e1 e2)).resolve_left (R.apart n m p r e e1 y).1.symm
theorem Step.pv {W:Addr→Prop} {pv:List Addr×List Addr} (x:Step (C.withPv pv) W s M s' M') (h:∀ a∈C.pv.2,a∈pv.2):Step C W s M s' M':=⟨fun b o e n=>x.keep b o e fun q=>h b (n q),x.slots,x.alive,x.pre,x.grow,x.gens,x.os⟩
end
def Steady (C:Cx) (env:Env) (h:Heap) (M:Mp) (b:Addr):Prop:=(∃ o,h.get? b=some o)∧¬ OwnW env b∧b∉C.fs∧(foot M b→b∈C.pv.2)∧b∉C.pv.1
noncomputable def itOK (T:String):Bool:=!(["enumerate", "zip", "dict_itemiterator", "dict_reverseitemiterator", "odict_iterator", "itertools.zip_longest", "itertools.pairwise"].contains T) && !(["tuple", "list", "range"].contains T)
def IsIt (h:Heap) (I:Addr):Prop:=∃ o T,h.get? I=some o∧o.cls=.type T∧itOK T=true
theorem IsIt.not {h:Heap} {I:Addr} (x:IsIt h I):∃ o,h.get? I=some o∧¬ Held o:=by
 refine x2_3 (x) fun o T ho hc hT=>?_; try clear x
 unfold itOK at hT
 rw [qBt,Bool.not_eq_true',Bool.not_eq_true'] at hT
 refine ⟨o,ho,ZlH hc fun q=>?_⟩
 rcases q with rfl | rfl | rfl<;>exact absurd hT.2 (by decide)
set_option backward.match.sparseCases true in
theorem Zlz {M:Model} {A:Around} {target:Expr} {I:Addr} {v:Value} {s:Shared} {Q:Unit→Shared→Prop} {E:Value→Shared→Prop} (x:IsIt s.heap I) (h:Q () s):wpAny M A (letOwnedTupleGo target (.ref I) v) Q E s:=by
 refine x2_3 (x) fun o T ho hc hT=>?_; try clear x
 have key:wpAny M A (do
   let (.ref r,.ref a):=(Value.ref I,v) | return
   let o ← load r
   match o.cls,o.data with
   | .type n,.fields vs =>
    if ["enumerate", "zip", "dict_itemiterator", "dict_reverseitemiterator", "odict_iterator", "itertools.zip_longest", "itertools.pairwise"].contains n && vs[0]? == some (rawInt a) then
     rule "for.unpacks-the-owned-tuple"
     updateField r 0 .none
   | _,_=>pure ()) Q E s:=by
  cases v<;>first | exact wpAny_pure h | skip
  refine wpAny_bind (wpAny_load ho ?_)
  rw [hc]
  cases o.data<;>first | exact wpAny_pure h | skip
  unfold itOK at hT
  rw [qBt,Bool.not_eq_true'] at hT
  simp only [hT.1,Bool.false_and,Bool.false_eq_true,if_false]
  exact wpAny_pure h
 cases target<;>first | exact wpAny_pure h | exact key
inductive Itr (C:Cx) (env:Env) (h:Heap) (M:Mp) (I:Addr):Src→Nat→Prop
 | seq {fp:List Addr} {P:Nat→Value→Prop} {W:Nat→Heap→Prop} {xs:List AV} {k:Nat}:Walks C.S.prog C.S.w C.A I fp [I] xs.length P W→W k h→(∀ b∈fp,b=I∨Steady C env h M b)→(∀ (i:Nat) v x,P i v→xs[i]?=some x→VRel (C.wd h M) v x)→k≤xs.length →
   (∀ i h,W i h→IsIt h I)→Itr C env h M I (.seq xs) k
 | lref {n:Nat} {p:Addr×Addr} {k:Nat}:h.IsListIter I p.1 k→M[n]?=some p→Itr C env h M I (.lref n) k
section
variable {C:Cx} {env:Env} {ns:List (Option Str)} {ρ:RE} {s s':Shared} {M M':Mp} {H H':AH} {I:Addr} {src:Src} {k:Nat} {v:Value} {a:AV}
theorem Itr.is {h:Heap} (i:Itr C env h M I src k):IsIt h I:=by
 cases i with
 | seq W h0 hf hi hk hg=>exact hg _ _ h0
 | lref h0 e=>obtain ⟨o,ho,hc,_⟩:=h0; exact ⟨o,_,ho,hc,by decide⟩
theorem Itr.after (i:Itr C env s.heap M I src k) (x:Step C (OwnW env) s M s' M') (y:Aside C env s.heap M I) (L:Live C s.heap M) (hw:VarsOnly s.heap (OwnW env)):Itr C env s'.heap M' I src k:=by
 cases i with
 | seq W h0 hf hi hk hg =>
  refine .seq W (W.frame _ _ _ h0 fun b hb o e=>?_) (fun b hb=>(hf b hb).imp id fun z=>?_) (fun i v y q e=>(hi i v y q e).keep (x.kp L hw)) hk hg
  ·rcases hf b hb with rfl | z
   ·exact y.keepObj x e
   ·exact x.keep b o e z.2.2.2.1 z.2.1 z.2.2.1
  ·obtain ⟨⟨o,ho⟩,z2,z3,z4,z5⟩:=z
   exact ⟨⟨o,x.keep b o ho z4 z2 z3⟩,z2,z3,x.offM ho z4,z5⟩
 | lref h0 e =>
  refine .lref (h0.at fun o e=>y.keepObj x e) ?_
  obtain ⟨l,rfl⟩:=x.pre
  rw [qGl (gsi e).1]; exact e
theorem Aside.kp {h h':Heap} (y:Aside C env h M I) (q:∀ b o,b≠I→h.get? b=some o→h'.get? b=some o):Kp (C.wd h M) (C.wd h' M):=⟨fun b o e n hd=>⟨q b o (fun z=>by
  subst z
  refine x1_2 (y.obj) fun o' h1 h2=>?_
  have e:h.get? b=some o:=e
  rw [e] at h1; cases h1
  exact h2.elim (fun z=>n (.inr z)) fun z=>z hd) e,n⟩,⟨[],by simp [wdOf]⟩,rfl⟩
theorem ZdO {P:Option Value→Shared→Prop} {E:Value→Shared→Prop} (st:St C env ns ρ s M H) (hh:C.A.handled=none) (y:Aside C env s.heap M I) (i:Itr C env s.heap M I src k) {r:Option AV} (hr:itemAt H src k=some r)
  (hitem:∀ v a h' tk,r=some a→(∀ b o,b≠I→s.heap.get? b=some o→h'.get? b=some o)→VRel (C.wd h' M) v a→Itr C env h' M I src (k+1)→P (some v) { s with heap:=h',toks:=tk })
  (hend:∀ h' tk,r=none→(∀ b o,b≠I→s.heap.get? b=some o→h'.get? b=some o)→P none { s with heap:=h',toks:=tk }):wpAny C.S.M C.A (pyNext (.ref I)) P E s:=by
 have kp:∀ {h':Heap},(∀ b o,b≠I→s.heap.get? b=some o→h'.get? b=some o)→Kp (C.wd s.heap M) (C.wd h' M):=y.kp
 cases i with
 | seq W h0 hf hi hk hg =>
  rename_i fp P' W' xs
  have hr:xs[k]?=r:=Option.some.inj hr
  have st':∀ {h':Heap},(∀ b o,b∉[I]→s.heap.get? b=some o→h'.get? b=some o)→∀ b∈fp,b=I∨Steady C env h' M b:=fun q b hb=>(hf b hb).elim .inl fun z=>by
   by_cases e:b=I
   ·exact .inl e
   ·obtain ⟨⟨o,ho⟩,z⟩:=z
    exact .inr ⟨⟨o,q b o (by simp [e]) ho⟩,z⟩
  have wr:∀ {h':Heap},(∀ b o,b∉[I]→s.heap.get? b=some o→h'.get? b=some o)→∀ b o,b≠I→s.heap.get? b=some o→h'.get? b=some o:=fun q b o n e=>q b o (by simp [n]) e
  by_cases hlt:k<xs.length
  ·refine W.item k s P E hlt h0 fun v h' tk q hw hk'=>?_
   have e:xs[k]?=some xs[k]:=qGg hlt
   exact hitem v xs[k] h' tk (hr.symm.trans e) (wr hk') ((hi k v _ q e).keep (kp (wr hk'))) (.seq W hw (st' hk') (fun i v x q e=>(hi i v x q e).keep (kp (wr hk'))) hlt hg)
  ·have:k=xs.length:=by lia
   subst this
   refine W.done s P E h0 fun h' tk hk'=>?_
   exact hend h' tk (hr.symm.trans (List.getElem?_eq_none (Nat.le_refl _))) (wr hk')
 | lref h0 e =>
  rename_i n p
  simp only [itemAt] at hr
  split at hr
  ·rename_i xs q
   have hr:xs[k]?=r:=Option.some.inj hr
   obtain ⟨_,vs,m,hl,rl⟩:=st.rep.obj _ _ _ e q
   cases e2:xs[k]? with
   | none =>
    refine wpAny_pyNext_list_end hh h0 hl.isList ?_ fun h' q=>hend h' s.toks (hr.symm.trans e2) fun b o n e=>q b o n e
    rw [← Array.getElem?_toList]
    exact List.getElem?_eq_none (by rw [rl.1]; exact List.getElem?_eq_none_iff.mp e2)
   | some a =>
    refine x1_2 (rl.get k e2) fun v hv r'=>?_
    refine wpAny_pyNext_list_item h0 hl.isList (by rw [← Array.getElem?_toList]; exact hv) fun h' q1 q2=>?_
    have kk:∀ b o,b≠I→s.heap.get? b=some o→h'.get? b=some o:=fun b o n e=>(q2.2 b n).trans e
    exact hitem v a h' s.toks (hr.symm.trans e2) kk (r'.keep (kp kk)) (.lref q1 e)
  ·cases hr
theorem Zlr {P:Value→Shared→Prop} {E:Value→Shared→Prop} (i:Itr C env s.heap M I src k) (h:P (.ref I) s):wpAny C.S.M C.A (pyIter (.ref I)) P E s:=by
 cases i with
 | seq W h0 hf hi hk hg=>exact W.self _ s P E h0 h
 | lref h0 e=>exact wpAny_pyIter_listiter h0 h
theorem ZnS {a b:Int} {k:Nat} {v:AV} (h:(span a b)[k]?=some v):v=.int (a+k):=by
 unfold span at h
 rw [qGm] at h
 refine x1_2 (oms h) fun m h1 h2=>?_
 obtain ⟨_,h3⟩:=gsi h1
 rw [List.getElem_range] at h3
 rw [h3]; exact h2.symm
theorem Zae (a b:Int):(span a b).length=(b-a).toNat:=by unfold span; simp
theorem ZnA {x:Str} {k:Nat} {a:AV} (h:(signs x)[k]?=some a):∃ c,x.cps[k]?=some c∧a=.str ⟨#[c]⟩:=by
 unfold signs at h
 rw [qGm] at h
 refine x1_2 (oms h) fun c h1 h2=>?_
 exact ⟨c,by rw [← Array.getElem?_toList]; exact h1,h2.symm⟩
theorem Zh2 {a b:Int}:Builtin.Range.rangeSize a b 1=((b-a).toNat:Int):=by
 unfold Builtin.Range.rangeSize
 rw [if_pos (by decide)]
 split
 ·rename_i h
  rw [Int.ediv_one,Int.sub_add_cancel,Int.toNat_of_nonneg (Int.sub_nonneg_of_le (Int.le_of_lt h))]
 ·rename_i h
  rw [Int.toNat_of_nonpos (Int.sub_nonpos_of_le (Int.not_lt.mp h))]; rfl
theorem Zkk {a b:Int} (h:(small a && small b)=true):Builtin.Range.small a b 1=true:=by
 rw [qBt] at h
 have h1:=Zdg h.1
 have h2:=Zdg h.2
 have f:∀ {x:Int},-(2^62:Int)<x∧x<2^62 → -9223372036854775808≤x∧x<9223372036854775808:=fun q=>⟨Int.le_trans (by decide) (Int.le_of_lt q.1),Int.lt_trans q.2 (by decide)⟩
 unfold Builtin.Range.small
 rw [Zh2]
 simp [Builtin.Range.rangeFitsLong]
 exact ⟨⟨⟨f h1,f h2⟩,Int.le_trans (by decide) (Int.le_max_right _ _),Int.max_lt.mpr ⟨Int.lt_of_lt_of_le (Int.sub_lt_sub h2.2 h1.1) (by decide),by decide⟩⟩,.inr (f h2)⟩
noncomputable def lockOf (M:Mp):Option Nat→List Addr
 | none=>[]
 | some n=>match M[n]? with
  | some p=>[p.1]
  | none=>[]
noncomputable abbrev Cx.held (C:Cx) (M:Mp) (l:Option Nat):Cx:=C.withPv (C.pv.1,lockOf M l++C.pv.2)
theorem Zf6 {n:Nat} {l:Option Nat} {P:Value→Shared→Prop} {E:Value→Shared→Prop} (st:St C env ns ρ s M H) (hh:C.A.handled=none) (hs:srcOf H a=some (src,n,l)) (rv:VRel (C.wd s.heap M) v a)
  (h:∀ h',(∀ b o,s.heap.get? b=some o→h'.get? b=some o)→St (C.held M l) env ns ρ { s with heap:=h' } M (lockH l H)→Aside (C.held M l) env h' M s.heap.objs.size→Itr (C.held M l) env h' M s.heap.objs.size src 0→P (.ref s.heap.objs.size) { s with heap:=h' }):wpAny C.S.M C.A (pyIter v) P E s:=by
 refine x1_2 (show ∃ K:Src→Option Nat→Prop,K src l∧∀ src l,K src l→∀ h',(∀ b o,s.heap.get? b=some o→h'.get? b=some o)→St (C.held M l) env ns ρ { s with heap:=h' } M (lockH l H)→Aside (C.held M l) env h' M s.heap.objs.size→Itr (C.held M l) env h' M s.heap.objs.size src 0→P (.ref s.heap.objs.size) { s with heap:=h' } from ⟨_,h,fun _ _ h=>h⟩) fun K h₁ hK=>?_
 clear h
 have kx:∀ (o:Obj) b o',s.heap.get? b=some o'→(s.heap.push o).get? b=some o':=fun o b o' e=>Heap.get?_push_of_some _ e
 have h0:=Zaq s.heap
 -- no dict is held
 have go:∀ {o:Obj} {T:String},l=none→o.cls=.type T→itOK T=true→o.isFreed=false→(St C env ns ρ { s with heap:=s.heap.push o } M H→Itr C env (s.heap.push o) M s.heap.objs.size src 0)→P (.ref s.heap.objs.size) { s with heap:=s.heap.push o }:=fun {o T} el hc hT hf hi=>by
  subst el
  have st':St C env ns ρ { s with heap:=s.heap.push o } M H:=st.step (Step.ext (t:=s.toks) (kx o)) (st.rep.ext (kx o))
  refine x1_2 (IsIt.not (h:=s.heap.push o) (I:=s.heap.objs.size) ⟨o,T,Heap.get?_push_size _ hf,hc,hT⟩) fun o' e' nh=>?_
  exact hK _ _ h₁ _ (kx o) st' (Aside.new st h0 e' nh) (hi st')
 have steady:∀ {b:Addr} {ob:Obj} {h':Heap},s.heap.get? b=some ob→Held ob→¬ (C.wd s.heap M).F b→(∀ b o,s.heap.get? b=some o→h'.get? b=some o)→Steady C env h' M b:=fun {b ob h'} e hd nf k=>by
  refine x2_1 (st.env) fun m cm En=>?_
  exact ⟨⟨ob,k b ob e⟩,fun q=>En.vars b ob q e hd,st.live.offFs e hd.nd,fun q=>absurd (.inl q) nf,fun q=>nf (.inr q)⟩
 cases a with
 | lst xs =>
  cases hs
  refine x3_4 (rv.inv) fun x vs m e3' ho nf rs=>?_; subst e3'
  have hd:Held { cls:=.type "list", dict:=none,data:=.seq vs m,slots:=#[] }:=⟨.inl ⟨_,_,rfl⟩,fun _ q=>by injection q with q; exact .inr (.inl q.symm)⟩
  have hne:x≠s.heap.objs.size:=Zbf ho h0
  refine wpAny_pyIter_list ho.isList (go (T := "list_iterator") rfl rfl (by decide) rfl fun st'=>?_)
  have W:=Walks.list (prog:=C.S.prog) (w:=C.S.w) hh s.heap.objs.size x hne vs
  rw [rs.size] at W
  exact .seq W ⟨⟨_,Heap.get?_push_size _ rfl,rfl,rfl⟩,(show IsL _ x vs m from kx _ _ _ ho).isList⟩ (fun b hb=>by
   rcases List.mem_cons.mp hb with e | hb
   ·exact .inl e
   ·cases qMs hb; exact .inr (steady ho hd nf (kx _))) (fun i v y q e=>(rs.2 i v y (by rw [Array.getElem?_toList]; exact q) e).keep (ZdB (kx _))) (Nat.zero_le _) fun i h w=>by
   obtain ⟨⟨o,ho,hc,_⟩,_⟩:=w; exact ⟨o,_,ho,hc,by decide⟩
 | str x =>
  cases hs
  refine x1_2 (rv.inv) fun t e1' ok=>?_; subst e1'
  have items:∀ {h':Heap} (i:Nat) v y,SignAt x i v→(signs x)[i]?=some y→VRel (C.wd h' M) v y:=fun {h'} i v y ⟨c,u,hc,hv⟩ e=>by
   refine x1_2 (ZnA e) fun c' hc' e2'=>?_; subst e2'
   rw [hc] at hc'
   cases hc'
   subst hv
   exact .str _ _ (Zeu ok fun d hd=>by
    simp only [List.mem_singleton] at hd
    subst hd
    exact qMo (i:=i) (by rw [Array.getElem?_toList]; exact hc))
  have hlen:(signs x).length=x.cps.size:=by unfold signs; simp
  cases ha:x.cps.all (·<128)
  ·refine wpAny_pyIter_wide ha (go (T := "str_iterator") rfl rfl (by decide) rfl fun st'=>?_)
   have W:=Walks.strWide (prog:=C.S.prog) (w:=C.S.w) hh s.heap.objs.size x t
   rw [← hlen] at W
   exact .seq W ⟨_,Heap.get?_push_size _ rfl,rfl,rfl⟩ (fun b hb=>.inl (qMs hb)) items (Nat.zero_le _) fun i h w=>by
    obtain ⟨o,ho,hc,_⟩:=w; exact ⟨o,_,ho,hc,by decide⟩
  ·refine wpAny_pyIter_ascii ha (go (T := "str_ascii_iterator") rfl rfl (by decide) rfl fun st'=>?_)
   have W:=Walks.strAscii (prog:=C.S.prog) (w:=C.S.w) hh s.heap.objs.size x t
   rw [← hlen] at W
   exact .seq W ⟨_,Heap.get?_push_size _ rfl,rfl,rfl⟩ (fun b hb=>.inl (qMs hb)) items (Nat.zero_le _) fun i h w=>by
    obtain ⟨o,ho,hc,_⟩:=w; exact ⟨o,_,ho,hc,by decide⟩
 | rng x y =>
  replace hs:(if (small x && small y)=true then some (Src.seq (span x y),(y-x).toNat,(none:Option Nat)) else none)=some (src,n,l):=hs
  split at hs<;>cases hs
  rename_i hsm
  refine x4_3 (rv.inv) fun r t u t' e4' ho nf=>?_; subst e4'
  refine wpAny_pyIter_range ho (Zkk hsm) (go (T := "range_iterator") rfl rfl (by decide) rfl fun st'=>?_)
  have W:=Walks.range (prog:=C.S.prog) (w:=C.S.w) hh s.heap.objs.size x 1 (y-x).toNat
  rw [← Zae] at W
  refine .seq W ?_ (fun b hb=>.inl (qMs hb)) (fun i v z ⟨t,hv⟩ e=>?_) (Nat.zero_le _) fun i h w=>⟨_,_,w,rfl,by decide⟩
  ·rw [Zh2]
   have e1:x+((0:Nat):Int)*1=x:=Int.add_zero x
   have e2:(((span x y).length:Nat):Int)-((0:Nat):Int)=((y-x).toNat:Int):=by rw [Zae]; exact Int.sub_zero _
   rw [e1,e2]
   exact Heap.get?_push_size _ rfl
  ·rw [ZnS e,hv,Int.mul_one]
   exact .int _ _
 | ref k =>
  refine x1_2 (rv.inv) fun p e1' z=>?_; subst e1'
  cases q:H[k]? with
  | none=>rw [ZbK q] at hs; cases hs
  | some ao =>
   rw [ZbK q] at hs
   cases ao with
   | inst c fs=>cases hs
   | lst xs =>
    cases hs
    obtain ⟨_,vs,m,ho,rs⟩:=st.rep.obj _ _ _ z q
    exact wpAny_pyIter_list ho.isList (go (T := "list_iterator") rfl rfl (by decide) rfl fun st'=>.lref ⟨_,Heap.get?_push_size _ rfl,rfl,rfl⟩ z)
   | dict es =>
    cases hs
    obtain ⟨_,hD⟩:=st.rep.obj _ _ _ z q
    have hl:lockOf M (some k)=[p.1]:=by simp only [lockOf,show M[k]?=some p from z]
    have hmem:p.1∈(C.held M (some k)).pv.2:=by show p.1∈lockOf M (some k)++C.pv.2; rw [hl]; exact .head _
    have stL:St (C.held M (some k)) env ns ρ s M (lockH (some k) H):=by
     have R:=st.rep.lock z q
     have e:lockH (some k) H=H.set k (.ldict es):=by simp only [lockH,q]
     rw [e]
     refine St.pv st (by rw [hl]; exact R) (Zfu fun _ _ _ z=>z) (fun a ha=>?_) st.live.poff
     rcases ha with ha | ha
     ·exact st.live.priv a (.inl ha)
     ·rw [hl] at ha
      rcases List.mem_cons.mp ha with rfl | ha
      ·exact st.rep.there (Zar z).1
      ·exact st.live.priv a (.inr ha)
    refine x1_4 (hD) fun kvs hm e1 e2 ok=>?_; try clear hD
    obtain ⟨ep,hd⟩:=hm.dictAt
    have hlen:(es.map (·.1.av)).length=kvs.length:=by simpa using (congrArg List.length e1).symm
    obtain ⟨ob,hob⟩:=st.rep.there (Zar z).1
    have hne:p.1≠s.heap.objs.size:=Zbf hob h0
    refine wpAny_pyIter_dict (knd:=kk C.S.prog C.S.w) (st.live.notSys (Zar z).1) hd ?_
    have st':St (C.held M (some k)) env ns ρ { s with heap:=s.heap.push { cls:=.type "dict_keyiterator", data:=.fields #[.ref p.1,.int 0 0,.int kvs.length 0,.int ep 0] } } M (lockH (some k) H):=stL.step (Step.ext (t:=s.toks) (kx _)) (stL.rep.ext (kx _))
    have isit:IsIt (s.heap.push { cls:=.type "dict_keyiterator", data:=.fields #[.ref p.1,.int 0 0,.int kvs.length 0,.int ep 0] }) s.heap.objs.size:=⟨_,_,Heap.get?_push_size _ rfl,rfl,by decide⟩
    refine x1_2 (isit.not) fun o' e' nh=>?_
    refine hK _ _ h₁ _ (kx _) st' (Aside.new stL h0 e' nh) ?_
    have W:=Walks.dictKeys (knd:=kk C.S.prog C.S.w) (A:=C.A) hh s.heap.objs.size p.1 hne kvs ep
    rw [← hlen] at W
    refine .seq W ⟨by rw [hlen]; exact ⟨_,Heap.get?_push_size _ rfl,rfl,rfl⟩,hd.at' fun o e=>kx _ _ _ e⟩ (fun b hb=>?_) (fun i v x ⟨kx',x',h1,h2⟩ e=>?_) (Nat.zero_le _) fun i h w=>by
     obtain ⟨⟨o,ho,hc,_⟩,_⟩:=w; exact ⟨o,_,ho,hc,by decide⟩
    ·rcases List.mem_cons.mp hb with e | hb
     ·exact .inl e
     ·cases qMs hb
      refine x2_1 (st.env) fun m cm En=>?_
      exact .inr ⟨⟨ob,kx _ _ _ hob⟩,fun q=>(En.off _ q).1 (Zar z).1,fun q=>st.live.off _ q (Zar z).1,fun _=>hmem,fun q=>st.live.poff _ q (Zar z).1⟩
    ·rw [qGm] at e
     refine x1_2 (oms e) fun en h6 e2'=>?_; subst e2'
     have h5:(es.map (·.1))[i]?=some kx':=by rw [← e1,qGm,h1]; rfl
     rw [qGm,h6] at h5
     cases h5
     have hk:=ok en (qMo h6)
     have h2:en.1.is v=true:=h2
     generalize en.1=ky at h2 hk
     rcases Key.is_shape h2 with ⟨x,t,rfl,rfl⟩ | ⟨i,t,rfl,rfl⟩
     ·exact .str x t hk
     ·exact .int i t
   | _=>exact Zad hs
 | _=>exact Zad hs
end
noncomputable def relN (sc names:List (Str×NameKind)):List (Str×NameKind):=names.map fun (n,k)=>if (k == .free && sc.lookup n == some .cell) then (n,.cell) else (n,k)
noncomputable def nsC (ns:List (Option Str)) (names:List (Str×NameKind)) (x:Str):List (Option Str):=(ns.map fun o=>o.bind fun y=>if names.lookup y == some .free then some y else none)++[some x]
theorem ZeR {α β:Type} (f:α→β→Sem (ForInStep β)) (g:β→α→β):∀ (l:List α) (b:β),(∀ x∈l,∀ r,f x r=pure (.yield (g r x)))→forIn l b f=(pure (l.foldl g b):Sem β)
 | [],b,h=>rfl
 | x::l,b,h=>by
  rw [List.forIn_cons,h x List.mem_cons_self,pure_bind]
  exact ZeR f g l _ fun y hy=>h y (List.mem_cons_of_mem _ hy)
noncomputable def closAdd (env:Env) (cs:List (Str×Addr)) (y:Str×NameKind):List (Str×Addr):=if y.2 == .free then (match env.cells.lookup y.1 with | some c=>(y.1,c)::cs | none=>cs) else cs
noncomputable def closOf (env:Env) (names:List (Str×NameKind)):List (Str×Addr):=names.foldl (closAdd env) []
theorem ZmH {scope:Scope} {env:Env} (h:∀ y∈scope.names,y.2=.free→∃ c,env.cells.lookup y.1=some c):closureFor scope env=pure (closOf env scope.names):=by
 simp only [closureFor]
 rw [ZeR _ (closAdd env) scope.names [] (fun x hx c=>by
  obtain ⟨n,kind⟩:=x
  by_cases q:kind=.free
  ·subst q
   obtain ⟨a,ha⟩:=h _ hx rfl
   simp [closAdd,cellOf,ha]
  ·have:(kind == NameKind.free)=false:=by simpa using q
   simp [closAdd,this])]
 rfl
theorem ZdL {env:Env}:∀ (names:List (Str×NameKind)) (cs:List (Str×Addr)),(∀ n c,cs.lookup n=some c→env.cells.lookup n=some c)→∀ n c,(names.foldl (closAdd env) cs).lookup n=some c→env.cells.lookup n=some c
 | [],cs,h,n,c,e=>h n c e
 | y::r,cs,h,n,c,e=>by
  refine ZdL r (closAdd env cs y) (fun n c e=>?_) n c e
  unfold closAdd at e
  split at e
  ·split at e
   ·rename_i a ha
    rw [List.lookup_cons] at e
    split at e
    ·rename_i q
     rw [beq_iff_eq] at q; subst q; cases e; exact ha
    ·exact h n c e
   ·exact h n c e
  ·exact h n c e
theorem ZeO {env:Env}:∀ (names:List (Str×NameKind)) (cs:List (Str×Addr)) (n:Str),(∃ c,cs.lookup n=some c)→∃ c,(names.foldl (closAdd env) cs).lookup n=some c
 | [],cs,n,h=>h
 | y::r,cs,n,h=>by
  refine ZeO r (closAdd env cs y) n ?_
  unfold closAdd
  split
  ·split
   ·rw [List.lookup_cons]
    split
    ·exact ⟨_,rfl⟩
    ·exact h
   ·exact h
  ·exact h
theorem Zhz {env:Env} {n:Str} {c:Addr} (hc:env.cells.lookup n=some c):∀ (names:List (Str×NameKind)) (cs:List (Str×Addr)),(n,NameKind.free)∈names→∃ c,(names.foldl (closAdd env) cs).lookup n=some c
 | [],cs,h=>nomatch h
 | y::r,cs,h=>by
  rcases List.mem_cons.mp h with rfl | h
  ·refine ZeO r _ n ?_
   refine ⟨c,?_⟩
   unfold closAdd
   rw [if_pos (by rfl)]
   simp only [hc,List.lookup_cons,beq_self_eq_true]
  ·exact Zhz hc r _ h
theorem ZcH {sc:List (Str×NameKind)} {y:Str}:∀ (names:List (Str×NameKind)),(relN sc names).lookup y=(names.lookup y).map fun k=>if (k == .free && sc.lookup y == some .cell) then .cell else k
 | []=>rfl
 | (n,k)::r=>by
  have ih:=ZcH (sc:=sc) (y:=y) r
  show List.lookup y ((if (k == .free && sc.lookup n == some .cell)=true then (n,NameKind.cell) else (n,k))::relN sc r)=_
  by_cases q:y=n
  ·subst q
   split<;>rename_i z<;>simp only [List.lookup_cons,beq_self_eq_true,Option.map_some]
   ·rw [if_pos z]
   ·rw [if_neg z]
  ·have q':(y == n)=false:=by simpa using q
   split<;>simp [List.lookup_cons,q',ih]
theorem Zj2 {ns:List (Option Str)} {names:List (Str×NameKind)} {i:Nat} {x y:Str} (h:(nsC ns names x)[i]?=some (some y)):(i=ns.length∧y=x)∨(i<ns.length∧ns[i]?=some (some y)∧names.lookup y=some .free):=by
 unfold nsC at h
 rw [List.getElem?_append,qLm] at h
 split at h
 ·rename_i q
  refine .inr ⟨q,?_⟩
  rw [qGm] at h
  cases e:ns[i]? with
  | none=>rw [e] at h; cases h
  | some o =>
   rw [e] at h
   cases o with
   | none=>cases h
   | some w =>
    have h:(if (names.lookup w == some .free)=true then some w else none)=some y:=Option.some.inj h
    split at h
    ·rename_i z; cases h; exact ⟨rfl,by simpa using z⟩
    ·cases h
 ·rename_i q
  have:i=ns.length:=by
   have:=(gsi h).1
   simp at this; lia
  subst this
  rw [Nat.sub_self] at h
  cases h
  exact .inl ⟨rfl,rfl⟩
theorem Zo1 {ns:List (Option Str)} {names:List (Str×NameKind)} {x:Str}:(nsC ns names x)[ns.length]?=some (some x):=by
 unfold nsC
 rw [List.getElem?_append,qLm,if_neg (Nat.lt_irrefl _),Nat.sub_self]
 rfl
structure CompAt (env:Env) (x:Str) (sc:Scope):Prop where
 kind:sc.kind=.function
 loc:sc.names.lookup x=some .local
 nocell:∀ y∈sc.names,y.2≠.cell
 locs:∀ y∈sc.names,y.2=.local→sc.names.lookup y.1=some .local
 free:∀ y∈sc.names,y.2=.free→env.kindOf y.1=some .cell∨env.kindOf y.1=some .free
theorem Zdc {sc:Scope} {env:Env} (h:env.scope.kind=.function):(relabel sc env).names=relN env.scope.names sc.names:=by
 unfold relabel relN Env.kindOf
 rw [h]
 simp
theorem EnvAt.inner {C:Cx} {pv:List Addr×List Addr} {env:Env} {ns:List (Option Str)} {ρ:RE} {h:Heap} {M:Mp} {m cm:Str→Option Value} (E:EnvAt C env ns ρ h (C.wd h M) m cm) {x:Str} {sc:Scope} (Y:CompAt env x sc) {c:Addr} (hn:h.Ns c (fun _=>none)) (hf:¬ foot M c) (hb:C.S.base.get? c=none) (hne:∀ n a,env.cells.lookup n=some a→a≠c) (k:Kp (C.wd h M) (wdOf C.S pv h M)) :
  EnvAt (C.withPv pv) (compEnvC sc (closOf env sc.names) c env) (nsC ns sc.names x) (ρ++[none]) h (wdOf C.S pv h M) (fun _=>none) cm:=by
 have hsub:∀ n a,(closOf env sc.names).lookup n=some a→env.cells.lookup n=some a:=ZdL sc.names [] (fun _ _ q=>nomatch q)
 have hkind:∀ y,(compEnvC sc (closOf env sc.names) c env).kindOf y=(relN env.scope.names sc.names).lookup y:=fun y=>by
  show (relabel sc env).names.lookup y=_
  rw [Zdc E.fn]
 have hfree:∀ y,sc.names.lookup y=some .free→∃ a,env.cells.lookup y=some a:=fun y hy=>E.has y (Y.free _ (mem_of_lookup hy) rfl)
 have hcl:∀ y,sc.names.lookup y=some .free→∃ a,(closOf env sc.names).lookup y=some a:=fun y hy=>by
  obtain ⟨a,ha⟩:=hfree y hy
  exact Zhz ha sc.names [] (mem_of_lookup hy)
 refine ⟨Y.kind,E.glob,E.bns,hn,?_,fun i k y h1 h2=>?_,by unfold nsC; simp [E.len],fun y hy=>?_,fun n a ha=>?_,fun n n' a h1 h2=>E.apart n n' a (hsub _ _ h1) (hsub _ _ h2),fun i y a h1 h2=>?_⟩
 ·rintro a (q | ⟨n,q⟩)
  ·have q:a=c:=q
   subst q; exact ⟨hf,hb⟩
  ·exact E.off a (.inr ⟨n,hsub n a q⟩)
 ·rcases Zj2 h1 with ⟨rfl,rfl⟩ | ⟨_,q1,q2⟩<;>rcases Zj2 h2 with ⟨rfl,e⟩ | ⟨_,p1,p2⟩
  ·rfl
  ·rw [Y.loc] at p2; cases p2
  ·rw [e,Y.loc] at q2; cases q2
  ·exact E.inj i k y q1 p1
 ·refine hcl y ?_
  rw [hkind,ZcH] at hy
  cases q:sc.names.lookup y with
  | none=>rw [q] at hy; rcases hy with hy | hy<;>cases hy
  | some k =>
   rw [q] at hy
   simp only [Option.map_some,Option.some.injEq] at hy
   have hk:k≠.cell:=Y.nocell _ (mem_of_lookup q)
   by_cases z:k=.free
   ·rw [z]
   ·have z':(k == NameKind.free)=false:=by simpa using z
    simp only [z',Bool.false_and,Bool.false_eq_true,if_false] at hy
    rcases hy with hy | hy
    ·exact absurd hy hk
    ·exact absurd hy z
 ·refine x0_3 (E.cell n a (hsub _ _ ha)) fun c1 c3 c4=>?_
  exact ⟨c1,c3,hne n a (hsub _ _ ha)⟩
 ·rcases Zj2 h1 with ⟨rfl,rfl⟩ | ⟨hij,q1,q2⟩
  ·rw [← E.len,List.getElem?_append_right (Nat.le_refl _),Nat.sub_self] at h2
   cases h2
  ·rw [qGl (by rw [E.len]; exact hij)] at h2
   refine x1_2 (E.var i y a q1 h2) fun v rv hv=>?_
   refine ⟨v,rv.keep k,.inr ?_⟩
   have hk:=Y.free _ (mem_of_lookup q2) rfl
   rcases hv with ⟨z,_⟩ | ⟨_,_,z⟩
   ·rcases hk with hk | hk<;>rw [z] at hk<;>cases hk
   ·refine ⟨?_,hcl y q2,z⟩
    rw [hkind,ZcH,q2]
    simp only [Option.map_some,Option.some.injEq]
    split
    ·exact .inl rfl
    ·exact .inr rfl
def TestsOK (C:Cx) (env:Env) (ns:List (Option Str)) (cond:DE) (ifs:List Expr):Prop :=
 ∀ {ρ:RE} {s:Shared} {M:Mp} {H:AH},St C env ns ρ s M H →
  Ev EqR C (forIn ifs true fun c r=>if r=true then do let ok ← isTrue c env (eval c env); pure (ForInStep.yield ok) else pure (ForInStep.yield r)) s M (tst cond ρ H)
theorem ZkO {C:Cx} {env:Env} {ns:List (Option Str)}:TestsOK C env ns (cstE (.bool true)) []:=fun st=>Ev.pure st.rep rfl
theorem ZkP {C:Cx} {env:Env} {ns:List (Option Str)} {cond:DE} {c:Expr} (h:SndT C env ns cond c):TestsOK C env ns cond [c]:=fun st=>(h st).map fun z=>wpAny_tests_one z
theorem ZlG {α:Type} {y:α} {H:AH} {P:Prop} (h:(Out.bad:Out α)=.ok y H):P:=nomatch h
theorem ZiX {α β:Type} {o:Out α} {f:α→AH→Out β} {y:β} {Hf:AH} (h:o.bind f=.ok y Hf):∃ a H₁,o=.ok a H₁∧f a H₁=.ok y Hf:=by
 cases o with
 | ok a H₁=>exact ⟨a,H₁,rfl,h⟩
 | _=>cases h
theorem ZiT {α:Type} {a:AV} {f:Bool→Out α} {y:α} {Hf:AH} (h:asBool a f=.ok y Hf):∃ c,a=.bool c∧f c=.ok y Hf:=by
 cases a<;>first | exact ZlG h | exact ⟨_,rfl,h⟩
set_option smartUnfolding false in
theorem Zi6 {P:Prop} {T E:AV→AH→Out AV} {src:Src} {n k:Nat} {acc ys:List AV} {H Hf:AH} (h:compL T E src n k acc H=.ok ys Hf) (g0:itemAt H src k=some none→ys=acc→Hf=H→P)
  (g1:∀ v m c H₁,itemAt H src k=some (some v)→n=m+1→T v H=.ok (.bool c) H₁→((c=false∧compL T E src m (k+1) acc H₁=.ok ys Hf)∨(c=true∧∃ a H₂,E v H₁=.ok a H₂∧compL T E src m (k+1) (acc++[a]) H₂=.ok ys Hf))→P):P:=by
 cases n with
 | zero =>
  have h:(match itemAt H src k with | none=>Out.bad | some none=>.ok acc H | some (some v)=>.bad)=.ok ys Hf:=h
  cases q:itemAt H src k with
  | none=>rw [q] at h; exact ZlG h
  | some x =>
   rw [q] at h
   cases x with
   | none=>cases h; exact g0 q rfl rfl
   | some v=>exact ZlG h
 | succ m =>
  have h:(match itemAt H src k with | none=>Out.bad | some none=>.ok acc H | some (some v)=>(T v H).bind fun c H₁=>asBool c fun c=>if c then (E v H₁).bind fun a H₂=>compL T E src m (k+1) (acc++[a]) H₂ else compL T E src m (k+1) acc H₁)=.ok ys Hf:=h
  cases q:itemAt H src k with
  | none=>rw [q] at h; exact ZlG h
  | some x =>
   rw [q] at h
   cases x with
   | none=>cases h; exact g0 q rfl rfl
   | some v =>
    refine x2_2 (ZiX h) fun a H₁ hT h=>?_
    refine x1_2 (ZiT h) fun c ec h=>?_
    subst ec
    refine g1 v m c H₁ q rfl hT ?_
    cases c with
    | false=>exact .inl ⟨rfl,h⟩
    | true=>exact x2_2 (ZiX h) fun a H₂ hE h=>.inr ⟨rfl,a,H₂,hE,h⟩
theorem Zjt {e:Expr} {env:Env} (h:notSet e=true):∀ x,foldedSetIterable e env x=pure x:=by
 intro x
 cases e<;>first | rfl | exact Zco h
section
variable {C:Cx} {env:Env} {ns:List (Option Str)}
structure CG (C:Cx) (cenv:Env) (s₀:Shared) (I D:Addr):Prop where
 i0:s₀.heap.get? I=none
 c0:s₀.heap.get? cenv.locals=none
 d0:s₀.heap.get? D=none
 dp:D∈C.pv.1
 ip:I∉C.pv.1∧I∉C.pv.2
 ne:I≠D
structure CS (C:Cx) (cenv:Env) (ns':List (Option Str)) (s₀:Shared) (M₀:Mp) (I D:Addr) (src:Src) (ρ:RE) (k:Nat) (acc:List AV) (vs:Array Value) (j:Nat) (s:Shared) (M:Mp) (H:AH):Prop where
 y:Step C noW s₀ M₀ s M
 st:St C cenv ns' ρ s M H
 aI:Aside C cenv s.heap M I
 aD:Aside C cenv s.heap M D
 it:Itr C cenv s.heap M I src k
 hl:IsL s.heap D vs j
 rl:VRels (C.wd s.heap M) vs.toList acc
inductive CompInv (C:Cx) (cenv:Env) (ns':List (Option Str)) (elt cond:DE) (ρ:RE) (s₀:Shared) (M₀:Mp) (I D:Addr) (src:Src) (ys:List AV) (Hf:AH) (m:Nat) (s':Shared):Prop
 | mk (ov:Option AV) (M':Mp) (H':AH) (k:Nat) (acc:List AV) (vs:Array Value) (j:Nat) (h1:m+k≤1000000) (h2:acc.length≤k) (h3:CS C cenv ns' s₀ M₀ I D src (ρ++[ov]) k acc vs j s' M' H')
  (h10:compL (fun v=>cond (ρ++[some v])) (fun v=>elt (ρ++[some v])) src m k acc H'=.ok ys Hf):CompInv C cenv ns' elt cond ρ s₀ M₀ I D src ys Hf m s'
section
variable {cenv:Env} {ns':List (Option Str)} {s₀ s s':Shared} {M₀ M M':Mp} {I D:Addr} {src:Src} {ρ:RE} {k j tk:Nat} {acc:List AV} {vs:Array Value} {H H':AH} {h':Heap}
theorem CS.off (Z:CS C cenv ns' s₀ M₀ I D src ρ k acc vs j s M H) (G:CG C cenv s₀ I D) (kp:∀ b o,b≠I→s.heap.get? b=some o→h'.get? b=some o):Step C noW s₀ M₀ { s with heap:=h',toks:=tk } M∧St C cenv ns' ρ { s with heap:=h',toks:=tk } M H :=
 ⟨Z.y.but (tk:=tk) G.i0 kp,Z.st.but (tk:=tk) Z.aI kp fun q=>q.elim (fun q=>absurd q G.ip.1) fun q=>absurd q G.ip.2⟩
theorem CS.next (Z:CS C cenv ns' s₀ M₀ I D src ρ k acc vs j s M H) (G:CG C cenv s₀ I D) (kp:∀ b o,b≠I→s.heap.get? b=some o→h'.get? b=some o) (i2:Itr C cenv h' M I src (k+1)):CS C cenv ns' s₀ M₀ I D src ρ (k+1) acc vs j { s with heap:=h',toks:=tk } M H:=by
 obtain ⟨y,st⟩:=Z.off (tk:=tk) G kp
 refine x1_2 (i2.is.not) fun oI eI nI=>?_
 exact ⟨y,st,⟨⟨oI,eI,.inr nI⟩,Z.aI.foot,Z.aI.fs,Z.aI.own,Z.aI.base⟩,⟨⟨_,kp _ _ G.ne.symm Z.hl,.inl G.dp⟩,Z.aD.foot,Z.aD.fs,Z.aD.own,Z.aD.base⟩,i2,kp _ _ G.ne.symm Z.hl,Z.rl.keep (Z.aI.kp kp)⟩
theorem CS.own {ρ':RE} {W:Addr→Prop} (Z:CS C cenv ns' s₀ M₀ I D src ρ k acc vs j s M H) (x:Step C (OwnW cenv) s M s' M') (st:St C cenv ns' ρ' s' M' H') (y:Step C noW s₀ M₀ s' M'):CS C cenv ns' s₀ M₀ I D src ρ' k acc vs j s' M' H':=by
 have E2:VarsOnly s.heap (OwnW cenv):=by obtain ⟨_,_,E⟩:=Z.st.env; exact E.vars
 exact ⟨y,st,Z.aI.step x,Z.aD.step x,Z.it.after x Z.aI Z.st.live E2,Z.aD.keepObj x Z.hl,Z.rl.keep (x.kp Z.st.live E2)⟩
theorem CS.step (Z:CS C cenv ns' s₀ M₀ I D src ρ k acc vs j s M H) (x:Step C noW s M s' M') (rp:Rep C.S C.pv s'.heap M' H'):CS C cenv ns' s₀ M₀ I D src ρ k acc vs j s' M' H' :=
 Z.own (W:=noW) x.ofNo (Z.st.step x rp) (Z.y.trans x)
theorem CS.push {xv:Value} {yv:AV} (Z:CS C cenv ns' s₀ M₀ I D src ρ k acc vs j s M H) (G:CG C cenv s₀ I D) (rx:VRel (C.wd s.heap M) xv yv):∃ j',CS C cenv ns' s₀ M₀ I D src ρ k (acc++[yv]) (vs.push xv) j' { s with heap:=s.heap.update D (Obj.mapSeq (·.push xv)) } M H:=by
 have k6:∀ b o,b≠D→s.heap.get? b=some o→(s.heap.update D (Obj.mapSeq (·.push xv))).get? b=some o:=fun b o n e=>(Heap.get?_update_other _ _ (Ne.symm n)).trans e
 have hl6:=IsL.update Z.hl (·.push xv)
 have kp6:Kp (C.wd s.heap M) (C.wd (s.heap.update D (Obj.mapSeq (·.push xv))) M):=⟨fun b o e n hd=>⟨k6 b o (fun z=>n (.inr (z▸G.dp))) e,n⟩,⟨[],by simp [wdOf]⟩,rfl⟩
 generalize s.heap.update D (Obj.mapSeq (·.push xv))=h6 at *
 refine ⟨_,Z.y.but (tk:=s.toks) G.d0 k6,Z.st.but (tk:=s.toks) Z.aD k6 (fun _=>⟨_,hl6⟩),⟨⟨_,k6 _ _ G.ne Z.aI.obj.choose_spec.1,Z.aI.obj.choose_spec.2⟩,Z.aI.foot,Z.aI.fs,Z.aI.own,Z.aI.base⟩,⟨⟨_,hl6,.inl G.dp⟩,Z.aD.foot,Z.aD.fs,Z.aD.own,Z.aD.base⟩,?_,hl6,by simpa using (Z.rl.keep kp6).snoc (rx.keep kp6)⟩
 have i5:=Z.it
 cases i5 with
 | seq W hw hf hi hk hg =>
  refine .seq W (W.frame _ _ _ hw fun b hb o e=>?_) (fun b hb=>(hf b hb).imp id fun z=>?_) (fun i v x q e=>(hi i v x q e).keep kp6) hk hg
  ·rcases hf b hb with rfl | z
   ·exact k6 _ _ G.ne e
   ·exact k6 _ _ (fun q=>z.2.2.2.2 (q▸G.dp)) e
  ·obtain ⟨⟨o,ho⟩,z2,z3,z4,z5⟩:=z
   exact ⟨⟨o,k6 _ _ (fun q=>z5 (q▸G.dp)) ho⟩,z2,z3,z4,z5⟩
 | lref hw e=>exact .lref (hw.at fun o e=>k6 _ _ G.ne e) e
end
theorem Zi8 (hh:C.A.handled=none) {cenv:Env} {ns':List (Option Str)} {elt cond:DE} {elt' it':Expr} {ifs:List Expr} {x:Str} {px pos:Pos} {sc:Scope} {ρ:RE} {s₀ s4:Shared} {M₀ M4:Mp} {H4 Hf:AH} {src:Src} {n:Nat} {ys:List AV} {I D:Addr} {R:Result→Shared→Prop}
  (hj:ns'[ρ.length]?=some (some x)) (hxk:cenv.kindOf x=some .local) (helt:Snd C cenv ns' elt elt') (hcond:TestsOK C cenv ns' cond ifs) (h0:s₀.heap.get? I=none) (hc0:s₀.heap.get? cenv.locals=none) (hD0:s₀.heap.get? D=none) (hDp:D∈C.pv.1) (hIp:I∉C.pv.1∧I∉C.pv.2) (hn:n≤1000000)
  (y4:Step C noW s₀ M₀ s4 M4) (st4:St C cenv ns' (ρ++[none]) s4 M4 H4) (haI:Aside C cenv s4.heap M4 I) (haD:Aside C cenv s4.heap M4 D) (hID:I≠D) (it4:Itr C cenv s4.heap M4 I src 0) (hl4:IsL s4.heap D #[] 0)
  (w:compL (fun v=>cond (ρ++[some v])) (fun v=>elt (ρ++[some v])) src n 0 [] H4=.ok ys Hf)
  (hR:∀ s' M' vs j m,Step C noW s₀ M₀ s' M'→Rep C.S C.pv s'.heap M' Hf→Live C s'.heap M'→IsL s'.heap D vs j→VRels (C.wd s'.heap M') vs.toList ys→¬ foot M' D→s'.heap.Ns cenv.locals m→¬ foot M' cenv.locals→R (.ok .next) s') :
  codeAny C.S.M C.A (.compLoop (.ListComp elt' [⟨.Name x px,it',ifs,0⟩] sc pos) 0 (.ref I) (.ref D) cenv) R s4:=by
 have G:CG C cenv s₀ I D:=⟨h0,hc0,hD0,hDp,hIp,hID⟩
 refine codeAny_compLoop_tests (CompInv C cenv ns' elt cond ρ s₀ M₀ I D src ys Hf)
  (fun m s' I'=>?_) n ⟨none,M4,H4,0,[],#[],0,hn,Nat.le_refl _,⟨y4,st4,haI,haD,it4,hl4,.nil⟩,w⟩
 clear y4 st4 haI haD hID it4 hl4 w h0 hc0 hD0 hDp hIp
 obtain ⟨ov,M',H',k,acc,vs,j,hmk,hak,Z,w'⟩:=I'
 refine Zi6 w' (fun hr e1 e2=>?_) fun bv m c H₁ hr ez hT w1=>?_
 ·subst e1; subst e2
  refine ZdO Z.st hh Z.aI Z.it hr (fun u a h' tk e=>nomatch e) fun h' tk _ kp=>?_
  obtain ⟨y2,s2⟩:=Z.off (tk:=tk) G kp
  refine x2_1 (s2.env) fun m2 cm2 E2=>?_
  exact hR _ M' vs j m2 y2 s2.rep s2.live (kp _ _ G.ne.symm Z.hl) (Z.rl.keep (Z.aI.kp kp)) Z.aD.foot E2.loc (E2.off _ (.inl rfl)).1
 clear w' hR
 subst ez
 refine ZdO Z.st hh Z.aI Z.it hr (fun u a h' tk e kp rv i2=>?_) fun h' tk e=>nomatch e
 cases e
 have Z2:=Z.next (tk:=tk) G kp i2
 clear Z hr kp i2
 generalize hs2:({ s' with heap:=h',toks:=tk }:Shared)=t2 at Z2
 have e2:t2.heap=h':=by rw [← hs2]
 rw [← e2] at rv
 clear e2 hs2
 refine wpAny_assign_Name ?_
 refine x2_1 (Z2.st.env) fun m3 cm3 En3=>?_
 refine wpAny_storeName_local hxk En3.loc (fun h3 hn3 hs3=>?_) (by rw [En3.fn]; rfl)
 obtain ⟨x3,st3⟩:=ZdC (o:=some bv) (tk:=t2.toks+1) Z2.st En3 hj hxk hn3 hs3 (fun b e=>⟨u,Option.some.inj e▸rv,by simp⟩) fun y hy=>by simp [hy]
 have es:(ρ++[ov]).set ρ.length (some bv)=ρ++[some bv]:=by simp
 rw [es] at st3
 have Z3:=Z2.own (W:=noW) (x3.wider fun _ q=>.inl q) st3 (Z2.y.thenNew x3 (fun b q=>.inr (by rw [q]; exact G.c0)))
 clear Z2 x3 st3 es En3 rv hn3 hs3
 generalize ({ t2 with heap:=h3,toks:=t2.toks+1 }:Shared)=t3 at Z3
 have A:=hcond Z3.st
 have hT':tst cond (ρ++[some bv]) H'=.ok c H₁:=by unfold tst; rw [show cond (ρ++[some bv]) H'=.ok (.bool c) H₁ from hT]; rfl
 rw [hT'] at A
 clear hT hT'
 refine wpAny_mono A (fun ok s4 z_9=>x1_3 z_9 fun M₄ z4 rp4 eb=>?_) fun _ _ q=>q.elim
 obtain rfl:ok=c:=eb
 have Z4:=Z3.step z4 rp4
 clear Z3 A z4 rp4
 refine w1.elim (fun z=>?_) fun z=>?_
 ·obtain ⟨ez,w2⟩:=z
  subst ez
  exact ⟨m,Nat.lt_succ_self m,some bv,M₄,H₁,k+1,acc,vs,j,by lia,by exact Nat.le_trans ‹_› (Nat.le_add_right _ _),Z4,w2⟩
 ·refine y2_2 z fun ez yv H₂ hE w2=>?_
  clear z; subst ez
  have B:=helt Z4.st
  rw [show elt (ρ++[some bv]) H₁=.ok yv H₂ from hE] at B
  refine wpAny_mono B (fun xv s5 z_10=>x1_3 z_10 fun M₅ z5 rp5 rx=>?_) fun _ _ q=>q.elim
  have Z5:=Z4.step z5 rp5
  refine call_meets F.slot_list_append ⟨_,Z5.hl,rfl⟩ F.entry_list_append (F.args_list_append_2 _ _) (list_append D vs j xv (by rw [Z5.rl.size,sizeLine_eq]; lia)) ⟨Z5.hl,?_⟩
  obtain ⟨j',Z6⟩:=Z5.push G rx
  exact ⟨m,Nat.lt_succ_self m,some bv,M₅,H₂,k+1,acc++[yv],_,j',by lia,by rw [qLa]; simp; lia,Z6,w2⟩
end
theorem Itr.to {C:Cx} {env env':Env} {h h':Heap} {M:Mp} {I:Addr} {src:Src} {k:Nat} {l1:List Addr} (i:Itr C env h M I src k) (kx:∀ b o,h.get? b=some o→h'.get? b=some o) (ho:∀ b o,h.get? b=some o→¬ OwnW env b→¬ OwnW env' b) (hl:∀ b o,h.get? b=some o→b∉C.pv.1→b∉l1) (kp:Kp (C.wd h M) (wdOf C.S (l1,C.pv.2) h' M)):Itr (C.withPv (l1,C.pv.2)) env' h' M I src k:=by
 cases i with
 | seq W hw hf hi hk hg =>
  refine .seq W (W.frame _ _ _ hw fun b _ o e=>kx b o e) (fun b hb=>(hf b hb).imp id fun z=>?_) (fun i v x q e=>(hi i v x q e).keep kp) hk hg
  obtain ⟨⟨o,e⟩,z2,z3,z4,z5⟩:=z
  exact ⟨⟨o,kx b o e⟩,ho b o e z2,z3,z4,hl b o e z5⟩
 | lref hw e=>exact .lref (hw.at fun o e=>kx _ o e) e
theorem Rep.adopt {S:Stat} {l1 l2:List Addr} {h:Heap} {M:Mp} {H:AH} {D:Addr} {vs:Array Value} {j:Nat} {ys:List AV} (R:Rep S (D::l1,l2) h M H) (hl:IsL h D vs j) (rl:VRels (wdOf S (D::l1,l2) h M) vs.toList ys) (nf:¬ foot M D) (hn:D∉l2) :
  Kp (wdOf S (D::l1,l2) h M) (wdOf S (l1,l2) h (M++[(D,D)]))∧Rep S (l1,l2) h (M++[(D,D)]) (H++[.lst ys]):=by
 have fa:∀ a,foot (M++[(D,D)]) a↔foot M a∨a=D:=fun a=>by
  rw [Zbc]
  refine or_congr Iff.rfl ⟨fun z_11=>x1_2 z_11 fun p hp z=>?_,fun z=>⟨(D,D),.head _,.inl z⟩⟩
  cases qMs hp
  exact z.elim id id
 have K:Kp (wdOf S (D::l1,l2) h M) (wdOf S (l1,l2) h (M++[(D,D)])):=⟨fun b o e n _=>⟨e,fun q=>n (by
  rcases q with q | q
  ·rcases (fa b).mp q with q | q
   ·exact .inl q
   ·exact .inr (q▸.head _)
  ·exact .inr (.tail _ q))⟩,⟨[(D,D)],rfl⟩,rfl⟩
 refine ⟨K,?_⟩
 have cs:∀ {α:Type} (L:List α) (x y:α) (n:Nat),(L++[x])[n]?=some y→L[n]?=some y∨(n=L.length∧y=x):=fun L x y n e=>by
  rw [List.getElem?_append] at e
  split at e
  ·exact .inl e
  ·rename_i q
   have h1:=(gsi e).1
   simp only [List.length_singleton] at h1
   exact .inr ⟨by lia -abstractProof,qMs (qMo e)⟩
 have old:∀ {n:Nat} {q:Addr×Addr},M[n]?=some q→Apart q (D,D):=fun {n q} e=>by
  have h1:q.1≠D:=fun z=>nf (z▸(Zar e).1)
  have h2:q.2≠D:=fun z=>nf (z▸(Zar e).2)
  exact ⟨h1,h1,h2,h2⟩
 have len:=R.len
 refine ⟨by rw [qLa,qLa,len]; rfl,fun n q ao e e'=>?_,fun i k q q' e e' ne=>?_,fun n q e z=>?_,fun n q es e e'=>?_⟩
 ·rcases cs M _ _ n e with e | ⟨rfl,rfl⟩<;>rcases cs H _ _ _ e' with e' | ⟨h1,rfl⟩
  ·exact (R.obj n q ao e e').keep K rfl rfl
  ·have:=(gsi e).1; lia -abstractProof
  ·have:=(gsi e').1; lia -abstractProof
  ·exact ⟨rfl,vs,j,hl,rl.keep K⟩
 ·rcases cs M _ _ i e with e | ⟨rfl,rfl⟩<;>rcases cs M _ _ k e' with e' | ⟨rfl,rfl⟩
  ·exact R.apart i k q q' e e' ne
  ·exact old e
  ·obtain ⟨a,b,c,d⟩:=old e'; exact ⟨a.symm,c.symm,b.symm,d.symm⟩
  ·exact absurd rfl ne
 ·rcases cs M _ _ n e with e | ⟨rfl,rfl⟩
  ·obtain ⟨es,q'⟩:=R.held n q e z
   exact ⟨es,by rw [qGl (gsi q').1]; exact q'⟩
  ·exact absurd z fun z=>z.elim hn hn
 ·rcases cs M _ _ n e with e | ⟨rfl,rfl⟩<;>rcases cs H _ _ _ e' with e' | ⟨h1,h2⟩
  ·exact R.lkd n q es e e'
  ·cases h2
  ·have:=(gsi e').1; lia -abstractProof
  ·cases h2
theorem Rep.letGo {C:Cx} {h h₀:Heap} {M M':Mp} {H H₀:AH} {l:Option Nat} {l1:List Addr} (R:Rep C.S (l1,lockOf M l++C.pv.2) h M' H) (pre:∃ e,M'=M++e) (R₀:Rep C.S C.pv h₀ M H₀) (hl:∀ n,l=some n→∃ es,H₀[n]?=some (.dict es)):Rep C.S (l1,C.pv.2) h M' (freeH l H):=by
 cases l with
 | none=>exact R
 | some n =>
  obtain ⟨es,q⟩:=hl n rfl
  have hp:∃ p,M[n]?=some p:=⟨_,qGg (by rw [R₀.len]; exact (gsi q).1)⟩
  obtain ⟨p,hp⟩:=hp
  have e:lockOf M (some n)=[p.1]:=by simp only [lockOf,hp]
  rw [e] at R
  obtain ⟨e',rfl⟩:=pre
  refine Rep.free R (by rw [qGl (gsi hp).1]; exact hp) (R₀.off2 hp fun es' h=>?_)
  rw [q] at h; cases h
theorem Zh6 {H:AH} {a:AV} {src:Src} {n:Nat} {l:Option Nat} (h:srcOf H a=some (src,n,l)):∀ k,l=some k→∃ es,H[k]?=some (.dict es):=by
 intro k e
 subst e
 cases a<;>first | exact Zad h | skip
 ·cases h
 ·cases h
 ·rename_i m
  cases q:H[m]? with
  | none=>rw [ZbK q] at h; cases h
  | some ao =>
   rw [ZbK q] at h
   cases ao<;>cases h
   exact ⟨_,q⟩
 ·rename_i x y
  replace h:(if (small x && small y)=true then some (Src.seq (span x y),(y-x).toNat,(none:Option Nat)) else none)=some (src,n,some k):=h
  split at h<;>cases h
section
variable {C:Cx} {env:Env} {ns:List (Option Str)}
theorem Zk4 {pv:List Addr×List Addr} {M₀ M':Mp} {s₀ s':Shared} {H₀ H' Hf:AH} {l:Option Nat} {D:Addr} {vs:Array Value} {j:Nat} {ys:List AV} {y:AV} {mt:Bool} (hpv:pv=(D::C.pv.1,lockOf M₀ l++C.pv.2)) (R₀:Rep C.S C.pv s₀.heap M₀ H₀) (L₀:Live C s₀.heap M₀) (hl:∀ n,l=some n→∃ es,H₀[n]?=some (.dict es)) (hD0:s₀.heap.get? D=none)
  (x:Step (C.withPv pv) noW s₀ M₀ s' M') (R:Rep C.S pv s'.heap M' H') (hL:IsL s'.heap D vs j) (rl:VRels (wdOf C.S pv s'.heap M') vs.toList ys) (nf:¬ foot M' D) (e:newL mt ys (freeH l H')=.ok y Hf) :
  ∃ M₂,Step C noW s₀ M₀ s' M₂∧Rep C.S C.pv s'.heap M₂ Hf∧VRel (C.wd s'.heap M₂) (.ref D) y∧∀ c,s₀.heap.get? c=none→c≠D→¬ foot M' c→¬ foot M₂ c:=by
 subst hpv
 have x':Step C noW s₀ M₀ s' M':=x.pv fun a q=>List.mem_append.mpr (.inr q)
 have R1:Rep C.S (D::C.pv.1,C.pv.2) s'.heap M' (freeH l H'):=R.letGo x.pre R₀ hl
 cases mt with
 | false =>
  cases e
  have K:Kp (wdOf C.S (D::C.pv.1,lockOf M₀ l++C.pv.2) s'.heap M') (C.wd s'.heap M'):=Zfu fun a o _ q=>.tail _ q
  have q:=rl.keep K
  exact ⟨M',x',R1.keep (l:=C.pv.1) (Zfu fun a o _ q=>.tail _ q) fun _ _=>rfl,.lst hL (fun q=>q.elim nf (L₀.pv0 hD0)) q.1 q.2,fun c _ _ n=>n⟩
 | true =>
  cases e
  have hn:D∉C.pv.2:=fun q=>by obtain ⟨o,ho⟩:=L₀.priv D (.inr q); rw [hD0] at ho; cases ho
  have rl1:VRels (wdOf C.S (D::C.pv.1,C.pv.2) s'.heap M') vs.toList ys:=rl.keep (Zfu fun a o _ q=>q)
  obtain ⟨K,R2⟩:=R1.adopt hL rl1 nf hn
  refine ⟨M'++[(D,D)],⟨x'.keep,x'.slots,x'.alive,?_,fun a q=>?_,x'.gens,x'.os⟩,R2,?_,fun c hc hne n q=>?_⟩
  ·obtain ⟨e,rfl⟩:=x'.pre; exact ⟨e++[(D,D)],by rw [qAa]⟩
  ·rcases Zbc.mp q with q | ⟨p,hp,z⟩
   ·exact x'.grow a q
   ·cases qMs hp
    rcases z with rfl | rfl<;>exact .inr hD0
  ·refine .ref (p:=(D,D)) ?_
   show (M'++[(D,D)])[(freeH l H').length]?=_
   rw [← R1.len]; simp
  ·rcases Zbc.mp q with q | ⟨p,hp,z⟩
   ·exact n q
   ·cases qMs hp
    exact z.elim hne hne
theorem Zi7 {mt:Bool} {elt cond:DE} {elt' it':Expr} {ifs:List Expr} {x:Str} {px pos:Pos} {sc:Scope} {ρ:RE} {s₁:Shared} {M₁:Mp} {H₁ H₂ H':AH} {src:Src} {n tk:Nat} {l:Option Nat} {ys:List AV} {y:AV} {h2 h3 h4:Heap} {I D c:Addr} {R:Result→Shared→Prop}
  (st1:St C env ns ρ s₁ M₁ H₁) (Y:CompAt env x sc) (helt:∀ pv (env':Env),env'.scope.names=relN env.scope.names sc.names→Snd (C.withPv pv) env' (nsC ns sc.names x) elt elt') (hcond:∀ pv (env':Env),env'.scope.names=relN env.scope.names sc.names→TestsOK (C.withPv pv) env' (nsC ns sc.names x) cond ifs)
  (hh:C.A.handled=none) (hz:n≤1000000) (hl:∀ n,l=some n→∃ es,H₁[n]?=some (.dict es)) (hk2:∀ b o,s₁.heap.get? b=some o→h2.get? b=some o) (st2:St (C.held M₁ l) env ns ρ { s₁ with heap:=h2 } M₁ (lockH l H₁)) (ha2:Aside (C.held M₁ l) env h2 M₁ I) (it2:Itr (C.held M₁ l) env h2 M₁ I src 0) (hI0:s₁.heap.get? I=none)
  (hD0:h2.get? D=none) (hk3:∀ b o,h2.get? b=some o→h3.get? b=some o) (hD3:IsL h3 D #[] 0) (hc3:h3.get? c=none) (hk4:∀ b o,h3.get? b=some o→h4.get? b=some o) (hn4:h4.Ns c (fun _=>none))
  (hc:compL (fun v=>cond (ρ++[some v])) (fun v=>elt (ρ++[some v])) src n 0 [] (lockH l H₁)=.ok ys H₂) (hnew:newL mt ys (freeH l H₂)=.ok y H')
  (hR:∀ s' M' m,Step C noW s₁ M₁ s' M'→Rep C.S C.pv s'.heap M' H'→VRel (C.wd s'.heap M') (.ref D) y→s₁.heap.get? c=none→s'.heap.Ns c m→¬ foot M' c→R (.ok .next) s') :
  (∀ {P:Value→Shared→Prop} {E:Value→Shared→Prop},P (.ref I) { s₁ with heap:=h4,toks:=tk }→wpAny C.S.M C.A (pyIter (.ref I)) P E { s₁ with heap:=h4,toks:=tk })∧codeAny C.S.M C.A (.compLoop (.ListComp elt' [⟨.Name x px,it',ifs,0⟩] sc pos) 0 (.ref I) (.ref D) (compEnvC sc (closOf env sc.names) c env)) R { s₁ with heap:=h4,toks:=tk }:=by
 have hk24:∀ b o,h2.get? b=some o→h4.get? b=some o:=fun b o e=>hk4 b o (hk3 b o e)
 have oldD:s₁.heap.get? D=none:=gone (fun b o e=>⟨o,hk2 b o e⟩) hD0
 have oldc2:h2.get? c=none:=gone (fun b o e=>⟨o,hk3 b o e⟩) hc3
 have oldc:s₁.heap.get? c=none:=gone (fun b o e=>⟨o,hk2 b o e⟩) oldc2
 have hcD:c≠D:=(Zbf hD3 hc3).symm
 refine x1_2 (it2.is.not) fun oI eI nI=>?_
 have hID:I≠D:=Zbf eI hD0
 have hIc:I≠c:=Zbf (hk3 _ _ eI) hc3
 have st4:St (C.held M₁ l) env ns ρ { s₁ with heap:=h4,toks:=tk } M₁ (lockH l H₁):=st2.step (Step.ext (t:=tk) hk24) (st2.rep.ext hk24)
 have kD:Kp ((C.held M₁ l).wd h4 M₁) (wdOf C.S (D::C.pv.1,lockOf M₁ l++C.pv.2) h4 M₁)→True:=fun _=>trivial
 have nfD:¬ foot M₁ D:=st1.rep.off oldD
 -- no value stands for D: it stood not in h2
 have kD2:Kp ((C.held M₁ l).wd h2 M₁) (wdOf C.S (D::C.pv.1,lockOf M₁ l++C.pv.2) h4 M₁):=⟨fun b o e nf _=>⟨hk24 b o e,fun q=>nf (q.imp id fun q=>(List.mem_cons.mp q).resolve_left (Zbf e hD0))⟩,⟨[],by simp [wdOf]⟩,rfl⟩
 have R4:Rep C.S (D::C.pv.1,lockOf M₁ l++C.pv.2) h4 M₁ (lockH l H₁):=st2.rep.keep (l:=D::C.pv.1) kD2 fun a f=>by
  obtain ⟨o,ho⟩:=st2.rep.there f
  exact (hk24 a o ho).trans ho.symm
 refine x2_1 (st2.env) fun m2 cm2 E2=>?_
 have E4:EnvAt (C.held M₁ l) env ns ρ h4 (wdOf C.S (D::C.pv.1,lockOf M₁ l++C.pv.2) h4 M₁) m2 cm2:=E2.keep rfl (fun _ q=>q) (fun o ho=>⟨o.slots,hk24 _ o ho⟩) (fun n c o e ho=>hk24 c o ho) kD2 fun a o _ _ n=>n
 have E4':EnvAt (C.withPv (D::C.pv.1,lockOf M₁ l++C.pv.2)) env ns ρ h4 ((C.withPv (D::C.pv.1,lockOf M₁ l++C.pv.2)).wd h4 M₁) m2 cm2:=⟨E4.fn,E4.glob,E4.bns,E4.loc,E4.off,E4.inj,E4.len,E4.has,E4.cell,E4.apart,E4.var⟩
 have hne:∀ n a,env.cells.lookup n=some a→a≠c:=fun n a ha=>by
  obtain ⟨⟨o,ho,_⟩,_⟩:=E2.cell n a ha
  exact Zbf ho oldc2
 have En:=E4'.inner (pv:=(D::C.pv.1,lockOf M₁ l++C.pv.2)) Y hn4 (st1.rep.off oldc) (st1.live.base0 oldc) hne (Kp.refl _)
 have stI:St (C.withPv (D::C.pv.1,lockOf M₁ l++C.pv.2)) (compEnvC sc (closOf env sc.names) c env) (nsC ns sc.names x) (ρ++[none]) { s₁ with heap:=h4,toks:=tk } M₁ (lockH l H₁):=by
  have L:=st4.live
  refine ⟨⟨L.frames,L.funs,L.stays,L.off,L.new,L.handled,L.dicts,L.depth,L.units,fun a q=>?_,fun a q=>?_⟩,R4,_,_,En⟩
  ·rcases q with q | q
   ·rcases List.mem_cons.mp q with rfl | q
    ·exact ⟨_,hk4 _ _ hD3⟩
    ·exact L.priv a (.inl q)
   ·exact L.priv a (.inr q)
  ·rcases List.mem_cons.mp q with rfl | q
   ·exact nfD
   ·exact L.poff a q
 have own:∀ b o,h2.get? b=some o→¬ OwnW env b→¬ OwnW (compEnvC sc (closOf env sc.names) c env) b:=fun b o e n q=>by
  rcases q with q | ⟨y,q⟩
  ·exact Zbf e oldc2 q
  ·exact n (.inr ⟨y,ZdL sc.names [] (fun _ _ q=>nomatch q) y b q⟩)
 have it4:Itr (C.withPv (D::C.pv.1,lockOf M₁ l++C.pv.2)) (compEnvC sc (closOf env sc.names) c env) h4 M₁ I src 0:=it2.to (l1:=D::C.pv.1) hk24 own (fun b o e n q=>n ((List.mem_cons.mp q).resolve_left (Zbf e hD0))) kD2
 have aI:Aside (C.withPv (D::C.pv.1,lockOf M₁ l++C.pv.2)) (compEnvC sc (closOf env sc.names) c env) h4 M₁ I:=⟨⟨oI,hk24 _ _ eI,.inr nI⟩,ha2.foot,ha2.fs,own I oI eI ha2.own,ha2.base⟩
 have aD:Aside (C.withPv (D::C.pv.1,lockOf M₁ l++C.pv.2)) (compEnvC sc (closOf env sc.names) c env) h4 M₁ D:=⟨⟨_,hk4 _ _ hD3,.inl (.head _)⟩,nfD,st1.live.fs0 oldD,fun q=>by
  rcases q with q | ⟨y,q⟩
  ·exact hcD q.symm
  ·exact st2.own0 (s:={ s₁ with heap:=h2 }) hD0 (.inr ⟨y,ZdL sc.names [] (fun _ _ q=>nomatch q) y D q⟩),st1.live.base0 oldD⟩
 have hIp:I∉D::C.pv.1∧I∉lockOf M₁ l++C.pv.2:=by
  have n1:∀ {a:Addr},(∃ o,s₁.heap.get? a=some o)→I≠a:=fun ⟨o,ho⟩ q=>by rw [← q,hI0] at ho; cases ho
  refine ⟨fun q=>?_,fun q=>?_⟩
  ·rcases List.mem_cons.mp q with q | q
   ·exact hID q
   ·exact n1 (st1.live.priv I (.inl q)) rfl
  ·rcases qMp q with q | q
   ·cases l with
    | none=>cases q
    | some k =>
     simp only [lockOf] at q
     split at q
     ·rename_i p hp
      have q:=qMs q
      exact n1 (st1.rep.there (Zar hp).1) q
     ·cases q
   ·exact n1 (st1.live.priv I (.inr q)) rfl
 refine ⟨fun h=>Zlr (C:=C.withPv (D::C.pv.1,lockOf M₁ l++C.pv.2)) (s:={ s₁ with heap:=h4,toks:=tk }) it4 h,?_⟩
 have hnm:(compEnvC sc (closOf env sc.names) c env).scope.names=relN env.scope.names sc.names:=Zdc E2.fn
 refine Zi8 (C:=C.withPv (D::C.pv.1,lockOf M₁ l++C.pv.2)) hh (by rw [E2.len]; exact Zo1) (lookup_relabel_local Y.loc) (helt _ _ hnm) (hcond _ _ hnm) (s₀:=s₁) (M₀:=M₁) hI0 oldc oldD (.head _) hIp hz (Step.ext fun b o e=>hk24 b o (hk2 b o e)) stI aI aD hID it4 (hk4 _ _ hD3) hc fun s' M' vs j m x' R' L' hL rl nf hns nfc=>?_
 refine x1_4 (Zk4 (C:=C) (mt:=mt) rfl st1.rep st1.live hl oldD x' R' hL rl nf hnew) fun M₂ z1 z2 z3 z4=>?_
 exact hR s' M₂ m z1 z2 z3 oldc hns (z4 c oldc hcD nfc)
theorem ZcN {mt:Bool} {elt it cond:DE} {elt' it':Expr} {ifs:List Expr} {x:Str} {px pos p0:Pos} {sc:Scope} {use:Option (Value→Sem Unit)} {ρ:RE} {s:Shared} {M:Mp} {H:AH} {QQ:Value→Shared→Prop} {E:Value→Shared→Prop}
  (st:St C env ns ρ s M H) (hit:Snd C env ns it it') (hf:notSet it'=true) (Y:CompAt env x sc) (helt:∀ pv (env':Env),env'.scope.names=relN env.scope.names sc.names→Snd (C.withPv pv) env' (nsC ns sc.names x) elt elt') (hcond:∀ pv (env':Env),env'.scope.names=relN env.scope.names sc.names→TestsOK (C.withPv pv) env' (nsC ns sc.names x) cond ifs)
  (hb:compE C.hot mt elt it cond ρ H≠.bad) (hE:∀ c H',compE C.hot mt elt it cond ρ H=.exc c H'→∀ ev s',PostX C s M c H' ev s'→E ev s')
  (hQ:∀ r y H' c s' M' m,compE C.hot mt elt it cond ρ H=.ok y H'→Step C noW s M s' M'→Rep C.S C.pv s'.heap M' H'→VRel (C.wd s'.heap M') r y→s.heap.get? c=none→s'.heap.Ns c m→¬ foot M' c→compPost C.S.M C.A E use QQ r c (.ok .next) s') :
  wpAny C.S.M C.A (comprehension (.ListComp elt' [⟨.Name x px,it',ifs,0⟩] sc pos) sc env p0 (newList []) false (eval it' env) use) QQ E s:=by
 refine x2_1 (st.env) fun m cm En0=>?_
 refine wpAny_comprehension_free (use:=use) rfl (Zjt hf) (ZmH fun y hy q=>En0.has y.1 (Y.free y hy q)) Y.kind Y.locs ?_
 have A:=hit st
 unfold compE at hb hE hQ
 generalize it ρ H=o at A hb hE hQ
 cases o with
 | bad=>exact absurd rfl hb
 | exc c H'=>exact wpAny_mono A (fun _ _ q=>q.elim) fun _ _ q=>hE c H' rfl _ _ q
 | ok a H₁ =>
 simp only [Out.bind] at hb hE hQ
 cases hs:srcOf H₁ a with
 | none=>rw [hs] at hb; exact absurd rfl hb
 | some sr =>
 obtain ⟨src,n,l⟩:=sr
 rw [hs] at hb hE hQ
 simp only [orBad] at hb hE hQ
 by_cases hz:C.hot=false∧n≤1000000
 case neg=>rw [if_neg hz] at hb; exact absurd rfl hb
 rw [if_pos hz] at hb hE hQ
 cases hc:compL (fun v=>cond (ρ++[some v])) (fun v=>elt (ρ++[some v])) src n 0 [] (lockH l H₁) with
 | bad=>rw [hc] at hb; exact absurd rfl hb
 | exc c H'=>rw [hc] at hb; exact absurd rfl hb
 | ok ys H₂ =>
 rw [hc] at hb hE hQ
 have hh:=st.live.handled hz.1
 have hnew:∃ y H',newL mt ys (freeH l H₂)=.ok y H':=by cases mt<;>exact ⟨_,_,rfl⟩
 refine x2_1 (hnew) fun y H' hnew=>?_
 refine wpAny_mono A (fun v s₁ z_12=>x1_3 z_12 fun M₁ x1 rp1 ra=>?_) fun _ _ q=>q.elim
 have st1:=st.step x1 rp1
 refine Zf6 st1 hh hs ra fun h2 hk2 st2 ha2 it2=>?_
 refine wpAny_newList (items:=[]) ?_ (Nat.zero_le _)
 refine wpAny_newFunctionEnv Y.nocell (by intro y hy; cases hy) (fun h4 hn4 hsb4=>?_) Y.kind
 have hD0':h2.get? h2.objs.size=none:=Zaq _
 have hk3:∀ b o,h2.get? b=some o→(h2.push { cls:=.type "list", dict:=none,data:=.seq ([]:List Value).toArray }).get? b=some o:=fun b o e=>Heap.get?_push_of_some _ e
 have hD3:IsL (h2.push { cls:=.type "list", dict:=none,data:=.seq ([]:List Value).toArray }) h2.objs.size #[] 0:=Heap.get?_push_size _ rfl
 have hk4:∀ b o,(h2.push { cls:=.type "list", dict:=none,data:=.seq ([]:List Value).toArray }).get? b=some o→h4.get? b=some o:=fun b o e=>(hsb4.2 b (Nat.ne_of_lt (Heap.lt_size e))).trans (Heap.get?_push_of_some _ e)
 have hc3:=Zaq (h2.push { cls:=.type "list", dict:=none,data:=.seq ([]:List Value).toArray })
 obtain ⟨self,key⟩:=Zi7 (mt:=mt) (tk:=s₁.toks+([]:List (Str×Value)).length) (elt':=elt') (it':=it') (px:=px) (pos:=pos) (R:=compPost C.S.M C.A E use QQ (.ref h2.objs.size) _) st1 Y helt hcond hh hz.2 (Zh6 hs) hk2 st2 ha2 it2 (Zaq _) hD0' hk3 hD3 hc3 hk4 hn4 hc hnew fun s' M' m z1 z2 z3 z4 z5 z6 =>
  hQ (.ref _) y H' _ s' M' m hnew (x1.trans z1) z2 z3 (gone x1.alive z4) z5 z6
 exact codeAny_compStart_list key (self key)
theorem dictOff {h:Heap} {c:Addr} {m:Str→Option Value} (hn:h.Ns c m):∀ o,h.get? c=some o→¬ Held o:=by
 intro o e hh
 refine x3_3 (hn) fun o' es ep ho hd _=>?_; try clear hn
 rw [e] at ho; cases ho
 exact hh.nd es ep hd
theorem Ns.there {h:Heap} {c:Addr} {m:Str→Option Value} (hn:h.Ns c m):∃ o,h.get? c=some o:=let ⟨o,_,_,ho,_⟩:=hn; ⟨o,ho⟩
theorem Zl6 {mt:Bool} {elt it cond:DE} {elt' it':Expr} {ifs:List Expr} {x:Str} {px pos:Pos} {sc:Scope} (hit:Snd C env ns it it') (hf:notSet it'=true) (Y:CompAt env x sc)
  (helt:∀ pv (env':Env),env'.scope.names=relN env.scope.names sc.names→Snd (C.withPv pv) env' (nsC ns sc.names x) elt elt') (hcond:∀ pv (env':Env),env'.scope.names=relN env.scope.names sc.names→TestsOK (C.withPv pv) env' (nsC ns sc.names x) cond ifs) :
  Snd C env ns (compE C.hot mt elt it cond) (.ListComp elt' [⟨.Name x px,it',ifs,0⟩] sc pos):=fun {ρ s M H} st=>by
 cases ho:compE C.hot mt elt it cond ρ H with
 | bad=>trivial
 | exc c H' =>
  exact ZcN (mt:=mt) (use:=none) (p0:=it'.pos) (QQ:=no1) (E:=PostX C s M c H') st hit hf Y helt hcond (by rw [ho]; exact fun q=>nomatch q) (fun c' H'' e ev s' p=>by rw [ho] at e; cases e; exact p) fun r y H' c s' M' m e=>by rw [ho] at e; cases e
 | ok y H' =>
  refine ZcN (mt:=mt) (use:=none) (p0:=it'.pos) (QQ:=Post VRel C s M y H') (E:=no1) st hit hf Y helt hcond (by rw [ho]; exact fun q=>nomatch q) (fun c' H'' e=>by rw [ho] at e; cases e) fun r y' H'' c s' M' m e x rp rv hc hn nf=>⟨m,hn,fun h' sb=>?_⟩
  rw [ho] at e
  cases e
  have k:∀ b o,b≠c→s'.heap.get? b=some o→h'.get? b=some o:=fun b o ne e=>(sb.2 b ne).trans e
  have K:Kp (C.wd s'.heap M') (C.wd h' M'):=⟨fun b o e n hd=>⟨k b o (fun z=>dictOff hn o (z▸e) hd) e,n⟩,⟨[],by simp [wdOf]⟩,rfl⟩
  exact ⟨M',x.but (tk:=s'.toks) hc k,rp.keep (l:=C.pv.1) K fun a f=>sb.2 a fun q=>nf (q▸f),rv.keep K⟩
end
structure Stn (B:Heap) (fe:List Env) (h h':Heap):Prop where
 stays:B.StaysIn h'
 funs:h'.FunFrames B fe
 up:h.UpToSlots h'
 alive:∀ b o,h.get? b=some o→∃ o',h'.get? b=some o'
theorem ZeH (f:Array Value→Array Value) (o:Obj):(o.mapFields f).dict=o.dict:=by
 obtain ⟨_,_,d,_⟩:=o
 cases d<;>rfl
section
variable {M:Model} {A:Around} {E:Value→Shared→Prop} {s:Shared} {B:Heap} {env:Env} {outer:List Env} {L e D:Addr} {Q:Unit→Shared→Prop}
theorem ZhF {o:Obj} {vs:Array Value} {head:Value} {hadNext:Bool} (hfr:A.frames=some (env::outer)) (hl:s.heap.FunFrames B (env::outer)) (hf:env.frame=some L)
  (he:s.heap.get? e=some o) (hkb:B.StaysIn s.heap) (hen:B.get? e=none) (hd:o.data=.fields vs) (hsz:2<vs.size) (hcd:o.cls=.ref D∧o.dict=none)
  (h:∀ h',Stn B (env::outer) s.heap h'→Fly B h' e D (rawInt L)→Q () { s with heap:=h' }) :
  wpAny M A (do let a ← frameOf env; let pl ← entryPlaceOf L hadNext; let b ← EntryCells.newEntry head a .none (rawInt L) .none pl; setField (.ref e) 1 b) Q E s:=by
 have hene:e∉(env::outer).filterMap (·.frame):=fun hm=>by
  obtain ⟨_,o',ho,hnf⟩:=hl.mem hm
  rw [he] at ho; cases ho; exact hnf vs hd
 refine wpAny_bind (wpAny_frameOf_fun hfr hl hf fun h₁ hs₁=>?_)
 refine wpAny_bind (wpAny_entryPlaceOf fun pl hpl=>?_)
 unfold EntryCells.newEntry newFields
 refine wpAny_bind (wpAny_newObj_type ?_ (hpl.sizeOk5 _ _ _ _ _))
 have he₁:h₁.get? e=some o:=(hs₁.2.1 e hene).trans he
 have kb₁:B.StaysIn h₁:=fun b o' hbo=>(hs₁.2.1 b fun hm=>by rw [(hl.mem hm).1] at hbo; cases hbo).trans (hkb b o' hbo)
 have h3:([head,Value.ref L,.none,rawInt L,.none]++(if pl.isEmpty then List.replicate 6 Value.none else pl)).toArray[3]?=some (rawInt L):=by simp
 generalize ([head,Value.ref L,.none,rawInt L,.none]++(if pl.isEmpty then List.replicate 6 Value.none else pl)).toArray=ts at h3
 have he₂:=Heap.get?_push_of_some (h:=h₁) { cls:=.type "traceback", dict:=none,data:=.fields ts } he₁
 refine wpAny_setField he₂ hd (Nat.lt_of_succ_lt hsz) ?_
 have hTe:h₁.objs.size≠e:=Nat.ne_of_gt (Heap.lt_size he₁)
 have hd₃:=Obj.data_mapFields hd (·.setIfInBounds 1 (Value.ref h₁.objs.size))
 have he₃:=Heap.get?_update_self (Obj.mapFields (·.setIfInBounds 1 (Value.ref h₁.objs.size))) he₂ (Obj.isFreed_of_fields hd₃)
 have hT₃:=(Heap.get?_update_other (h₁.push { cls:=.type "traceback", dict:=none,data:=.fields ts }) (Obj.mapFields (·.setIfInBounds 1 (Value.ref h₁.objs.size))) (Ne.symm hTe)).trans (Heap.get?_push_size h₁ rfl)
 have keep:∀ b o',b≠e→h₁.get? b=some o'→((h₁.push { cls:=.type "traceback", dict:=none,data:=.fields ts }).update e (Obj.mapFields (·.setIfInBounds 1 (Value.ref h₁.objs.size)))).get? b=some o':=fun b o' hbe hb=>by
  rw [Heap.get?_update_other _ _ (Ne.symm hbe)]
  exact Heap.get?_push_of_some _ hb
 have noRecord:∀ b o',s.heap.get? b=some o'→(∀ vs,o'.data≠.fields vs)→b≠e:=fun b o' hb hnf q=>by
  rw [q,he] at hb; cases hb; exact hnf vs hd
 refine h _ ⟨fun b o' hbo=>keep b o' (Zbf hbo hen) (kb₁ b o' hbo),hl.of_keeps fun b o' hb hnf=>?_,fun b o' hb hnf=>?_,fun b o' hb=>?_⟩ ⟨_,_,h₁.objs.size,_,ts,he₃,⟨(Obj.cls_mapFields _ _).trans hcd.1,(ZeH _ _).trans hcd.2⟩,hd₃,by simpa using hsz,by simp [Nat.lt_of_succ_lt hsz],kb₁.fresh,hTe,hT₃,rfl,h3⟩
 ·obtain ⟨sl,hs⟩:=hs₁.2.2 b o' hb
  exact ⟨_,keep b _ (noRecord b o' hb hnf) hs,rfl⟩
 ·obtain ⟨sl,hs⟩:=hs₁.2.2 b o' hb
  exact ⟨sl,keep b _ (noRecord b o' hb hnf) hs⟩
 ·by_cases q:b=e
  ·rw [q]; exact ⟨_,he₃⟩
  ·obtain ⟨sl,hs⟩:=hs₁.2.2 b o' hb
   exact ⟨_,keep b _ q hs⟩
theorem Znm (hfr:A.frames=some (env::outer)) (hl:s.heap.FunFrames B (env::outer)) (hf:env.frame=some L) (hkb:B.StaysIn s.heap) (hen:B.get? e=none) (hx:Raw s.heap e D∨∃ fl,Fly B s.heap e D fl∧(fl=.none∨fl=rawInt L))
  (h:∀ h',Stn B (env::outer) s.heap h'→Fly B h' e D (rawInt L)→Q () { s with heap:=h' }):wpAny M A (noteFrame (.ref e) env) Q E s:=by
 rcases hx with ⟨o,vs,he,hcd,hd,hsz,h1⟩ | ⟨fl,⟨o,vs,T,oT,ts,he,hcd,hd,hsz,h1,hnT,hTe,hT,hdT,h3⟩,rfl | rfl⟩
 ·unfold noteFrame
  simp only [hf]
  refine wpAny_bind (wpAny_field he hd h1 ?_)
  rw [if_neg (show ¬ ((Value.none != Value.none)=true) by simp)]
  exact ZhF hfr hl hf he hkb hen hd hsz hcd h
 ·unfold noteFrame
  simp only [hf]
  refine wpAny_bind (wpAny_field he hd h1 ?_)
  rw [if_pos (show (Value.ref T != Value.none)=true from by simp)]
  refine wpAny_bind (wpAny_field hT hdT h3 ?_)
  rw [if_neg (show ¬ ((Value.none == rawInt L)=true) from by simp [rawInt])]
  refine wpAny_bind (wpAny_setField hT hdT (Array.getElem?_eq_some_iff.mp h3).1 ?_)
  have other:∀ b,b≠T→(s.heap.update T (Obj.mapFields (·.setIfInBounds 3 Value.none))).get? b=s.heap.get? b:=fun b hb=>Heap.get?_update_other _ _ (Ne.symm hb)
  have noRecord:∀ b o,s.heap.get? b=some o→(∀ vs,o.data≠.fields vs)→b≠T:=fun b o hb hnf q=>by
   rw [q,hT] at hb; cases hb; exact hnf ts hdT
  refine ZhF hfr (hl.of_keeps fun b o hb hnf=>⟨o,(other b (noRecord b o hb hnf)).trans hb,rfl⟩) hf ((other e (Ne.symm hTe)).trans he) (fun b o hbo=>(other b (Zbf hbo hnT)).trans (hkb b o hbo)) hen hd hsz hcd fun h' z f=>h h' ⟨z.stays,z.funs,fun b o hb hnf=>z.up b o ((other b (noRecord b o hb hnf)).trans hb) hnf,fun b o hb=>?_⟩ f
  by_cases q:b=T
  ·rw [q]; exact z.alive T _ (Heap.get?_update_self _ hT (Obj.isFreed_of_fields (Obj.data_mapFields hdT _)))
  ·exact z.alive b o ((other b q).trans hb)
 ·unfold noteFrame
  simp only [hf]
  refine wpAny_bind (wpAny_field he hd h1 ?_)
  rw [if_pos (show (Value.ref T != Value.none)=true from by simp)]
  refine wpAny_bind (wpAny_field hT hdT h3 ?_)
  rw [if_pos (show (rawInt L == rawInt L)=true from by simp)]
  exact wpAny_pure (h s.heap ⟨hkb,hl,Heap.UpToSlots.refl _,fun b o hb=>⟨o,hb⟩⟩ ⟨o,vs,T,oT,ts,he,hcd,hd,hsz,h1,hnT,hTe,hT,hdT,h3⟩)
theorem ZcY {fe:List Env} {fr:Option Addr} {fl:Value} (hl:s.heap.FunFrames B fe) (hkb:B.StaysIn s.heap) (hx:Fly B s.heap e D fl)
  (h:∀ h',Stn B fe s.heap h'→Fly B h' e D (fr.elim .none fun f=>rawInt f)→Q () { s with heap:=h' }):wpAny M A (setFlight (.ref e) fr) Q E s:=by
 obtain ⟨o,vs,T,oT,ts,he,hc,hd,hsz,h1,hnT,hTe,hT,hdT,h3⟩:=hx
 have hsz3:3<ts.size:=(Array.getElem?_eq_some_iff.mp h3).1
 have other:∀ b,b≠T→(s.heap.update T (Obj.mapFields (·.setIfInBounds 3 (fr.elim Value.none fun f=>rawInt f)))).get? b=s.heap.get? b:=fun b hb=>Heap.get?_update_other _ _ (Ne.symm hb)
 have noRecord:∀ b o,s.heap.get? b=some o→(∀ vs,o.data≠.fields vs)→b≠T:=fun b o hb hnf q=>by
  rw [q,hT] at hb; cases hb; exact hnf ts hdT
 unfold setFlight
 refine wpAny_bind (wpAny_field he hd h1 ?_)
 rw [if_pos (show (Value.ref T != Value.none)=true from by simp)]
 refine wpAny_setField hT hdT hsz3 (h _ ⟨fun b o hbo=>(other b (Zbf hbo hnT)).trans (hkb b o hbo),hl.of_keeps fun b o hb hnf=>⟨o,(other b (noRecord b o hb hnf)).trans hb,rfl⟩,fun b o hb hnf=>⟨o.slots,(other b (noRecord b o hb hnf)).trans hb⟩,fun b o hb=>?_⟩ ?_)
 ·by_cases q:b=T
  ·rw [q]; exact ⟨_,Heap.get?_update_self _ hT (Obj.isFreed_of_fields (Obj.data_mapFields hdT _))⟩
  ·exact ⟨o,(other b q).trans hb⟩
 exact ⟨o,vs,T,_,_,(other e (Ne.symm hTe)).trans he,hc,hd,hsz,h1,hnT,hTe,Heap.get?_update_self _ hT (Obj.isFreed_of_fields (Obj.data_mapFields hdT _)),Obj.data_mapFields hdT _,by simp [hsz3]⟩
theorem ZgH {fe:List Env} {fl:Value} {P:Value→Shared→Prop} (hl:s.heap.FunFrames B fe) (hkb:B.StaysIn s.heap) (hf:env.frame=some L) (hx:Fly B s.heap e D fl)
  (h:∀ h',Stn B fe s.heap h'→Fly B h' e D (rawInt L)→P (.ref e) { s with heap:=h' }):cameBackBy M A env P (.ref e) s:=by
 refine x5_6 (id hx) fun o vs T oT ts he hc hd hsz h1 r=>?_
 unfold cameBackBy
 refine wpAny_bind (wpAny_field he hd h1 ?_)
 rw [if_neg (show ¬ ((Value.ref T == Value.none)=true) from Bool.false_ne_true)]
 refine ZcY (fr:=env.frame) hl hkb hx fun h' z f=>?_
 rw [hf] at f
 exact h h' z f
end
section
variable {C:Cx} {env:Env} {ns:List (Option Str)} {ρ:RE} {W:Addr→Prop} {s s':Shared} {M M':Mp} {H H':AH} {e:Addr} {c:Nat} {B h':Heap}
theorem Exn.kp (x:Exn C W s M e c s' M' H' B) (L:Live C s.heap M) (hw:VarsOnly s.heap W):Kp (C.wd s.heap M) (C.wd B M') :=
 ⟨fun b o e n hh=>⟨x.keepB b o e (fun q=>absurd (.inl q) n) (fun q=>hw b o q e hh) (L.offFs e hh.nd),fun q=>q.elim (x.step.not e fun q=>n (.inl q)) fun q=>n (.inr q)⟩,x.pre,rfl⟩
theorem St.exn (st:St C env ns ρ s M H) (x:Exn C noW s M e c s' M' H' B):EnvB C env ns ρ s'.heap B M':=by
 refine x2_1 (st.env) fun m cm E=>?_
 refine x1_2 (id x.flt) fun D _ fl=>?_
 refine ⟨m,cm,E.keep rfl (fun _ q=>q) (fun o ho=>?_) (fun n c o e ho=>fl.stays _ _ (x.keepB _ _ ho (fun q=>absurd q (E.off c (.inr ⟨n,e⟩)).1) (fun q=>q) (E.offFs e))) (x.kp st.live Zap) fun a o _ ho n=>x.step.not ho n⟩
 by_cases f:env.locals∈C.fs
 ·exact x.slots _ o ho f (fun q=>q)
 ·exact ⟨o.slots,fl.stays _ _ (x.keepB _ _ ho (fun q=>absurd q (E.off _ (.inl rfl)).1) (fun q=>q) f)⟩
theorem Exn.stn {D:Addr} {fl:Value} (x:Exn C W s M e c s' M' H' B) (hX:C.S.X c=some D) (hn:B.get? e=none) (hs:s'.heap.FunFrames B C.fe) (z:Stn B C.fe s'.heap h') (f:Fly B h' e D fl) (hfl:fl=.none∨∃ L,C.fe.head?.bind (·.frame)=some L∧fl=rawInt L):Exn C W s M e c { s' with heap:=h' } M' H' B :=
 { x with
  flt:=⟨D,hX,z.stays,hn,z.funs,.inr ⟨fl,f,hfl⟩⟩
  slots:=fun b o e fb m=>by
   obtain ⟨sl,h1⟩:=x.slots b o e fb m
   obtain ⟨_,o',ho',nf⟩:=hs.mem fb
   rw [h1] at ho'; cases ho'
   obtain ⟨sl',h2⟩:=z.up b _ h1 nf
   exact ⟨sl',h2⟩
  alive:=fun b o e=>by
   obtain ⟨o',e'⟩:=x.alive b o e
   exact z.alive b o' e' }
theorem EnvB.stn {fe:List Env} {h:Heap} (E:EnvB C env ns ρ h B M) (z:Stn B fe h h'):EnvB C env ns ρ h' B M:=by
 refine x2_1 (E) fun m cm E=>?_
 refine ⟨m,cm,E.fn,E.glob,E.bns,?_,E.off,E.inj,E.len,E.has,fun n c hc=>?_,E.apart,E.var⟩
 ·refine x3_3 (E.loc) fun o es ep ho hd r=>?_
  obtain ⟨sl,h1⟩:=z.up _ o ho (fun vs q=>by rw [hd] at q; cases q)
  exact ⟨_,es,ep,h1,hd,r⟩
 ·obtain ⟨⟨o,ho,hd⟩,r⟩:=E.cell n c hc
  obtain ⟨sl,h1⟩:=z.up _ o ho (fun vs q=>by rw [hd] at q; cases q)
  exact ⟨⟨_,h1,hd⟩,r⟩
def PostN (C:Cx) (env:Env) (ns:List (Option Str)) (s:Shared) (M:Mp) (ρ':RE) (H':AH) (s':Shared):Prop:=∃ M',Step C (OwnW env) s M s' M'∧St C env ns ρ' s' M' H'
def PostR (C:Cx) (env:Env) (ns:List (Option Str)) (s:Shared) (M:Mp) (a:AV) (H':AH) (fl:Flow) (s':Shared):Prop:=∃ v ρ' M',fl=.ret v∧Step C (OwnW env) s M s' M'∧St C env ns ρ' s' M' H'∧VRel (C.wd s'.heap M') v a
def PostSX (C:Cx) (env:Env) (ns:List (Option Str)) (s:Shared) (M:Mp) (c:Nat) (ρ':RE) (H':AH) (ev:Value) (s':Shared):Prop :=
 ∃ e M' B,ev=.ref e∧Exn C (OwnW env) s M e c s' M' H' B∧EnvB C env ns ρ' s'.heap B M'
noncomputable def EvS (C:Cx) (env:Env) (ns:List (Option Str)) (t:Sem Flow) (s:Shared) (M:Mp):OutS→Prop
 | .next ρ' H'=>wpAny C.S.M C.A t (fun fl s'=>fl=.next∧PostN C env ns s M ρ' H' s') no1 s
 | .ret a H'=>wpAny C.S.M C.A t (PostR C env ns s M a H') no1 s
 | .exc c ρ' H'=>wpAny C.S.M C.A t no1 (PostSX C env ns s M c ρ' H') s
 | .bad=>True
theorem PostN.back {s₁:Shared} {M₁:Mp} {ρ':RE} (x:Step C (OwnW env) s M s₁ M₁) (p:PostN C env ns s₁ M₁ ρ' H' s'):PostN C env ns s M ρ' H' s':=let ⟨M',a,b⟩:=p; ⟨M',x.trans a,b⟩
theorem PostR.back {s₁:Shared} {M₁:Mp} {a:AV} {fl:Flow} (x:Step C (OwnW env) s M s₁ M₁) (p:PostR C env ns s₁ M₁ a H' fl s'):PostR C env ns s M a H' fl s':=x3_3 p fun v ρ' M' e a b=>⟨v,ρ',M',e,x.trans a,b⟩
theorem PostSX.back {s₁:Shared} {M₁:Mp} {ρ':RE} {ev:Value} (x:Step C (OwnW env) s M s₁ M₁) (p:PostSX C env ns s₁ M₁ c ρ' H' ev s'):PostSX C env ns s M c ρ' H' ev s':=x3_3 p fun e M' B a b d=>⟨e,M',B,a,b.after x fun _ q=>q,d⟩
theorem EvS.at {t t':Sem Flow} {s₁:Shared} {M₁:Mp} {o:OutS} (h:EvS C env ns t s₁ M₁ o) (x:Step C (OwnW env) s M s₁ M₁) (e:∀ {P:Flow→Shared→Prop} {E:Value→Shared→Prop},wpAny C.S.M C.A t P E s₁→wpAny C.S.M C.A t' P E s):EvS C env ns t' s M o:=by
 cases o with
 | bad=>trivial
 | next ρ' H'=>exact e (wpAny_mono h (fun _ _ p=>⟨p.1,p.2.back x⟩) fun _ _ p=>p)
 | ret a H'=>exact e (wpAny_mono h (fun _ _ p=>p.back x) fun _ _ p=>p)
 | exc c ρ' H'=>exact e (wpAny_mono h (fun _ _ p=>p) fun _ _ p=>p.back x)
theorem PostX.toS (st:St C env ns ρ s M H) {ev:Value} (p:PostX C s M c H' ev s'):PostSX C env ns s M c ρ H' ev s':=by
 refine x3_2 (p) fun e M' B a x=>?_; try clear p
 exact ⟨e,M',B,a,x.wider (fun _ z=>z.elim),st.exn x⟩
noncomputable def EvP (C:Cx) (env:Env) (ns:List (Option Str)) (s:Shared) (M:Mp) (K:(Flow→Shared→Prop)→(Value→Shared→Prop)→Prop):OutS→Prop
 | .next ρ' H'=>K (fun fl s'=>fl=.next∧PostN C env ns s M ρ' H' s') no1
 | .ret a H'=>K (PostR C env ns s M a H') no1
 | .exc c ρ' H'=>K no1 (PostSX C env ns s M c ρ' H')
 | .bad=>True
theorem EvS.of {t:Sem Flow} {o:OutS} {K:(Flow→Shared→Prop)→(Value→Shared→Prop)→Prop} (h:EvP C env ns s M K o) (e:∀ {P:Flow→Shared→Prop} {E:Value→Shared→Prop},K P E→wpAny C.S.M C.A t P E s):EvS C env ns t s M o:=by
 cases o with
 | bad=>trivial
 | next ρ' H'=>exact e h
 | ret a H'=>exact e h
 | exc c ρ' H'=>exact e h
theorem EvP.ofS {t:Sem Flow} {o:OutS} {K:(Flow→Shared→Prop)→(Value→Shared→Prop)→Prop} (h:EvS C env ns t s M o) (e:∀ {P:Flow→Shared→Prop} {E:Value→Shared→Prop},wpAny C.S.M C.A t P E s→K P E):EvP C env ns s M K o:=by
 cases o with
 | bad=>trivial
 | next ρ' H'=>exact e h
 | ret a H'=>exact e h
 | exc c ρ' H'=>exact e h
theorem EvP.expr {α β:Type} {R:RelT α β} {t:Sem α} {o:Out β} {f:β→AH→OutS} (st:St C env ns ρ s M H) (h:Ev R C t s M o) (K:α→Shared→(Flow→Shared→Prop)→(Value→Shared→Prop)→Prop)
  (hm:∀ {x s₁} {P P':Flow→Shared→Prop} {E E':Value→Shared→Prop},K x s₁ P E→(∀ f s,P f s→P' f s)→(∀ v s,E v s→E' v s)→K x s₁ P' E')
  (hk:∀ y H₁ x s₁ M₁,o=.ok y H₁→Step C noW s M s₁ M₁→St C env ns ρ s₁ M₁ H₁→R (C.wd s₁.heap M₁) x y→EvP C env ns s₁ M₁ (K x s₁) (f y H₁)):EvP C env ns s M (fun P E=>wpAny C.S.M C.A t (fun x s₁=>K x s₁ P E) E s) (o.inS ρ f):=by
 cases o with
 | bad=>trivial
 | exc c H'=>exact wpAny_mono h (fun _ _ q=>q.elim) fun _ _ p=>PostX.toS st p
 | ok y H₁ =>
  show EvP C env ns s M _ (f y H₁)
  have hk':=fun x s₁ M₁ a b c=>hk y H₁ x s₁ M₁ rfl a b c
  generalize f y H₁=o' at hk'
  cases o' with
  | bad=>trivial
  | next ρ' H'=>exact wpAny_mono h (fun x s₁ z_13=>x1_3 z_13 fun M₁ x1 rp r=>hm (hk' x s₁ M₁ x1 (st.step x1 rp) r) (fun _ _ p=>⟨p.1,p.2.back x1.ofNo⟩) fun _ _ p=>p.elim) fun _ _ q=>q.elim
  | ret a H'=>exact wpAny_mono h (fun x s₁ z_14=>x1_3 z_14 fun M₁ x1 rp r=>hm (hk' x s₁ M₁ x1 (st.step x1 rp) r) (fun _ _ p=>p.back x1.ofNo) fun _ _ p=>p.elim) fun _ _ q=>q.elim
  | exc c ρ' H'=>exact wpAny_mono h (fun x s₁ z_15=>x1_3 z_15 fun M₁ x1 rp r=>hm (hk' x s₁ M₁ x1 (st.step x1 rp) r) (fun _ _ p=>p.elim) fun _ _ p=>p.back x1.ofNo) fun _ _ q=>q.elim
theorem EvS.bind {α β:Type} {R:RelT α β} {t:Sem α} {k:α→Sem Flow} {o:Out β} {f:β→AH→OutS} (st:St C env ns ρ s M H) (h:Ev R C t s M o)
  (hk:∀ y H₁ x s₁ M₁,o=.ok y H₁→Step C noW s M s₁ M₁→St C env ns ρ s₁ M₁ H₁→R (C.wd s₁.heap M₁) x y→EvS C env ns (k x) s₁ M₁ (f y H₁)):EvS C env ns (t >>= k) s M (o.inS ρ f) :=
 EvS.of (EvP.expr st h (fun x s₁ P E=>wpAny C.S.M C.A (k x) P E s₁) (fun z a b=>wpAny_mono z a b) fun y H₁ x s₁ M₁ e a b c=>(EvP.ofS (hk y H₁ x s₁ M₁ e a b c) fun z=>z)) fun z=>wpAny_bind z
theorem EvP.orBad {ε:Type} {K:(Flow→Shared→Prop)→(Value→Shared→Prop)→Prop} {x:Option ε} {f:ε→OutS} (h:∀ y,x=some y→EvP C env ns s M K (f y)):EvP C env ns s M K (orBadS x f):=by
 cases x with
 | none=>trivial
 | some y=>exact h y rfl
theorem EvS.map {t t':Sem Flow} {o:OutS} (h:EvS C env ns t s M o) (e:∀ {P:Flow→Shared→Prop} {E:Value→Shared→Prop},wpAny C.S.M C.A t P E s→wpAny C.S.M C.A t' P E s):EvS C env ns t' s M o:=h.at (Step.refl ..) e
theorem EvS.stand {t:Sem Flow} {pos:Pos} {o:OutS} (h:EvS C env ns t s M o):EvS C env ns (standAt pos >>= fun _=>t) s M o:=h.map fun z=>wpAny_bind (wpAny_standAt z)
theorem EvS.orBad {ε:Type} {t:Sem Flow} {x:Option ε} {f:ε→OutS} (h:∀ y,x=some y→EvS C env ns t s M (f y)):EvS C env ns t s M (orBadS x f):=by
 cases x with
 | none=>trivial
 | some y=>exact h y rfl
theorem EvS.nextHere (st:St C env ns ρ s M H):EvS C env ns (pure .next) s M (.next ρ H):=wpAny_pure ⟨rfl,M,Step.refl ..,st⟩
end
def SndS (C:Cx) (env:Env) (ns:List (Option Str)) (f:DS) (t:Stmt):Prop :=
 ∀ {ρ:RE} {s:Shared} {M:Mp} {H:AH},St C env ns ρ s M H→EvS C env ns (exec t env) s M (f ρ H)
def SndB (C:Cx) (env:Env) (ns:List (Option Str)) (f:DS) (ts:List Stmt):Prop :=
 ∀ {ρ:RE} {s:Shared} {M:Mp} {H:AH},St C env ns ρ s M H→EvS C env ns (execs ts env) s M (f ρ H)
def TgOK (env:Env) (ns:List (Option Str)) (x:Str) (i:Nat):Prop:=ns[i]?=some (some x)∧(env.kindOf x=some .local∨env.kindOf x=some .cell)
inductive TgAt (env:Env) (ns:List (Option Str)):Tg→Expr→Prop
 | one {x:Str} {i:Nat} {p:Pos}:TgOK env ns x i→TgAt env ns (.one i) (.Name x p)
 | many {xs:List (Str×Nat×Pos)} {k:Nat} {p:Pos}:(∀ y∈xs,TgOK env ns y.1 y.2.1)→TgAt env ns (.many (xs.map (·.2.1))) (.Tuple (xs.map fun y=>.Name y.1 y.2.2) k p)
noncomputable def notComp:Expr→Bool
 | .ListComp ..=>false
 | .SetComp ..=>false
 | .DictComp ..=>false
 | _=>true
theorem ZfF {e:Expr} {t:Option Expr} {l:Nat} {env:Env} (h:notComp e=true):swapsWith e t l env=pure false:=by
 cases e<;>first | rfl | exact Zco h
section
variable {C:Cx} {env:Env} {ns:List (Option Str)} {ρ:RE} {s s':Shared} {M M':Mp} {H H':AH}
theorem ZdX {P:Unit→Shared→Prop} {E:Value→Shared→Prop}:∀ (xs:List (Str×Nat×Pos)) (vs:List Value) (as:List AV) {ρ ρ':RE} {s:Shared},(∀ y∈xs,TgOK env ns y.1 y.2.1)→St C env ns ρ s M H→VRels (C.wd s.heap M) vs as→bindMany (xs.map (·.2.1)) as ρ=some ρ' →
  (∀ s',Step C (OwnW env) s M s' M→St C env ns ρ' s' M H→P () s')→wpAny C.S.M C.A (assignInOrder ((assignEach (xs.map fun y=>.Name y.1 y.2.2) env).map (·.2)) vs) P E s
 | [],[],as,ρ,ρ',s,hx,st,r,hb,h=>by
  have:as=[]:=List.eq_nil_of_length_eq_zero r.1.symm
  subst this
  cases hb
  exact wpAny_pure (h s (Step.refl ..) st)
 | [],_::_,as,ρ,ρ',s,hx,st,r,hb,h=>by
  cases as with
  | nil=>cases r.1
  | cons _ _=>cases hb
 | _::_,[],as,ρ,ρ',s,hx,st,r,hb,h=>by
  cases as with
  | nil=>cases hb
  | cons _ _=>cases r.1
 | y::xs,v::vs,as,ρ,ρ',s,hx,st,r,hb,h=>by
  cases as with
  | nil=>cases r.1
  | cons a as =>
   obtain ⟨r1,r2⟩:=r.un
   show wpAny C.S.M C.A (holding vs (assign (.Name y.1 y.2.2) env v) >>= fun _=>assignInOrder ((assignEach (xs.map fun y=>.Name y.1 y.2.2) env).map (·.2)) vs) P E s
   have t:=hx y (.head _)
   refine wpAny_bind (wpAny_holding (wpAny_assign_Name (ZdU st t.1 t.2 r1 fun s₁ x1 st1=>?_)))
   refine x2_1 (st.env) fun m cm En=>?_
   exact ZdX xs vs as (fun z hz=>hx z (.tail _ hz)) st1 (r2.keep (x1.kp st.live En.vars)) hb fun s' x2 st'=>h s' (x1.trans x2) st'
theorem ZfL {t:Tg} {e:Expr} {v:Value} {a:AV} {ρ':RE} {P:Unit→Shared→Prop} {E:Value→Shared→Prop} (T:TgAt env ns t e) (st:St C env ns ρ s M H) (r:VRel (C.wd s.heap M) v a) (hb:bindT C.hot t a ρ=some ρ') (h:∀ s',Step C (OwnW env) s M s' M→St C env ns ρ' s' M H→P () s'):wpAny C.S.M C.A (assign e env v) P E s:=by
 cases T with
 | one T=>cases hb; exact wpAny_assign_Name (ZdU st T.1 T.2 r h)
 | many T =>
  rename_i xs k p
  replace hb:(if C.hot=true then none else match a with | .tup ys=>bindMany (xs.map (·.2.1)) ys ρ | _=>none)=some ρ':=hb
  split at hb<;>first | exact Zad hb | skip
  rename_i hot
  cases a<;>first | exact Zad hb | skip
  rename_i as
  have hh:=st.live.handled (by simpa using hot)
  refine x3_4 (r.inv) fun x vs n e3' ho nf rs=>?_; subst e3'
  have hlen:(assignEach (xs.map fun y=>Expr.Name y.1 y.2.2) env).length=xs.length∧(assignEach (xs.map fun y=>Expr.Name y.1 y.2.2) env).findIdx? (·.1)=none:=by
   clear T hb
   induction xs with
   | nil=>exact ⟨rfl,rfl⟩
   | cons y xs ih =>
    refine ⟨congrArg (·+1) ih.1,?_⟩
    show List.findIdx? _ ((false,assign (.Name y.1 y.2.2) env)::assignEach (xs.map fun y=>Expr.Name y.1 y.2.2) env)=none
    rw [List.findIdx?_cons,ih.2]; rfl
  have hl2:∀ (is:List Nat) (bs:List AV) (ρ ρ':RE),bindMany is bs ρ=some ρ'→is.length=bs.length:=by
   intro is
   induction is with
   | nil=>intro bs ρ ρ' e; cases bs with
    | nil=>rfl
    | cons _ _=>cases e
   | cons i is ih=>intro bs ρ ρ' e; cases bs with
    | nil=>cases e
    | cons b bs=>exact congrArg (·+1) (ih bs _ _ e)
  have hsz:vs.size=xs.length:=by rw [rs.size,← hl2 _ _ _ _ hb,qLm]
  refine wpAny_assign_Tuple hh ⟨_,ho,rfl,_,rfl⟩ (by rw [hlen.1,hsz]) hlen.2 fun h' hx=>?_
  have h0:=Zaq s.heap
  have kx:∀ b o,s.heap.get? b=some o→h'.get? b=some o:=fun b o e=>hx b o (Zbf e h0) e
  have st1:St C env ns ρ { s with heap:=h' } M H:=st.step (Step.ext (t:=s.toks) kx) (st.rep.ext kx)
  exact ZdX xs vs.toList as T st1 (rs.keep (ZdB kx)) hb fun s' x st'=>h s' ((Step.ext (t:=s.toks) kx).ofNo.trans x) st'
theorem Zjn {t:Tg} {e:Expr} {v:Value} {a:AV} (T:TgAt env ns t e) (st:St C env ns ρ s M H) (r:VRel (C.wd s.heap M) v a):EvP C env ns s M (fun P E=>wpAny C.S.M C.A (assign e env v) (fun _ s₂=>P .next s₂) E s) (orBadS (bindT C.hot t a ρ) fun ρ₁=>.next ρ₁ H):=by
 cases q:bindT C.hot t a ρ with
 | none=>trivial
 | some ρ'=>exact ZfL T st r q fun s' x st'=>⟨rfl,M,x,st'⟩
theorem ZcJ {t:Tg} {e:DE} {e' te:Expr} {p:Pos} (h:Snd C env ns e e') (T:TgAt env ns t te) (hs:swapsWith e' (some te) p.line env=pure false) (hw:swappedStores [te] e' env=pure none):SndS C env ns (assignS C.hot t e) (.Assign [te] e' p):=fun {ρ s M H} st=>by
 cases T with
 | one T =>
  rename_i x i px
  exact EvS.of (EvP.expr st (h st) (fun v s₁ P E=>wpAny C.S.M C.A (storeName env x v) (fun _ s₂=>P .next s₂) E s₁) (fun z a b=>wpAny_mono z (fun _ _=>a _ _) b) fun y H₁ v s₁ M₁ e x1 st1 r=>ZdU st1 T.1 T.2 r fun s' x2 st'=>⟨rfl,M₁,x2,st'⟩) fun z=>wpAny_Assign_Name z hs
 | many T=>exact EvS.of (EvP.expr st (h st) (fun v s₁ P E=>wpAny C.S.M C.A (assign _ env v) (fun _ s₂=>P .next s₂) E s₁) (fun z a b=>wpAny_mono z (fun _ _=>a _ _) b) fun y H₁ v s₁ M₁ e x1 st1 r=>Zjn (.many T) st1 r) fun z=>Assign_Tuple z hs hw
theorem Zl2 {e:DE} {e':Expr} {p:Pos} (h:Snd C env ns e e'):SndS C env ns (retS e) (.Return (some e') p):=fun {ρ s M H} st=>by
 show EvS C env ns (standAt p >>= fun _=>eval e' env >>= fun x=>pure (.ret x)) s M _
 exact EvS.stand (EvS.bind st (h st) fun a H₁ v s₁ M₁ e x1 st1 ra=>wpAny_pure ⟨v,ρ,M₁,rfl,Step.refl ..,st1,ra⟩)
theorem ZkB {p:Pos}:SndS C env ns (retS (cstE .none)) (.Return none p):=fun {ρ s M H} st=>by
 show EvS C env ns (standAt p >>= fun _=>pure (.ret .none)) s M (.ret .none H)
 exact EvS.stand (wpAny_pure ⟨.none,ρ,M,rfl,Step.refl ..,st,.none⟩)
theorem ZkA {p:Pos}:SndS C env ns passS (.Pass p):=fun {ρ s M H} st=>by
 show EvS C env ns (standAt p >>= fun _=>pure .next) s M (.next ρ H)
 exact EvS.stand (EvS.nextHere st)
theorem ZnX {α:Type} (f:DE) (ρ:RE) (H:AH) (g:Bool→AH→OutS):((f ρ H).inS ρ fun a H₁=>match a with | .bool c=>g c H₁ | _=>.bad)=(tst f ρ H).inS ρ g:=by
 unfold tst
 cases f ρ H with
 | bad=>rfl
 | exc c H'=>rfl
 | ok a H₁=>cases a<;>rfl
theorem ZnF {t:DE} {t':Expr} {b o:DS} {b' o':List Stmt} {p:Pos} (h:SndT C env ns t t') (hb:SndB C env ns b b') (ho:SndB C env ns o o'):SndS C env ns (ifS t b o) (.If t' b' o' p):=fun {ρ s M H} st=>by
 show EvS C env ns (standAt p >>= fun _=>isTrue t' env (eval t' env) >>= fun c=>if c=true then execs b' env else execs o' env) s M ((t ρ H).inS ρ fun a H₁=>match a with | .bool c=>if c then b ρ H₁ else o ρ H₁ | _=>.bad)
 rw [ZnX (α:=Unit) t ρ H fun c H₁=>if c then b ρ H₁ else o ρ H₁]
 refine EvS.stand (EvS.bind st (h st) fun c H₁ v s₁ M₁ e x1 st1 rc=>?_)
 cases rc
 cases c
 ·exact ho st1
 ·exact hb st1
theorem Zkz {e:DE} {e':Expr} {p:Pos} (h:Snd C env ns e e') (hc:notComp e'=true):SndS C env ns (exprS e) (.Expr e' p):=fun {ρ s M H} st=>by
 refine x2_1 (st.env) fun m cm En=>?_
 have hi:interactive env=false:=by unfold interactive; rw [En.fn]; rfl
 exact EvS.of (EvP.expr st (h st) (fun _ s₁ P E=>P .next s₁) (fun z a b=>a _ _ z) fun y H₁ v s₁ M₁ e x1 st1 r=>⟨rfl,M₁,Step.refl ..,st1⟩) fun z=>wpAny_Expr_any z hi (ZfF hc)
theorem ZlZ:SndB C env ns (seqS []) []:=fun st=>EvS.nextHere st
theorem EvS.seq {t:Sem Flow} {k:Flow→Sem Flow} {o:OutS} {f:DS} (h:EvS C env ns t s M o) (hk:∀ ρ₁ H₁ s₁ M₁,o=.next ρ₁ H₁→St C env ns ρ₁ s₁ M₁ H₁→EvS C env ns (k .next) s₁ M₁ (f ρ₁ H₁)) (hr:∀ v,k (.ret v)=pure (.ret v)):EvS C env ns (t >>= k) s M (o.then f):=by
 cases o with
 | bad=>trivial
 | ret a H'=>exact wpAny_bind (wpAny_mono h (fun fl s₁ z_1=>x3_2 z_1 fun v ρ' M' e z=>by subst e; rw [hr]; exact wpAny_pure ⟨v,ρ',M',rfl,z⟩) fun _ _ p=>p)
 | exc c ρ' H'=>exact wpAny_bind (wpAny_mono h (fun _ _ p=>p.elim) fun _ _ p=>p)
 | next ρ₁ H₁ =>
  show EvS C env ns (t >>= k) s M (f ρ₁ H₁)
  have hk':=fun s₁ M₁ st=>hk ρ₁ H₁ s₁ M₁ rfl st
  generalize f ρ₁ H₁=o' at hk'
  cases o' with
  | bad=>trivial
  | next ρ' H'=>exact wpAny_bind (wpAny_mono h (fun fl s₁ y_1=>y1_2 y_1 fun e M₁ x1 st1=>by subst e; exact wpAny_mono (hk' s₁ M₁ st1) (fun _ _ p=>⟨p.1,p.2.back x1⟩) fun _ _ p=>p) fun _ _ p=>p.elim)
  | ret a H'=>exact wpAny_bind (wpAny_mono h (fun fl s₁ y_2=>y1_2 y_2 fun e M₁ x1 st1=>by subst e; exact wpAny_mono (hk' s₁ M₁ st1) (fun _ _ p=>p.back x1) fun _ _ p=>p) fun _ _ p=>p.elim)
  | exc c ρ' H'=>exact wpAny_bind (wpAny_mono h (fun fl s₁ y_3=>y1_2 y_3 fun e M₁ x1 st1=>by subst e; exact wpAny_mono (hk' s₁ M₁ st1) (fun _ _ p=>p) fun _ _ p=>p.back x1) fun _ _ p=>p.elim)
set_option backward.match.sparseCases true in
theorem Zb7 {f:Stmt→DS} (h:∀ t,SndS C env ns (f t) t):∀ ts:List Stmt,SndB C env ns (seqS (ts.map f)) ts
 | []=>ZlZ
 | t::ts=>by
  intro st
  rename_i ρ s M H
  show EvS C env ns (exec t env >>= fun f=>match f with | .next=>execs ts env | f=>pure f) s M ((f t ρ H).then (seqS (ts.map f)))
  exact EvS.seq (h t st) (fun ρ₁ H₁ s₁ M₁ _ st1=>Zb7 h ts st1) fun v=>rfl
theorem Zgr {o i e:DE} {o' i' e':Expr} {p p':Pos} (ho:Snd C env ns o o') (hi:Snd C env ns i i') (he:Snd C env ns e e'):SndS C env ns (setItemS o i e) (.Assign [.Subscript o' i' p'] e' p):=fun {ρ s M H} st=>by
 refine EvS.of (EvP.expr st (he st) (fun v s₁ P E=>wpAny C.S.M C.A (eval o' env) (fun ov s₂=>wpAny C.S.M C.A (eval i' env) (fun iv s₃=>wpAny C.S.M C.A (setItem ov iv v) (fun _=>P .next) E s₃) E s₂) E s₁) (fun z a b=>wpAny_mono z (fun _ _ z=>wpAny_mono z (fun _ _ z=>wpAny_mono z (fun _=>a _) b) b) b) fun y H₁ v s₁ M₁ e1 x1 st1 rv=>?_) fun z=>wpAny_Assign_Subscript z (by cases e'<;>rfl)
 refine EvP.expr st1 (ho st1) (fun ov s₂ P E=>wpAny C.S.M C.A (eval i' env) (fun iv s₃=>wpAny C.S.M C.A (setItem ov iv v) (fun _=>P .next) E s₃) E s₂) (fun z a b=>wpAny_mono z (fun _ _ z=>wpAny_mono z (fun _=>a _) b) b) fun a H₂ ov s₂ M₂ e2 x2 st2 ra=>?_
 refine EvP.expr st2 (hi st2) (fun iv s₃ P E=>wpAny C.S.M C.A (setItem ov iv v) (fun _=>P .next) E s₃) (fun z a b=>wpAny_mono z (fun _=>a _) b) fun k H₃ iv s₃ M₃ e3 x3 st3 rk=>EvP.orBad fun H₄ e4=>?_
 exact wpAny_mono (ZdE st3.live st3.rep (ra.keep (x3.kp st2.live Zap)) rk ((rv.keep (x2.kp st1.live Zap)).keep (x3.kp st2.live Zap)) e4) (fun _ s₄ z_16=>x1_3 z_16 fun M₄ x4 rp4 _=>⟨rfl,M₄,x4.ofNo,st3.step x4 rp4⟩) fun _ _ q=>q.elim
theorem Zgq {G:Gm} (Y:Fit C.S G) {k:Nat} {o e:DE} {o' e':Expr} {x:Str} {p p':Pos} (hx:C.S.an[k]?=some x) (ho:Snd C env ns o o') (he:Snd C env ns e e'):SndS C env ns (setAttrS k o e) (.Assign [.Attribute o' x p'] e' p):=fun {ρ s M H} st=>by
 refine EvS.of (EvP.expr st (he st) (fun v s₁ P E=>wpAny C.S.M C.A (eval o' env) (fun ov s₂=>wpAny C.S.M C.A (setAttr ov x v) (fun _=>P .next) E s₂) E s₁) (fun z a b=>wpAny_mono z (fun _ _ z=>wpAny_mono z (fun _=>a _) b) b) fun y H₁ v s₁ M₁ e1 x1 st1 rv=>?_) fun z=>plainObj_wpAny_Assign_Attribute z (by cases e'<;>rfl)
 refine EvP.expr st1 (ho st1) (fun ov s₂ P E=>wpAny C.S.M C.A (setAttr ov x v) (fun _=>P .next) E s₂) (fun z a b=>wpAny_mono z (fun _=>a _) b) fun a H₂ ov s₂ M₂ e2 x2 st2 ra=>EvP.orBad fun i e3=>?_
 obtain ⟨n,c,fs⟩:=i
 show EvP C env ns s₂ M₂ _ (if k<fs.length then .next ρ (H₂.set n (.inst c (fs.set k (some y)))) else .bad)
 split
 ·rename_i hk
  exact wpAny_mono (Zgi Y st2.live st2.rep ra (rv.keep (x2.kp st1.live Zap)) e3 hx hk) (fun _ s₄ z_17=>x1_3 z_17 fun M₄ x4 rp4 _=>⟨rfl,M₄,x4.ofNo,st2.step x4 rp4⟩) fun _ _ q=>q.elim
 ·trivial
end
section
variable {C:Cx} {env:Env} {ns:List (Option Str)} {ρ:RE} {s s':Shared} {M M':Mp} {H H':AH}
noncomputable def okP (C:Cx) (env:Env) (ns:List (Option Str)) (s:Shared) (M:Mp):OutS→Flow→Shared→Prop
 | .next ρ' H'=>fun fl s'=>fl=.next∧PostN C env ns s M ρ' H' s'
 | .ret a H'=>PostR C env ns s M a H'
 | _=>no1
noncomputable def erP (C:Cx) (env:Env) (ns:List (Option Str)) (s:Shared) (M:Mp):OutS→Value→Shared→Prop
 | .exc c ρ' H'=>PostSX C env ns s M c ρ' H'
 | _=>no1
theorem ZgV {K:(Flow→Shared→Prop)→(Value→Shared→Prop)→Prop} {o:OutS}:(o≠.bad→K (okP C env ns s M o) (erP C env ns s M o))→EvP C env ns s M K o:=fun h=>by
 cases o with
 | bad=>trivial
 | _=>exact h (fun q=>nomatch q)
def HeadAt (C:Cx) (env:Env):Prop:=(∃ outer,C.fe=env::outer)∧∃ L,env.frame=some L
theorem Exn.noted {W:Addr→Prop} {A:Around} {e:Addr} {c:Nat} {B:Heap} {P:Unit→Shared→Prop} {E:Value→Shared→Prop} (hd:HeadAt C env) (hA:A.frames=some C.fe) (x:Exn C W s M e c s' M' H' B)
  (h:∀ h' D L,C.S.X c=some D→B.get? e=none→h'.FunFrames B C.fe→B.StaysIn h'→C.fe.head?.bind (·.frame)=some L→env.frame=some L→Stn B C.fe s'.heap h'→Fly B h' e D (rawInt L)→Exn C W s M e c { s' with heap:=h' } M' H' B→P () { s' with heap:=h' }):wpAny C.S.M A (noteFrame (.ref e) env) P E s':=by
 obtain ⟨⟨outer,ho⟩,L,hL⟩:=hd
 refine x1_2 (id x.flt) fun D hX hf=>?_
 have hh:C.fe.head?.bind (·.frame)=some L:=by rw [ho]; exact hL
 have st:Raw s'.heap e D∨∃ fl,Fly B s'.heap e D fl∧(fl=.none∨fl=rawInt L):=hf.st.imp id fun z_18=>x1_2 z_18 fun fl f q=>⟨fl,f,q.imp id fun z_19=>x1_2 z_19 fun L' h1 h2=>by rw [hh] at h1; cases h1; exact h2⟩
 refine Znm (outer:=outer) (hA.trans (by rw [ho])) (ho▸hf.funs) hL hf.stays hf.new st fun h' z f=>?_
 rw [← ho] at z
 exact h h' D L hX hf.new z.funs z.stays hh hL z f (x.stn hX hf.new hf.funs z f (.inr ⟨L,hh,rfl⟩))
theorem PostSX.noted {c:Nat} {ρ':RE} (hd:HeadAt C env) (hA:C.A.frames=some C.fe) {ev:Value} (p:PostSX C env ns s M c ρ' H' ev s'):notedBy C.S.M C.A env (cameBackBy C.S.M C.A env (PostSX C env ns s M c ρ' H')) ev s':=by
 refine x3_3 (p) fun e M' B e3' x b=>?_; try clear p; subst e3'
 refine x.noted hd hA fun h' D L hX hn hf hs hh hL z f x'=>?_
 refine ZgH hf hs hL f fun h'' z' f'=>?_
 exact ⟨e,M',B,rfl,x'.stn hX hn hf z' f' (.inr ⟨L,hh,rfl⟩),(b.stn z).stn z'⟩
theorem Exn.letGo {W:Addr→Prop} {e:Addr} {c:Nat} {B:Heap} {l:Option Nat} {M₀:Mp} {h₀:Heap} {H₀:AH} (x:Exn (C.held M₀ l) W s M e c s' M' H' B) (pre:∃ e,M'=M₀++e) (R₀:Rep C.S C.pv h₀ M₀ H₀) (hl:∀ n,l=some n→∃ es,H₀[n]?=some (.dict es)):Exn C W s M e c s' M' (freeH l H') B :=
 ⟨fun b o e n=>x.keepB b o e fun q=>List.mem_append.mpr (.inr (n q)),x.base,x.rep.letGo pre R₀ hl,x.flt,x.slots,x.alive,x.pre,x.grow,x.gens,x.os,x.fresh⟩
theorem EnvB.held {l:Option Nat} {M₀:Mp} {h B:Heap} (E:EnvB (C.held M₀ l) env ns ρ h B M):EnvB C env ns ρ h B M:=by
 refine x2_1 (E) fun m cm E=>?_
 exact ⟨m,cm,E.fn,E.glob,E.bns,E.loc,E.off,E.inj,E.len,E.has,E.cell,E.apart,E.var⟩
theorem St.letGo {l:Option Nat} {M₀:Mp} {h₀:Heap} {H₀:AH} (st:St (C.held M₀ l) env ns ρ s M H) (pre:∃ e,M=M₀++e) (R₀:Rep C.S C.pv h₀ M₀ H₀) (hl:∀ n,l=some n→∃ es,H₀[n]?=some (.dict es)):St C env ns ρ s M (freeH l H):=by
 obtain ⟨L,R,E⟩:=st
 exact ⟨⟨L.frames,L.funs,L.stays,L.off,L.new,L.handled,L.dicts,L.depth,L.units,fun a q=>L.priv a (q.imp id fun q=>List.mem_append.mpr (.inr q)),L.poff⟩,R.letGo pre R₀ hl,E.held⟩
theorem Step.held {W:Addr→Prop} {l:Option Nat} {M₀:Mp} (x:Step (C.held M₀ l) W s M s' M'):Step C W s M s' M':=x.pv fun a q=>List.mem_append.mpr (.inr q)
set_option smartUnfolding false in
theorem ZjT {P:Prop} {B:AV→DS} {src:Src} {n k:Nat} {o:OutS} (h:loopS B src n k ρ H=o) (ho:o≠.bad) (g0:itemAt H src k=some none→o=.next ρ H→P) (g1:∀ v m,itemAt H src k=some (some v)→n=m+1→(B v ρ H).then (loopS B src m (k+1))=o→P):P:=by
 cases n with
 | zero =>
  have h:(match itemAt H src k with | none=>OutS.bad | some none=>.next ρ H | some (some v)=>.bad)=o:=h
  cases q:itemAt H src k with
  | none=>rw [q] at h; exact absurd h.symm ho
  | some x =>
   rw [q] at h
   cases x with
   | none=>exact g0 q h.symm
   | some v=>exact absurd h.symm ho
 | succ m =>
  have h:(match itemAt H src k with | none=>OutS.bad | some none=>.next ρ H | some (some v)=>(B v ρ H).then (loopS B src m (k+1)))=o:=h
  cases q:itemAt H src k with
  | none=>rw [q] at h; exact absurd h.symm ho
  | some x =>
   rw [q] at h
   cases x with
   | none=>exact g0 q h.symm
   | some v=>exact g1 v m q rfl h
inductive ForInv (C:Cx) (env:Env) (ns:List (Option Str)) (l:Option Nat) (s₁:Shared) (M₁:Mp) (I:Addr) (src:Src) (t:Tg) (b:DS) (o:OutS) (m:Nat) (s':Shared):Prop
 | mk (ρ':RE) (M':Mp) (H':AH) (k:Nat) (h1:Step (C.held M₁ l) (OwnW env) s₁ M₁ s' M') (h2:St (C.held M₁ l) env ns ρ' s' M' H') (h3:Aside (C.held M₁ l) env s'.heap M' I) (h4:Itr (C.held M₁ l) env s'.heap M' I src k) (h5:loopS (fun v ρ H=>orBadS (bindT C.hot t v ρ) fun ρ₁=>b ρ₁ H) src m k ρ' H'=o):ForInv C env ns l s₁ M₁ I src t b o m s'
theorem Zl1 (hd:HeadAt C env) {t:Tg} {te:Expr} {it:DE} {it':Expr} {b:DS} {b':List Stmt} {p:Pos} (h:Snd C env ns it it') (T:TgAt env ns t te) (hb:∀ pv,SndB (C.withPv pv) env ns b b') (hf:notSet it'=true):SndS C env ns (forS C.hot t it b) (.For te it' b' [] p):=fun {ρ s M H} st=>by
 refine EvS.of (EvP.expr st (h st) (fun v s₁ P E=>wpAny C.S.M C.A (pyIter v) (fun it s₂=>codeAny C.S.M C.A (.forLoop te it b' [] env) (fun r s'=>match r with | .ok f=>P f s' | .error e=>cameBackBy C.S.M C.A env E e s') s₂) E s₁) (fun z a b=>wpAny_mono z (fun _ _ z=>codeAny_mono z fun r s' q=>by
  cases r with
  | ok f=>exact a _ _ q
  | error e=>exact wpAny_mono q (fun _ _ q=>b _ _ q) b) b) fun a H₁ v s₁ M₁ _ x1 st1 ra=>EvP.orBad fun sr hs=>?_) fun z=>wpAny_For z (Zjt hf)
 obtain ⟨src,n,l⟩:=sr
 show EvP C env ns s₁ M₁ _ (if C.hot=true then .bad else (loopS (fun v ρ H=>orBadS (bindT C.hot t v ρ) fun ρ₁=>b ρ₁ H) src n 0 ρ (lockH l H₁)).free l)
 split
 ·trivial
 rename_i hot
 have hh:=st1.live.handled (by simpa using hot)
 refine ZgV fun hne=>?_
 generalize ho:loopS (fun v ρ H=>orBadS (bindT C.hot t v ρ) fun ρ₁=>b ρ₁ H) src n 0 ρ (lockH l H₁)=o at hne
 have hne':o≠.bad:=fun q=>hne (by rw [q]; rfl)
 have hl:=Zh6 hs
 refine Zf6 st1 hh hs ra fun h0 hk0 stL ha hit=>?_
 have hI:=Zaq s₁.heap
 generalize s₁.heap.objs.size=I at ha hit hI
 have hIp:¬ (I∈(C.held M₁ l).pv.1∨I∈(C.held M₁ l).pv.2):=fun q=>by
  rcases q with q | q
  ·obtain ⟨o,ho⟩:=st1.live.priv I (.inl q); rw [hI] at ho; cases ho
  ·rcases qMp q with q | q
   ·cases l with
    | none=>cases q
    | some k =>
     simp only [lockOf] at q
     split at q
     ·rename_i p hp
      have q:=qMs q
      obtain ⟨o,ho⟩:=st1.rep.there (Zar hp).1
      rw [← q,hI] at ho; cases ho
     ·cases q
   ·obtain ⟨o,ho⟩:=st1.live.priv I (.inr q); rw [hI] at ho; cases ho
 refine codeAny_forLoop_any (ForInv C env ns l s₁ M₁ I src t b o) (fun m s' I'=>?_) n
  ⟨ρ,M₁,lockH l H₁,0,Step.ext (t:=s₁.toks) hk0,stL,ha,hit,ho⟩
 obtain ⟨ρ',M',H',k,y,st',ha',hi',w'⟩:=I'
 refine ZjT w' hne' (fun hr ez=>?_) fun bv m hr ez w1=>?_
 ·subst ez
  refine ZdO (C:=C.held M₁ l) st' hh ha' hi' hr (fun u a h' tk e=>nomatch e) fun h' tk _ kp=>?_
  have st2:=st'.but (tk:=tk) ha' kp fun q=>absurd q hIp
  exact wpAny_pure ⟨rfl,M',(y.but (tk:=tk) hI kp).held,st2.letGo y.pre st1.rep hl⟩
 subst ez
 refine ZdO (C:=C.held M₁ l) st' hh ha' hi' hr (fun u a h' tk e kp rv i2=>?_) fun h' tk e=>nomatch e
 cases e
 have st2:=st'.but (tk:=tk) ha' kp fun q=>absurd q hIp
 have y2:=y.but (tk:=tk) hI kp
 refine x1_2 (i2.is.not) fun oI eI nI=>?_
 have a2:Aside (C.held M₁ l) env h' M' I:=⟨⟨oI,eI,.inr nI⟩,ha'.foot,ha'.fs,ha'.own,ha'.base⟩
 have iI:=i2.is
 generalize hs2:({ s' with heap:=h',toks:=tk }:Shared)=t2 at st2 y2
 have e2:t2.heap=h':=by rw [← hs2]
 rw [← e2] at a2 i2 rv iI
 refine Zlz iI ?_
 cases hbt:bindT C.hot t bv ρ' with
 | none=>simp only [hbt,orBadS,OutS.then] at w1; exact absurd w1.symm hne'
 | some ρ₁ =>
 simp only [hbt,orBadS] at w1
 refine ZfL (C:=C.held M₁ l) T st2 rv hbt fun s3 y3 st3=>?_
 have hw2:VarsOnly t2.heap (OwnW env):=by obtain ⟨_,_,E⟩:=st2.env; exact E.vars
 have i3:=i2.after y3 a2 st2.live hw2
 have a3:=a2.step y3
 have B:=hb (C.held M₁ l).pv st3
 have bne:b ρ₁ H'≠.bad:=fun q=>by rw [q] at w1; exact hne' w1.symm
 have hw3:VarsOnly s3.heap (OwnW env):=by obtain ⟨_,_,E⟩:=st3.env; exact E.vars
 generalize b ρ₁ H'=ob at B w1 bne
 cases ob with
 | bad=>exact absurd rfl bne
 | next ρ₂ H₂ =>
  refine wpAny_mono B (fun fl s4 y_4=>y1_2 y_4 fun e M₄ y4 st4=>?_) fun _ _ q=>q.elim
  subst e
  exact ⟨m,Nat.lt_succ_self m,ρ₂,M₄,H₂,k+1,(y2.trans y3).trans y4,st4,a3.step y4,i3.after y4 a3 st3.live hw3,w1⟩
 | ret a H₂ =>
  have w1:OutS.ret a H₂=o:=w1
  subst w1
  refine wpAny_mono B (fun fl s4 z_20=>x3_4 z_20 fun v ρ₂ M₄ e y4 st4 rv4=>?_) fun _ _ q=>q.elim
  subst e
  have yy:=(y2.trans y3).trans y4
  exact ⟨v,ρ₂,M₄,rfl,yy.held,st4.letGo yy.pre st1.rep hl,rv4⟩
 | exc c ρ₂ H₂ =>
  have w1:OutS.exc c ρ₂ H₂=o:=w1
  subst w1
  refine wpAny_mono B (fun _ _ q=>q.elim) fun ev s4 z_21=>x3_3 z_21 fun e M₄ B' ee x4 E4=>?_
  have yy:=y2.trans y3
  have pre:∃ e,M₄=M₁++e:=by
   obtain ⟨l1,e1⟩:=yy.pre
   obtain ⟨l2,e2⟩:=x4.pre
   exact ⟨l1++l2,by rw [e2,e1,qAa]⟩
  have p:PostSX C env ns s₁ M₁ c ρ₂ (freeH l H₂) ev s4:=⟨e,M₄,B',ee,(x4.letGo pre st1.rep hl).after yy.held fun _ q=>q,E4.held⟩
  exact p.noted hd st1.live.frames
theorem ZiL {P:Prop} {t:DE} {b:DS} {n:Nat} {o:OutS} (h:whileS t b n ρ H=o) (ho:o≠.bad) (g:∀ m c H₁,n=m+1→t ρ H=.ok (.bool c) H₁→((c=false∧o=.next ρ H₁)∨(c=true∧((b ρ H₁).then (whileS t b m)).calm=o))→P):P:=by
 cases n with
 | zero=>exact absurd h.symm ho
 | succ m =>
  have h:((t ρ H).inS ρ fun a H₁=>match a with | .bool c=>if c then (b ρ H₁).then (whileS t b m) else .next ρ H₁ | _=>.bad).calm=o:=h
  cases ht:t ρ H with
  | bad=>rw [ht] at h; exact absurd h.symm ho
  | exc c H'=>rw [ht] at h; exact absurd h.symm ho
  | ok a H₁ =>
   rw [ht] at h
   cases a<;>first | exact absurd h.symm ho | skip
   rename_i c
   refine g m c H₁ rfl ht ?_
   cases c with
   | false=>exact .inl ⟨rfl,h.symm⟩
   | true=>exact .inr ⟨rfl,h⟩
theorem Zk2 {o o':OutS} (h:o.calm=o') (ho:o'≠.bad):o=o':=by
 cases o with
 | exc c ρ H=>exact absurd h.symm ho
 | _=>exact h
inductive WhileInv (C:Cx) (env:Env) (ns:List (Option Str)) (s:Shared) (M:Mp) (t:DE) (b:DS) (o:OutS) (m:Nat) (s':Shared):Prop
 | mk (ρ':RE) (M':Mp) (H':AH) (h1:Step C (OwnW env) s M s' M') (h2:St C env ns ρ' s' M' H') (h3:whileS t b m ρ' H'=o):WhileInv C env ns s M t b o m s'
theorem ZiI {n:Nat} {t:DE} {t':Expr} {b:DS} {b':List Stmt} {p:Pos} (h:SndT C env ns t t') (hb:SndB C env ns b b'):SndS C env ns (whileS t b n) (.While t' b' [] p):=fun {ρ s M H} st=>by
 refine EvS.of (K:=fun P E=>codeAny C.S.M C.A (.whileLoop t' b' [] env) (fun r s'=>match r with | .ok f=>P f s' | .error e=>cameBackBy C.S.M C.A env E e s') s) (ZgV fun hne=>?_) fun z=>wpAny_While z
 generalize ho:whileS t b n ρ H=o at hne
 refine codeAny_whileLoop (WhileInv C env ns s M t b o) (fun m s' I'=>?_) n ⟨ρ,M,H,Step.refl ..,st,ho⟩
 obtain ⟨ρ',M',H',y,st',w⟩:=I'
 refine ZiL w hne fun m c H₁ e3' ht w1=>?_; subst e3'
 have A:=h st'
 rw [show tst t ρ' H'=.ok c H₁ by unfold tst; rw [ht]; rfl] at A
 refine wpAny_mono A (fun x s₁ z_22=>x1_3 z_22 fun M₁ x1 rp1 e=>?_) fun _ _ q=>q.elim
 obtain rfl:x=c:=e
 have st1:=st'.step x1 rp1
 rcases w1 with ⟨rfl,rfl⟩ | ⟨rfl,w1⟩
 ·exact wpAny_pure ⟨rfl,M₁,y.trans x1.ofNo,st1⟩
 ·have B:=hb st1
  show wpAny C.S.M C.A (execs b' env) _ _ s₁
  generalize b ρ' H₁=ob at B w1
  cases ob with
  | bad=>exact absurd w1.symm hne
  | next ρ₂ H₂ =>
   have w1:=Zk2 w1 hne
   refine wpAny_mono B (fun fl s4 y_5=>y1_2 y_5 fun e M₄ y4 st4=>?_) fun _ _ q=>q.elim
   subst e
   exact ⟨m,Nat.lt_succ_self m,ρ₂,M₄,H₂,(y.trans x1.ofNo).trans y4,st4,w1⟩
  | ret a H₂ =>
   have w1:OutS.ret a H₂=o:=w1
   subst w1
   refine wpAny_mono B (fun fl s4 z_23=>x3_4 z_23 fun v ρ₂ M₄ e y4 st4 rv4=>?_) fun _ _ q=>q.elim
   subst e
   exact ⟨v,ρ₂,M₄,rfl,(y.trans x1.ofNo).trans y4,st4,rv4⟩
  | exc c ρ₂ H₂=>exact absurd w1.symm hne
theorem Zl0 {o i e:DE} {o' i' e':Expr} {p p':Pos} (ho:Snd C env ns o o') (hi:Snd C env ns i i') (he:Snd C env ns e e') (hn:notSlice i'=true):SndS C env ns (augS o i e) (.AugAssign (.Subscript o' i' p') .Add e' p):=fun {ρ s M H} st=>by
 refine EvS.of (EvP.expr st (ho st) (fun ov s₁ P E=>wpAny C.S.M C.A (eval i' env) (fun iv s₂=>wpAny C.S.M C.A (getItem ov iv) (fun old s₃=>wpAny C.S.M C.A (eval e' env) (fun v s₄=>wpAny C.S.M C.A (inplaceOp .Add old v) (fun new s₅=>wpAny C.S.M C.A (setItem ov iv new) (fun _=>P .next) E s₅) E s₄) E s₃) E s₂) E s₁)
  (fun z a b=>wpAny_mono z (fun _ _ z=>wpAny_mono z (fun _ _ z=>wpAny_mono z (fun _ _ z=>wpAny_mono z (fun _ _ z=>wpAny_mono z (fun _=>a _) b) b) b) b) b) fun a H₁ ov s₁ M₁ _ x1 st1 ra=>?_) fun z=>wpAny_AugAssign_SubscriptAny z (by cases i'<;>first | (intros; rfl) | cases hn)
 refine EvP.expr st1 (hi st1) (fun iv s₂ P E=>wpAny C.S.M C.A (getItem ov iv) (fun old s₃=>wpAny C.S.M C.A (eval e' env) (fun v s₄=>wpAny C.S.M C.A (inplaceOp .Add old v) (fun new s₅=>wpAny C.S.M C.A (setItem ov iv new) (fun _=>P .next) E s₅) E s₄) E s₃) E s₂)
  (fun z a b=>wpAny_mono z (fun _ _ z=>wpAny_mono z (fun _ _ z=>wpAny_mono z (fun _ _ z=>wpAny_mono z (fun _=>a _) b) b) b) b) fun k H₂ iv s₂ M₂ _ x2 st2 rk=>?_
 have ra2:=ra.keep (x2.kp st1.live Zap)
 refine EvP.expr st2 (Zh1 st2.live st2.rep ra2 rk) (fun old s₃ P E=>wpAny C.S.M C.A (eval e' env) (fun v s₄=>wpAny C.S.M C.A (inplaceOp .Add old v) (fun new s₅=>wpAny C.S.M C.A (setItem ov iv new) (fun _=>P .next) E s₅) E s₄) E s₃)
  (fun z a b=>wpAny_mono z (fun _ _ z=>wpAny_mono z (fun _ _ z=>wpAny_mono z (fun _=>a _) b) b) b) fun u H₃ old s₃ M₃ _ x3 st3 ru=>?_
 refine EvP.expr st3 (he st3) (fun v s₄ P E=>wpAny C.S.M C.A (inplaceOp .Add old v) (fun new s₅=>wpAny C.S.M C.A (setItem ov iv new) (fun _=>P .next) E s₅) E s₄) (fun z a b=>wpAny_mono z (fun _ _ z=>wpAny_mono z (fun _=>a _) b) b) fun v H₄ vv s₄ M₄ _ x4 st4 rv=>?_
 have k23:=x3.kp st2.live Zap
 have k34:=x4.kp st3.live Zap
 refine EvP.expr st4 (R:=VRel) (t:=inplaceOp .Add old vv) (Ev.asInt fun x e1=>Ev.asInt fun y e2=>?_) (fun new s₅ P E=>wpAny C.S.M C.A (setItem ov iv new) (fun _=>P .next) E s₅) (fun z a b=>wpAny_mono z (fun _=>a _) b) fun w H₅ new s₅ M₅ _ x5 st5 rw'=>EvP.orBad fun H₆ e6=>?_
 ·subst e1 e2
  obtain ⟨t1,rfl⟩:=(ru.keep k34).inv
  obtain ⟨t2,rfl⟩:=rv.inv
  exact iadd_int (Zao st4.rep (.int _ _) _)
 ·have k45:=x5.kp st4.live Zap
  exact wpAny_mono (ZdE st5.live st5.rep (((ra2.keep k23).keep k34).keep k45) (((rk.keep k23).keep k34).keep k45) rw' e6) (fun _ s₆ z_24=>x1_3 z_24 fun M₆ x6 rp6 _=>⟨rfl,M₆,x6.ofNo,st5.step x6 rp6⟩) fun _ _ q=>q.elim
end
open PySem PySem.W PyProof.Rows PySem.Spec
section
variable {C:Cx} {env:Env} {ns:List (Option Str)} {ρ:RE} {s s':Shared} {M M':Mp} {H H':AH}
theorem Zgp {mt:Bool} {elt it cond:DE} {elt' it':Expr} {ifs:List Expr} {x y:Str} {i:Nat} {px py pos spos:Pos} {sc:Scope} (hit:Snd C env ns it it') (hf:notSet it'=true) (Y:CompAt env x sc)
  (helt:∀ pv (env':Env),env'.scope.names=relN env.scope.names sc.names→Snd (C.withPv pv) env' (nsC ns sc.names x) elt elt') (hcond:∀ pv (env':Env),env'.scope.names=relN env.scope.names sc.names→TestsOK (C.withPv pv) env' (nsC ns sc.names x) cond ifs)
  (T:TgOK env ns y i) (hsw:swapsWith (.ListComp elt' [⟨.Name x px,it',ifs,0⟩] sc pos) (some (.Name y py)) spos.line env=pure true) :
  SndS C env ns (assignS C.hot (.one i) (compE C.hot mt elt it cond)) (.Assign [.Name y py] (.ListComp elt' [⟨.Name x px,it',ifs,0⟩] sc pos) spos):=fun {ρ s M H} st=>by
 refine EvS.of (K:=fun P E=>wpAny C.S.M C.A (comprehension (.ListComp elt' [⟨.Name x px,it',ifs,0⟩] sc pos) sc env it'.pos (newList []) false (eval it' env) (some (assign (.Name y py) env))) (fun _ s'=>P .next s') E s) ?_ fun {P E} z=>by
  show wpAny C.S.M C.A (exec (.Assign [.Name y py] (.ListComp elt' [⟨.Name x px,it',ifs,0⟩] sc pos) spos) env) _ _ s
  rw [exec_Assign_Name_used _ _ _ _ hsw]
  refine wpAny_bind (wpAny_standAt (wpAny_bind ?_))
  exact wpAny_bind (wpAny_mono z (fun _ _ q=>wpAny_pure (wpAny_pure q)) fun _ _ q=>q)
 show EvP C env ns s M _ ((compE C.hot mt elt it cond ρ H).inS ρ fun a H₁=>.next (ρ.set i (some a)) H₁)
 cases ho:compE C.hot mt elt it cond ρ H with
 | bad=>trivial
 | exc c H' =>
  exact ZcN (mt:=mt) (use:=some (assign (.Name y py) env)) (p0:=it'.pos) (QQ:=no1) (E:=PostSX C env ns s M c ρ H') st hit hf Y helt hcond (by rw [ho]; exact fun q=>nomatch q) (fun c' H'' e ev s' p=>by rw [ho] at e; cases e; exact PostX.toS st p) fun r y H' c s' M' m e=>by rw [ho] at e; cases e
 | ok yv H' =>
  refine ZcN (mt:=mt) (use:=some (assign (.Name y py) env)) (p0:=it'.pos) (QQ:=fun _ s'=>Flow.next=.next∧PostN C env ns s M (ρ.set i (some yv)) H' s') (E:=no1) st hit hf Y helt hcond (by rw [ho]; exact fun q=>nomatch q) (fun c' H'' e=>by rw [ho] at e; cases e) fun r y' H'' c s' M' m e x1 rp rv hc hn nf=>?_
  rw [ho] at e
  cases e
  show wpAny _ _ (assign (.Name y py) env r) _ _ s'
  have st':=st.step x1 rp
  refine wpAny_assign_Name (ZdU st' T.1 T.2 rv fun s2 x2 st2=>?_)
  have hcW:¬ OwnW env c:=by
   refine x2_1 (st.env) fun m0 cm0 E0=>?_
   rintro (q | ⟨n,q⟩)
   ·obtain ⟨o,_,_,ho,_⟩:=E0.loc; rw [← q,hc] at ho; cases ho
   ·obtain ⟨⟨o,ho,_⟩,_⟩:=E0.cell n c q; rw [hc] at ho; cases ho
  have hcf:c∉C.fs:=st.live.fs0 hc
  have hcb:C.S.base.get? c=none:=st.live.base0 hc
  have hn2:s2.heap.Ns c m:=by obtain ⟨o,es,ep,ho,hd,r⟩:=hn; exact ⟨o,es,ep,x2.keep c o ho (fun q=>absurd q nf) hcW hcf,hd,r⟩
  refine ⟨m,hn2,fun h' sb=>?_⟩
  have k:∀ b o,b≠c→s2.heap.get? b=some o→h'.get? b=some o:=fun b o ne e=>(sb.2 b ne).trans e
  have a2:Aside C env s2.heap M' c:=⟨by obtain ⟨o,es,ep,ho,hd,_⟩:=id hn2; exact ⟨o,ho,.inr (dictOff hn2 o ho)⟩,nf,hcf,hcW,hcb⟩
  have hpv:c∈C.pv.1∨c∈C.pv.2→∃ o,h'.get? c=some o:=fun q=>by obtain ⟨o,ho⟩:=st.live.priv c q; rw [hc] at ho; cases ho
  exact ⟨rfl,M',((Step.ofNo x1).trans x2).but (tk:=s2.toks) hc k,st2.but (tk:=s2.toks) a2 k hpv⟩
theorem Ze8 {e:Expr} {g:List Comprehension} {sc:Scope} {pos p:Pos} {t:Str} {l:Nat} {env:Env}:swapsWith (.ListComp e g sc pos) (some (.Name t p)) l env=pure (env.blockKind == .function && env.kindOf t == some .local && p.line == pos.line
   && !(sc.names.any fun (n,k)=>n == t && (k == .local || k == .cell))):=rfl
end
section
variable {M:Model} {A:Around} {E:Value→Shared→Prop} {env:Env}
variable {nm q:Str} {C N:Addr} {bs bm:List Value} {hdct:Bool} {sn:List Str} {sub:List Value} {ab:Bool} {col:Option Bool} {dd:Option Addr} {k0 k1 k2 k3 k5:Option Value} {newId:String}
theorem ZiD {s:Shared} {x:Sem Value} {Q:Flow→Shared→Prop} (hbase:bm.contains (.type "BaseException")=true)
  (h:wpAny M A x (fun v s₁=>∃ e t,v=.ref e∧s₁.heap.get? C=some (excClassObj nm q C N bs bm hdct sn sub ab col dd k0 k1 k2 k3 k5 newId) ∧
   s₁.heap.get? e=some { cls:=.ref C,data:=.fields #[.ref t,.none,.none,.none,.bool false,.none] }∧wpAny M A (raiseNew (.ref e):Sem Flow) Q E s₁) E s) :
  wpAny M A (raiseStmt env (some x) none) Q E s:=by
 have hcB:(Value.ref C::bm).contains (.type "BaseException")=true:=by rw [List.contains_cons,hbase,Bool.or_true]
 unfold raiseStmt
 refine wpAny_bind (wpAny_mono h (fun v s₁ h₁=>?_) fun _ _ x=>x)
 refine x2_4 (h₁) fun e t e2' hC he hE=>?_; try clear h₁; subst e2'
 obtain ⟨hp,g,d,tk,os⟩:=s₁
 repeat (first | with_reducible exact hE | with_reducible refine wpAny_loadPart_at he ?_ | with_reducible refine wpAny_loadPart_at hC ?_ | (with_reducible refine wpAny_isSubtype_exc hC ?_; rw [hcB]) | wp_step)
end
section
variable {prog:Program} {w:World} {A:Around} {E:Value→Shared→Prop} {s:Shared} {env:Env}
variable {nm q:Str} {C N:Addr} {bs bm bmB:List Value} {hdct:Bool} {sn:List Str} {sub:List Value} {ab:Bool} {col:Option Bool} {dd:Option Addr} {k0 k1 k2 k3 k5:Option Value} {B Bn newId nid initId inN:String} {bmN:List Value}
theorem ZiC (Fn:ExcBaseFacts Bn newId inN bmN) (hBn:bmB.contains (.type Bn)=true) (F:ExcBaseFacts B nid initId bmB) {mN:Str→Option Value} {x:Str} {np cpos pos:Pos} {args:List Expr} {Q:Flow→Shared→Prop}
  (hbase:bm.contains (.type "BaseException")=true) (hplain:(backTo cpos (starEach args env)).any (·.1)=false) (hni:mN "__init__" = none)
  (h:wpAny (model prog w) A (eval (.Name x np) env) (fun f s₁=>f=.ref C∧wpAny (model prog w) A (evalArgs (.ref C) true (backTo cpos (starEach args env)) [])
   (fun a s₂=>a.kw=[]∧a.pos.length≤sizeLine∧s₂.heap.get? C=some (excClassObj nm q C N bs bm hdct sn sub ab col dd k0 k1 k2 k3 k5 newId)∧s₂.heap.Ns N mN∧OwnTail s₂.heap bmB bm ∧
    ∀ h' e,Heap.MadeExcOf s₂.heap h' e (.ref C) a.pos→wpAny (model prog w) A (raiseNew (.ref e):Sem Flow) Q E { s₂ with heap:=h' }) E s₁) E s) :
  wpAny (model prog w) A (exec (.Raise (some (.Call (.Name x np) args [] cpos)) none pos) env) Q E s:=by
 rw [arm_exec_Raise]
 refine wpAny_bind (wpAny_standAt (ZiD (C:=C) (nm:=nm) (q:=q) (N:=N) (bs:=bs) (bm:=bm) (hdct:=hdct) (sn:=sn) (sub:=sub) (ab:=ab) (col:=col) (dd:=dd) (k0:=k0) (k1:=k1) (k2:=k2) (k3:=k3) (k5:=k5) (newId:=newId) hbase ?_))
 refine wpAny_bind (wpAny_mono (wpAny_Call_ofName (wpAny_mono h (fun f s₁ h₁=>?_) fun _ _ x=>x)) (fun v s₃ h₃=>wpAny_bind (wpAny_standAt (wpAny_pure h₃))) fun _ _ x=>x)
 obtain ⟨rfl,h₁⟩:=h₁
 unfold callWith
 refine wpAny_bind (wpAny_holding (wpAny_mono h₁ (fun a s₂ h₂=>wpAny_bind (wpAny_standAt ?_)) fun _ _ x=>x))
 obtain ⟨apos,akw⟩:=a
 refine x0_6 (h₂) fun hkw hlen hC hn T h₂=>?_
 obtain rfl:akw=[]:=hkw
 obtain ⟨hp,g,d,tk,os⟩:=s₂
 refine wpAny_bind (wpAny_keeperOf_exc hC ?_)
 dsimp only
 rw [hplain]
 refine wpAny_bind (wpAny_call_exc_subU (hrest:=hlen) Fn hBn F T hC hn hni fun h' e hm=>wpAny_bind (wpAny_holding (wpAny_point (wpAny_pure ?_))))
 refine x1_3 (hm.there) fun t ht _ _=>?_
 exact ⟨e,t,rfl,hm.keeps _ _ hC,ht,h₂ h' e hm⟩
end
section
variable {C:Cx} {G:Gm} {env:Env} {ns:List (Option Str)} {ρ:RE} {s s':Shared} {M M':Mp} {H H':AH}
theorem ZjL (L:Live C s.heap M):Kp (C.wd s.heap M) (C.wd (hideAll s.heap C.fs) M):=⟨fun b o e n hh=>⟨hideAll_get _ e (L.offFs e hh.nd),n⟩,⟨[],by simp [wdOf]⟩,rfl⟩
theorem Exn.born {W:Addr→Prop} {e D:Addr} {c:Nat} {h':Heap} (L:Live C s.heap M) (R:Rep C.S C.pv s.heap M H) (hX:C.S.X c=some D) (k:∀ b o,s.heap.get? b=some o→h'.get? b=some o) (he:s.heap.get? e=none) (hr:Raw h' e D):Exn C W s M e c { s with heap:=h' } M H (hideAll s.heap C.fs) where
 keepB:=fun b o e _ _ f=>hideAll_get _ e f
 base:=fun b o e=>hideAll_get _ (L.stays b o e) (L.baseOff e).2
 rep:=R.keep (l:=C.pv.1) (ZjL L) fun a f=>by obtain ⟨o,ho⟩:=R.there f; rw [ho]; exact hideAll_get _ ho fun q=>L.off a q f
 flt:=by
  refine ⟨D,hX,fun b o e=>k b o (of_hideAll _ e),?_,?_,.inl hr⟩
  ·cases q:(hideAll s.heap C.fs).get? e with
   | none=>rfl
   | some o=>have:=of_hideAll _ q; rw [he] at this; cases this
  ·refine (funFrames_hide L.funs fun env he a hf=>?_).of_keeps fun b o e _=>⟨o,k b o e,rfl⟩
   exact List.mem_filterMap.mpr ⟨env,he,hf⟩
 slots:=fun b o e _ _=>⟨o.slots,k b o e⟩
 alive:=fun b o e=>⟨o,k b o e⟩
 pre:=⟨[],by simp⟩
 grow:=fun _ q=>.inl q
 gens:=rfl
 os:=rfl
 fresh:=he
theorem EnvB.born {h':Heap} (E:EnvB C env ns ρ s.heap s.heap M) (L:Live C s.heap M) (k:∀ b o,s.heap.get? b=some o→h'.get? b=some o):EnvB C env ns ρ h' (hideAll s.heap C.fs) M:=by
 refine x2_1 (E) fun m cm E=>?_
 exact ⟨m,cm,E.keep rfl (fun _ q=>q) (fun o ho=>⟨o.slots,k _ _ ho⟩) (fun n c o _ ho=>k _ _ ho) (ZjL L) fun _ _ _ _ n=>n⟩
theorem ZhX {x:Str} {C:Addr} {bmB:List Value} {newId:String} {mg:Str→Option Value} {h:Heap} {P:Prop} (O:OwnCls x C bmB newId mg h) (k:∀ tl N nm q bs hdct sn sub ab col dd k0 k1 k2 k3 k5 mN,h.get? C=some (excClassObj nm q C N bs tl hdct sn sub ab col dd k0 k1 k2 k3 k5 newId)→h.Ns N mN→mN "__init__" = none→OwnTail h bmB tl→P):P:=by
 obtain ⟨tl,N,nm,q,bs,hdct,sn,sub,ab,col,dd,k0,k1,k2,k3,k5,mN,hC,hN,hni,T⟩:=O.obj
 exact k tl N nm q bs hdct sn sub ab col dd k0 k1 k2 k3 k5 mN hC hN hni T
theorem ZiH (Y:Fit C.S G) {c:Nat} {cn:Str} {np cpos pos:Pos} {a:Expr} {v:AV} (hc:C.S.T.exs[c]?=some cn) (ha:Snd C env ns (cstE v) a) (hs:notStar a=true) (hk:env.kindOf cn=some .globalImplicit) (hdb:(cn == ("__debug__" : Str))=false) :
  SndS C env ns (raiseS C.hot c) (.Raise (some (.Call (.Name cn np) [a] [] cpos)) none pos):=fun {ρ s M H} st=>by
 show EvS C env ns _ s M (if C.hot=true then .bad else .exc c ρ H)
 split
 ·trivial
 rename_i hot
 have hh:=st.live.handled (by simpa using hot)
 refine x1_2 (Y.xn c cn hc) fun D hX e1=>?_
 obtain ⟨e2,_⟩:=Y.exc c D hX
 have O:=own_of_in C.S.hK C.S.hT e1 e2
 refine ZhX O fun tl N nm q bs hdct sn sub ab col dd k0 k1 k2 k3 k5 mN hC hN hni T=>?_
 have FB:=PySem.F.excBase_ValueError
 refine ZiC (C:=D) (nm:=nm) (q:=q) (N:=N) (bs:=bs) (bm:=tl) (hdct:=hdct) (sn:=sn) (sub:=sub) (ab:=ab) (col:=col) (dd:=dd) (k0:=k0) (k1:=k1) (k2:=k2) (k3:=k3) (k5:=k5) FB FB.hasB FB (mN:=mN) (T.hasType FB.hasBase) (ZaD [a] (by simp [hs])) hni ?_
 refine Zb2 st hk hdb e1 ⟨rfl,?_⟩
 rw [Zbu hs]
 refine Calls.evalArgs_plain (Calls.spliced_cons (wpAny_mono (show wpAny _ _ _ (Post VRel C s M v H) no1 s from ha st) (fun u s₁ po=>?_) fun _ _ q=>q.elim))
 refine x1_3 (po) fun M₁ x1 rp1 _=>?_; try clear po
 have st1:=st.step x1 rp1
 refine Calls.spliced_nil ⟨rfl,by show 1≤sizeLine; decide +kernel,st1.live.stays _ _ hC,hN.keeps st1.live.stays,T.keeps st1.live.stays,fun h' e hm=>?_⟩
 refine x1_3 (hm.there) fun t ht _ _=>?_
 refine wpAny_raiseNew_none hh ?_
 have hraw:Raw h' e D:=⟨_,_,ht,⟨rfl,rfl⟩,rfl,by simp,by simp⟩
 have E1:Exn C (OwnW env) s₁ M₁ e c { s₁ with heap:=h' } M₁ H _:=Exn.born st1.live rp1 hX hm.keeps hm.new hraw
 exact PostSX.back x1.ofNo ⟨e,M₁,_,rfl,E1,st1.env.born st1.live hm.keeps⟩
end
theorem Zcr {h B base:Heap} (k:base.StaysIn B):∀ {l:List Env},h.FunFrames B l→h.FunFrames base l
 | [],_=>trivial
 | env::_,h=>by
  obtain ⟨hk,⟨L,o,hf,hn,ho,hd⟩,hr⟩:=h
  exact ⟨hk,⟨L,o,hf,gone (fun b o e=>⟨o,k b o e⟩) hn,ho,hd⟩,Zcr k hr⟩
section
variable {C:Cx} {G:Gm} {env:Env} {ns:List (Option Str)} {W:Addr→Prop} {s s':Shared} {M M':Mp} {H H':AH} {e:Addr} {c:Nat} {B:Heap} {ρ:RE}
theorem Exn.live (x:Exn C (OwnW env) s M e c s' M' H' B) (L:Live C s.heap M) (E:EnvB C env ns ρ s'.heap B M'):Live C s'.heap M':=by
  refine x1_2 (id x.flt) fun D hX fl=>?_
  exact
  { frames:=L.frames
    funs:=Zcr x.base fl.funs
    stays:=fun b o e=>fl.stays _ _ (x.base b o e)
    off:=fun a ha=>by
      obtain ⟨_,o,ho,_⟩:=L.funs.mem ha
      exact x.step.not ho (L.off a ha)
    new:=fun a f=>(x.grow a f).elim (L.new a) L.base0
    handled:=L.handled
    dicts:=fun b hb=>by
      refine x2_1 (E) fun m cm E=>?_
      by_cases q:b=env.locals
      · refine x3_3 (E.loc) fun o es ep h1 h2 _=>?_
        exact ⟨o,es,ep,q▸h1,h2⟩
      · refine x3_2 (L.dicts b hb) fun o es ep ho hd=>?_
        obtain ⟨sl,h1⟩:=x.slots b o ho hb fun z=>z.elim q fun ⟨n,hc⟩=>(E.cell n b hc).2.1 hb
        exact ⟨_,es,ep,h1,hd⟩
    depth:=L.depth
    units:=L.units
    priv:=fun a ha=>by obtain ⟨o,ho⟩:=L.priv a ha; exact x.alive a o ho
    poff:=fun a ha=>by obtain ⟨o,ho⟩:=L.priv a (.inl ha); exact x.step.not ho (L.poff a ha) }
theorem Exn.off (x:Exn C W s M e c s' M' H' B):¬ foot M' e:=fun f=>by
 obtain ⟨o,ho⟩:=x.rep.there f
 refine x1_2 (id x.flt) fun D _ fl=>?_
 rw [fl.new] at ho; cases ho
theorem Flt.record {fe:List Env} {D:Addr} {h:Heap} (x:Flt B fe e D h):∃ o vs,h.get? e=some o∧(o.cls=.ref D∧o.dict=none)∧o.data=.fields vs:=by
 rcases x.st with ⟨o,vs,a,b,c,_⟩ | ⟨fl,⟨o,vs,T,oT,ts,a,b,c,_⟩,_⟩
 ·exact ⟨o,vs,a,b,c⟩
 ·exact ⟨o,vs,a,b,c⟩
noncomputable abbrev Cx.warm (C:Cx) (A:Around):Cx:={ C with A:=A,hot:=true }
theorem Exn.land (x:Exn C (OwnW env) s M e c s' M' H' B) (L:Live C s.heap M) (E:EnvB C env ns ρ s'.heap B M'):St (C.warm (C.A.mark (some (.ref e)))) env ns ρ s' M' H':=by
 have L':=x.live L E
 refine x1_2 (id x.flt) fun D _ fl=>?_
 refine ⟨⟨L'.frames,L'.funs,L'.stays,L'.off,L'.new,(fun q=>nomatch q),L'.dicts,L'.depth,L'.units,L'.priv,L'.poff⟩,x.rep.ext fl.stays,?_⟩
 refine x2_1 (E) fun m cm E=>?_
 exact ⟨m,cm,E.keep rfl (fun _ q=>q) (fun o ho=>⟨o.slots,ho⟩) (fun n c o _ ho=>ho) (ZdB fl.stays) fun _ _ _ _ n=>n⟩
theorem Step.warm {A:Around} (x:Step (C.warm A) W s M s' M'):Step C W s M s' M':=⟨x.keep,x.slots,x.alive,x.pre,x.grow,x.gens,x.os⟩
theorem St.cool {A:Around} {h₀:Heap} {M₀:Mp} (L:Live C h₀ M₀) (st:St (C.warm A) env ns ρ s M H):St C env ns ρ s M H:=by
 obtain ⟨⟨_,a2,a3,a4,a5,_,a7,_,_,a10,a11⟩,b,m,cm,E⟩:=st
 exact ⟨⟨L.frames,a2,a3,a4,a5,L.handled,a7,L.depth,L.units,a10,a11⟩,b,m,cm,E.fn,E.glob,E.bns,E.loc,E.off,E.inj,E.len,E.has,E.cell,E.apart,E.var⟩
end
section
variable {M:Model} {A:Around} {E:Value→Shared→Prop} {s:Shared}
variable {nm q:Str} {D N:Addr} {bs bm:List Value} {hdct:Bool} {sn:List Str} {sub:List Value} {ab:Bool} {col:Option Bool} {dd:Option Addr} {k0 k1 k2 k3 k5:Option Value} {newId:String}
theorem Ziu {K:Frag} {e:Addr} {oe:Obj} {t:Bool} {Q:Bool→Shared→Prop} (X:K.In s.heap) (hD:s.heap.get? D=some (excClassObj nm q D N bs bm hdct sn sub ab col dd k0 k1 k2 k3 k5 newId)) (hbase:bm.contains (.type "BaseException")=true)
  (he:s.heap.get? e=some oe) (hs:subIn K oe.cls (.ref D)=some t) (h:Q t s):wpAny M A (excMatches (.ref e) (.ref D)) Q E s:=by
 have hcB:(Value.ref D::bm).contains (.type "BaseException")=true:=by rw [List.contains_cons,hbase,Bool.or_true]
 obtain ⟨hp,g,dr,tk,os⟩:=s
 have f:=tc_notTuple
 have L:=looks_subIn (M:=M) X hs
 unfold excMatches
 repeat (first | (with_reducible refine wpAny_loadPart_at he ?_) | with_reducible refine wpAny_loadPart_at hD ?_ | with_reducible refine Looks.at L ?_ | (with_reducible refine wpAny_isSubtype_exc hD ?_; rw [hcB]) | wp_step)
 cases t<;>(repeat (first | exact h | wp_step))
end
noncomputable def NameJ (env:Env) (ns:List (Option Str)):Option Nat→Option Str→Prop
 | none,none=>True
 | _,_=>False
inductive SndH (C:Cx) (env:Env) (ns:List (Option Str)):List DH→List ExceptHandler→Prop
 | nil:SndH C env ns [] []
 | cons {d:Nat} {cn:Str} {np pos:Pos} {j:Option Nat} {nm:Option Str} {b:DS} {b₀:Stmt} {suite:List Stmt} {r:List DH} {rest:List ExceptHandler}:C.S.T.exs[d]?=some cn→env.kindOf cn=some .globalImplicit→(cn == ("__debug__" : Str))=false→NameJ env ns j nm →
   (∀ A,SndB (C.warm A) env ns b (b₀::suite))→SndH C env ns r rest→SndH C env ns ((d,j,b)::r) (.ExceptHandler (some (.Name cn np)) nm (b₀::suite) pos::rest)
section
variable {C:Cx} {G:Gm} {env:Env} {ns:List (Option Str)} {s:Shared} {M:Mp} {H:AH}
theorem EvP.map {K K':(Flow→Shared→Prop)→(Value→Shared→Prop)→Prop} {o:OutS} (h:EvP C env ns s M K o) (e:∀ {P:Flow→Shared→Prop} {E:Value→Shared→Prop},K P E→K' P E):EvP C env ns s M K' o:=by
 cases o with
 | bad=>trivial
 | next ρ' H'=>exact e h
 | ret a H'=>exact e h
 | exc c ρ' H'=>exact e h
def suiteP (C:Cx) (env:Env) (e:Addr) (nm:Option Str) (b₀:Stmt) (suite:List Stmt) (pos:Pos) (s':Shared) (P:Flow→Shared→Prop) (E':Value→Shared→Prop):Prop :=
 codeAny C.S.M (C.A.mark (some (.ref e))) (.handlers (.ref e) [.ExceptHandler none nm (b₀::suite) pos] env) (fun r s₂=>match r with
     | .ok f=>(match nm with
      | none=>P f s₂
      | some n=>wpAny C.S.M C.A (do bindName env n .none; unbindBehindTheSuite env n pos) (fun _ s₃=>P f s₃) E' s₂)
     | .error x=>cameBackBy C.S.M C.A env E' x s₂) s'
theorem ZgX (Y:Fit C.S G) {hs:List DH} {l:List ExceptHandler} (T:SndH C env ns hs l):∀ {e D:Addr} {c:Nat} {ρ:RE} {s':Shared} {M':Mp} {H':AH} {B:Heap},Live C s.heap M→Exn C (OwnW env) s M e c s' M' H' B→C.S.X c=some D→Fly B s'.heap e D .none →
  EnvB C env ns ρ s'.heap B M'→EvP C env ns s M (fun P E=>wpAny C.S.M C.A (handleBy (.ref e) env l) P E s') (handS G hs c ρ H'):=by
 induction T with
 | nil=>intro _ _ _ _ _ _ _ _ _ _ _ _ _; trivial
 | @cons d cn np pos j nm b b₀ suite r rest hd hk hdb hj hb T ih =>
  intro e D c ρ s' M' H' B L x hX f E
  refine EvP.orBad fun up hup=>?_
  have st:=x.land L E
  refine x1_2 (Y.xn d cn hd) fun D2 hX2 e1=>?_
  obtain ⟨e2,_⟩:=Y.exc d D2 hX2
  have hsub:=Y.up c d D D2 up hX hX2 hup
  have O:=own_of_in C.S.hK C.S.hT e1 e2
  refine ZhX O fun tl N nm' q bs hdct sn sub ab col dd k0 k1 k2 k3 k5 mN hC hN hni T'=>?_
  refine x1_2 (id x.flt) fun D' hX' fl=>?_
  rw [hX] at hX'; cases hX'
  obtain ⟨oe,vs,r1,⟨r2,r2'⟩,r3⟩:=fl.record
  have front:∀ {P:Flow→Shared→Prop} {E':Value→Shared→Prop},(if (up.any fun x=>decide (x=d))=true then suiteP C env e nm b₀ suite pos s' P E' else wpAny C.S.M C.A (handleBy (.ref e) env rest) P E' s')→wpAny C.S.M C.A (handleBy (.ref e) env (.ExceptHandler (some (.Name cn np)) nm (b₀::suite) pos::rest)) P E' s':=fun {P E'} h=>by
   refine wpAny_handleBy_cons (codeAny_handlers_test (Zb2 (C:=C.warm (C.A.mark (some (.ref e)))) st hk hdb e1 ?_)) (by intro q; cases q)
   refine Ziu (C.S.hK.keeps st.live.stays) (st.live.stays _ _ hC) (T'.hasType PySem.F.excBase_ValueError.hasBase) r1 (by rw [r2]; exact hsub) ?_
   generalize (up.any fun x=>decide (x=d))=t at h
   cases t with
   | false=>exact h
   | true=>exact h
  refine EvP.map (K:=fun P E'=>if (up.any fun x=>decide (x=d))=true then suiteP C env e nm b₀ suite pos s' P E' else wpAny C.S.M C.A (handleBy (.ref e) env rest) P E' s') ?_ front
  cases ht:(up.any fun x=>decide (x=d)) with
  | false=>exact ih L x hX f E
  | true =>
   show EvP C env ns s M (fun P E'=>suiteP C env e nm b₀ suite pos s' P E') (dropJ j (b (giveJ ρ c j) H'))
   -- the trace is let go once more
   have suite_ok:∀ {P:Unit→Shared→Prop} {E':Value→Shared→Prop},(∀ h',Exn C (OwnW env) s M e c { s' with heap:=h' } M' H' B→EnvB C env ns ρ h' B M'→P () { s' with heap:=h' })→wpAny C.S.M (C.A.mark (some (.ref e))) (setFlight (.ref e) none) P E' s':=fun {P E'} h =>
    ZcY (fr:=none) fl.funs fl.stays f fun h' z f'=>h h' (x.stn hX fl.new fl.funs z f' (.inl rfl)) (E.stn z)
   have hB:∀ {s₁:Shared} {M₁:Mp},St (C.warm (C.A.mark (some (.ref e)))) env ns (giveJ ρ c j) s₁ M₁ H'→EvS (C.warm (C.A.mark (some (.ref e)))) env ns (execs (b₀::suite) env) s₁ M₁ (b (giveJ ρ c j) H'):=fun st=>hb _ st
   generalize b (giveJ ρ c j) H'=ob at hB
   cases j with
   | some i=>exact hj.elim
   | none =>
    cases nm with
    | some n=>exact hj.elim
    | none =>
     cases ob with
     | bad=>trivial
     | exc _ _ _=>trivial
     | next ρ₂ H₂ =>
      refine codeAny_handlers_suite (suite_ok fun h' x' E'=>?_)
      have st':=x'.land L E'
      exact wpAny_mono (hB st') (fun fl s₂ y_6=>y1_2 y_6 fun q M₂ y st2=>⟨q,M₂,x'.step.trans y.warm,st2.cool L⟩) fun _ _ q=>q.elim
     | ret a H₂ =>
      refine codeAny_handlers_suite (suite_ok fun h' x' E'=>?_)
      have st':=x'.land L E'
      exact wpAny_mono (hB st') (fun fl s₂ z_25=>x3_4 z_25 fun v ρ₂ M₂ q y st2 rv=>⟨v,ρ₂,M₂,q,x'.step.trans y.warm,st2.cool L,rv⟩) fun _ _ q=>q.elim
theorem Zl3 (Y:Fit C.S G) (hd:HeadAt C env) {b:DS} {hs:List DH} {b':List Stmt} {h₀:ExceptHandler} {l:List ExceptHandler} {pos:Pos} (hb:SndB C env ns b b') (T:SndH C env ns hs (h₀::l)):SndS C env ns (tryS C.hot G b hs) (.Try b' (h₀::l) [] [] pos):=fun {ρ s M H} st=>by
 have A:=hb st
 show EvS C env ns _ s M (if C.hot=true then .bad else match b ρ H with | .exc c ρ₁ H₁=>handS G hs c ρ₁ H₁ | o=>o)
 split
 ·trivial
 generalize b ρ H=ob at A
 cases ob with
 | bad=>trivial
 | next ρ₂ H₂=>exact wpAny_Try_except (wpAny_mono A (fun fl s₁ ⟨q,z⟩=>by subst q; exact wpAny_pure ⟨rfl,z⟩) fun _ _ q=>q.elim)
 | ret a H₂=>exact wpAny_Try_except (wpAny_mono A (fun fl s₁ z_1=>x3_2 z_1 fun v ρ₂ M₂ q z=>by subst q; exact ⟨v,ρ₂,M₂,rfl,z⟩) fun _ _ q=>q.elim)
 | exc c ρ₂ H₂ =>
  show EvS C env ns _ s M (handS G hs c ρ₂ H₂)
  refine EvS.of (ZgV fun hne=>?_) fun z=>wpAny_Try_except z
  refine wpAny_mono A (fun _ _ q=>q.elim) fun ev s₁ z_26=>x3_3 z_26 fun e M' B q x E=>?_
  subst q
  refine x.noted hd st.live.frames fun h' D L hX hn hf hst hh hL z f x'=>?_
  refine ZcY (fr:=none) hf hst f fun h'' z' f'=>?_
  have:=ZgX Y T st.live (x'.stn hX hn hf z' f' (.inl rfl)) hX f' ((E.stn z).stn z')
  generalize handS G hs c ρ₂ H₂=o at this hne
  cases o with
  | bad=>exact absurd rfl hne
  | _=>exact this
end
structure Dl where
 sc:List (Str×NameKind)
 ns:List (Option Str)
 mts:List (Nat×Nat×Nat)
noncomputable def mtAt (D:Dl) (p:Pos):Bool:=D.mts.any fun q=>q.1 == p.line && q.2.1 == p.col && q.2.2 == p.endCol
noncomputable def glob (D:Dl) (x:Str):Bool:=D.sc.lookup x == some .globalImplicit && !(x == ("__debug__" : Str)) && !(x == ("__name__" : Str))
noncomputable def compOK (D:Dl) (x:Str) (sc:Scope):Bool :=
 sc.kind == .function && sc.names.lookup x == some .local && (sc.names.all fun y=>y.2 != .cell) && (sc.names.all fun y=>y.2 != .local || sc.names.lookup y.1 == some .local) &&
 (sc.names.all fun y=>y.2 != .free || D.sc.lookup y.1 == some .cell || D.sc.lookup y.1 == some .free)
noncomputable def ixOf {α:Type} [BEq α] (x:α):List α→Nat→Option Nat
 | [],_=>none
 | o::r,i=>if o == x then some i else ixOf x r (i+1)
noncomputable def orE {β:Type} (o:Option β) (f:β→DE):DE:=match o with
 | some b=>f b
 | none=>badE
noncomputable def nameE (T:Tb) (D:Dl) (x:Str):DE:=if x == ("__debug__" : Str) || x == ("__classdict__" : Str) then badE else match ixOf (some x) D.ns 0 with
 | some i=>varE i
 | none=>if glob D x then orE (T.gi.lookup x) fun i=>cstE (.int i) else badE
noncomputable def biTab (mt:Bool):List (Str×Bi):=[("len", .len),("range", .range),("list", .list mt),("min", .min),("max", .max),("sum", .sum),("int", .int),("sorted", .sorted)]
noncomputable def bmTab:List (Str×Bm):=[("append", .append),("clear", .clear),("get", .get),("pop", .pop),("join", .join)]
noncomputable def tyTab:List (Str×Ty):=[("int", .int),("bool", .bool),("str", .str),("tuple", .tup),("list", .lst)]
noncomputable def nameOf:Expr→Option (Str×Pos)
 | .Name x p=>some (x,p)
 | _=>none
noncomputable def tyE (D:Dl) (e:Expr):Option Ty:=(nameOf e).bind fun x=>if glob D x.1 then tyTab.lookup x.1 else none
noncomputable def nameCall (T:Tb) (G:Gm) (Φ:FT) (hot:Bool) (D:Dl) (x:Str) (p:Pos) (args:List Expr) (as:List DE):DE :=
 if args.all notStar && glob D x then
  (if x == ("isinstance" : Str) then (match args,as with
   | [_,t],[a,_]=>orE (tyE D t) fun t=>isiE G a [t]
   | _,_=>badE)
  else match (biTab (mtAt D p)).lookup x with
   | some b=>biE hot b as
   | none=>match ixOf (some x) T.fns 0 with
    | some i=>callE Φ i as
    | none=>orE (ixOf x T.cls 0) fun c=>newE G Φ c as) else badE
noncomputable def attrCall (T:Tb) (G:Gm) (Φ:FT) (o':Expr) (o:DE) (m:Str) (line:Bool) (args:List Expr) (as:List DE):DE :=
 if plainBase o' && args.all notStar && line && decide (args.length<20) then (match ixOf m T.mn 0 with
  | some k=>moE G Φ k o as
  | none=>orE (bmTab.lookup m) fun b=>mbE b o as) else badE
noncomputable def altE {β:Type} (o:Option β) (f:β→DE) (g:DE):DE:=match o with
 | some b=>f b
 | none=>g
noncomputable def attOf:Expr→Option (Expr×Str×Pos)
 | .Attribute o m p=>some (o,m,p)
 | _=>none
noncomputable def slOf:Expr→Option (Option Expr×Option Expr×Option Expr×Pos)
 | .Slice a b c p=>some (a,b,c,p)
 | _=>none
noncomputable def genOf:List Comprehension→Option ((Str×Pos)×Comprehension)
 | [g]=>(nameOf g.target).map (·,g)
 | _=>none
noncomputable def plainT:Expr→Bool
 | .UnaryOp op _ _=>op != .Not
 | .BoolOp ..=>false
 | .IfExp ..=>false
 | .Compare ..=>false
 | _=>true
noncomputable abbrev Dl.inner (D:Dl) (x:Str) (sc:Scope):Dl:=⟨relN D.sc sc.names,nsC D.ns sc.names x,D.mts⟩
noncomputable def toE (T:Tb) (G:Gm) (Φ:FT) (hot:Bool):Nat→Dl→Expr→DE
 | 0,_,_=>badE
 | n+1,D,e=>match e with
  | .Constant k _ _=>orE (constA k) cstE
  | .Name x _=>nameE T D x
  | .BinOp l op r p=>binE (mtAt D p) op (toE T G Φ hot n D l) (toE T G Φ hot n D r)
  | .UnaryOp op x _=>(match op with
   | .USub=>negE (toE T G Φ hot n D x)
   | .Not=>ntE (toE T G Φ hot n D x)
   | _=>badE)
  | .BoolOp op es _=>bopE (op == .And) (es.map (toE T G Φ hot n D))
  | .Compare l ops rs _=>if rs.all notSet && decide (ops.length=rs.length) then cmpE (toE T G Φ hot n D l) ops (rs.map (toE T G Φ hot n D)) else badE
  | .Call f args ks p=>if ks.isEmpty then altE (nameOf f) (fun x=>nameCall T G Φ hot D x.1 p args (args.map (toE T G Φ hot n D)))
    (orE (attOf f) fun y=>attrCall T G Φ y.1 (toE T G Φ hot n D y.1) y.2.1 (y.2.2.endLine == p.line) args (args.map (toE T G Φ hot n D))) else badE
  | .Attribute o x _=>if plainBase o then orE (ixOf x T.an 0) fun k=>attrE k (toE T G Φ hot n D o) else badE
  | .Subscript o i p=>altE (slOf i) (fun y=>slcE (mtAt D p) (toE T G Φ hot n D o) ((y.1.map (toE T G Φ hot n D)).getD (cstE .none)) ((y.2.1.map (toE T G Φ hot n D)).getD (cstE .none)) ((y.2.2.1.map (toE T G Φ hot n D)).getD (cstE .none)))
   (subE (toE T G Φ hot n D o) (toE T G Φ hot n D i))
  | .List es p=>if es.all notStar then lstE (mtAt D p) (es.map (toE T G Φ hot n D)) else badE
  | .Tuple es _ _=>if es.all notStar then tupE (es.map (toE T G Φ hot n D)) else badE
  | .Dict ks vs _=>(match ks,vs with
   | [],[]=>dct0E
   | [some k],[v]=>dct1E (toE T G Φ hot n D k) (toE T G Φ hot n D v)
   | _,_=>badE)
  | .ListComp elt gens sc p=>orE (genOf gens) fun g=>if decide (g.2.is_async=0) && (notSet g.2.iter && compOK D g.1.1 sc && decide (g.2.ifs.length≤1)) then
     compE hot (mtAt D p) (toE T G Φ hot n (D.inner g.1.1 sc) elt) (toE T G Φ hot n D g.2.iter) ((g.2.ifs.head?.map (toE T G Φ hot n (D.inner g.1.1 sc))).getD (cstE (.bool true))) else badE
  | _=>badE
theorem Zb1 {e:Expr} {x:Str×Pos} (h:nameOf e=some x):e=.Name x.1 x.2:=by
 cases e with
 | Name x p=>cases h; rfl
 | _=>exact Zad h
theorem Zhr {e:Expr} {x:Expr×Str×Pos} (h:attOf e=some x):e=.Attribute x.1 x.2.1 x.2.2:=by
 cases e with
 | Attribute o m p=>cases h; rfl
 | _=>exact Zad h
theorem ZnC {e:Expr} {x:Option Expr×Option Expr×Option Expr×Pos} (h:slOf e=some x):e=.Slice x.1 x.2.1 x.2.2.1 x.2.2.2:=by
 cases e with
 | Slice a b c p=>cases h; rfl
 | _=>exact Zad h
theorem ZnD {e:Expr} (h:slOf e=none):notSlice e=true:=by
 cases e with
 | Slice a b c p=>cases h
 | _=>rfl
theorem ZhJ {l:List Comprehension} {g:(Str×Pos)×Comprehension} (h:genOf l=some g):l=[⟨.Name g.1.1 g.1.2,g.2.iter,g.2.ifs,g.2.is_async⟩]:=by
 match l,h with
 | [⟨t,it,ifs,a⟩],h =>
  refine x1_2 (oms h) fun x h1 h=>?_
  cases h
  obtain rfl:t=_:=Zb1 h1
  rfl
theorem ZjJ {α:Type} [BEq α] [LawfulBEq α] {x:α}:∀ (l:List α) (i j:Nat),ixOf x l i=some j→∃ k,j=i+k∧l[k]?=some x
 | [],_,_,h=>nomatch h
 | o::r,i,j,h=>by
  have h:(if (o == x)=true then some i else ixOf x r (i+1))=some j:=h
  split at h
  ·rename_i q; cases h; exact ⟨0,rfl,by simpa using q⟩
  ·refine x1_2 (ZjJ r (i+1) j h) fun k e h=>?_
   exact ⟨k+1,by lia,h⟩
theorem ZbF {α:Type} [BEq α] [LawfulBEq α] {x:α} {l:List α} {j:Nat} (h:ixOf x l 0=some j):l[j]?=some x:=by
 refine x1_2 (ZjJ l 0 j h) fun k e h=>?_
 rw [e,Nat.zero_add]; exact h
theorem Zby {β:Type} {x:Str} {b:β}:∀ {l:List (Str×β)},l.lookup x=some b→(x,b)∈l
 | [],h=>nomatch h
 | y::r,h=>by
  rw [List.lookup_cons] at h
  split at h
  ·rename_i q; rw [beq_iff_eq] at q; cases h; rw [q]; exact .head _
  ·exact .tail _ (Zby h)
section
variable {C:Cx} {G:Gm} {Φ:FT} {env:Env} {D:Dl}
theorem ZdA {ns:List (Option Str)} {b:Bool} {x:DE} {e:Expr} (h:b=true→Snd C env ns x e):Snd C env ns (if b=true then x else badE) e:=by
 split
 ·exact h ‹_›
 ·exact Zes
theorem ZiR {β:Type} {ns:List (Option Str)} {o:Option β} {f:β→DE} {g:DE} {e:Expr} (h:∀ b,o=some b→Snd C env ns (f b) e) (h':o=none→Snd C env ns g e):Snd C env ns (altE o f g) e:=by
 cases o with
 | none=>exact h' rfl
 | some b=>exact h b rfl
theorem Zb3 {β:Type} {ns:List (Option Str)} {o:Option β} {f:β→DE} {e:Expr} (h:∀ b,o=some b→Snd C env ns (f b) e):Snd C env ns (orE o f) e:=by
 cases o with
 | none=>exact Zes
 | some b=>exact h b rfl
theorem Zc2 {x:Str} (he:env.scope.names=D.sc) (h:glob D x=true):env.kindOf x=some .globalImplicit∧(x == ("__debug__" : Str))=false∧x ≠ "__name__" := by
 unfold glob at h
 simp only [qBt,Bool.not_eq_true',beq_iff_eq] at h
 obtain ⟨⟨a,b⟩,c⟩:=h
 exact ⟨by unfold Env.kindOf; rw [he]; exact a,b,by simpa using c⟩
theorem Zi5 {x:Str} {sc:Scope} (he:env.scope.names=D.sc) (h:compOK D x sc=true):CompAt env x sc:=by
 unfold compOK at h
 simp only [qBt,beq_iff_eq,List.all_eq_true,bne_iff_ne,Bool.or_eq_true] at h
 refine w5 h fun h1 h3 h4 h5 h6=>?_
 refine ⟨h1,h3,h4,fun y hy q=>(h5 y hy).resolve_left fun z=>z q,fun y hy q=>?_⟩
 unfold Env.kindOf
 rw [he]
 rcases h6 y hy with (z | z) | z
 ·exact absurd q z
 ·exact .inl z
 ·exact .inr z
theorem ZlC (Y:Fit C.S G) {x:Str} {p:Pos} (he:env.scope.names=D.sc):Snd C env D.ns (nameE C.S.T D x) (.Name x p):=by
 unfold nameE
 split
 ·exact Zes
 ·rename_i q
  simp only [Bool.or_eq_true,not_or,Bool.not_eq_true] at q
  split
  ·rename_i i e; exact ZnR (ZbF e) q.1 q.2
  ·refine ZdA fun h=>Zb3 fun i hi=>?_
   obtain ⟨g1,g2,g3⟩:=Zc2 he h
   obtain ⟨t,e⟩:=Y.gi x i (Zby hi)
   exact ZoL g1 g2 e
theorem all_cons {α:Type} {p:α→Prop} {a:α} {l:List α} (h:p a) (t:∀ x∈l,p x):∀ x∈a::l,p x:=fun x hx=>by
 cases hx with
 | head=>exact h
 | tail _ hx=>exact t x hx
theorem ZgF {α:Type} {p:α→Prop}:∀ x∈([]:List α),p x:=fun _ h=>nomatch h
theorem Zn3 {mt:Bool}:∀ y∈biTab mt,bootBuiltins y.1=some (biV y.2)∧y.1∈biNames :=
 all_cons ⟨by kernel_rfl,show ("len" : Str)∈biNames by decide⟩ (all_cons ⟨by kernel_rfl,show ("range" : Str)∈biNames by decide⟩ (all_cons ⟨by kernel_rfl,show ("list" : Str)∈biNames by decide⟩ (all_cons ⟨by kernel_rfl,show ("min" : Str)∈biNames by decide⟩ (all_cons ⟨by kernel_rfl,show ("max" : Str)∈biNames by decide⟩ (all_cons ⟨by kernel_rfl,show ("sum" : Str)∈biNames by decide⟩ (all_cons ⟨by kernel_rfl,show ("int" : Str)∈biNames by decide⟩ (all_cons ⟨by kernel_rfl,show ("sorted" : Str)∈biNames by decide⟩ ZgF)))))))
theorem Zn4:∀ y∈bmTab,y.2.name=y.1:=all_cons rfl (all_cons rfl (all_cons rfl (all_cons rfl (all_cons rfl ZgF))))
theorem ZoT {T:Tb}:∀ y∈tyTab,tyN T y.2=some y.1:=all_cons rfl (all_cons rfl (all_cons rfl (all_cons rfl (all_cons rfl ZgF))))
theorem Zo9 {T:Tb} (he:env.scope.names=D.sc) {e:Expr} {ty:Ty} (h:tyE D e=some ty):∃ x p,e=.Name x p∧env.kindOf x=some .globalImplicit∧(x == ("__debug__" : Str))=false∧x ≠ "__name__" ∧ tyN T ty=some x:=by
 obtain ⟨y,h1,h⟩:=qOb h
 split at h
 ·rename_i q
  refine x0_3 (Zc2 he q) fun g1 g2 g3=>?_
  exact ⟨y.1,y.2,Zb1 h1,g1,g2,g3,ZoT _ (Zby h)⟩
 ·cases h
variable {d:Nat}
theorem Zf7 (Y:Fit C.S G) (F:FOK C.S C.hot d Φ) (hd:d+1≤C.d) {f:Expr→DE} (h:∀ e,Snd2 C env D.ns (f e) e) (he:env.scope.names=D.sc) {x:Str} {args:List Expr} {p p':Pos} :
  Snd C env D.ns (nameCall C.S.T G Φ C.hot D x p args (args.map f)) (.Call (.Name x p') args [] p):=by
 unfold nameCall
 apply ZdA
 intro q
 rw [qBt] at q
 obtain ⟨g1,g2,g3⟩:=Zc2 he q.2
 split
 ·rename_i q1
  rw [beq_iff_eq] at q1
  subst q1
  rcases args with _ | ⟨a,_ | ⟨t,_ | ⟨_,_⟩⟩⟩<;>first | exact Zes | skip
  refine Zb3 fun ty hty=>?_
  refine x2_5 (Zo9 (T:=C.S.T) he hty) fun y py e1 k1 k2 k3 k4=>?_
  subst e1
  exact ZnK Y g1 (h a).1 (by have:=q.1; rw [List.all_cons,qBt] at this; exact this.1) k1 k2 k3 k4
 ·split
  ·rename_i b hb
   obtain ⟨h1,h2⟩:bootBuiltins x=some (biV b)∧x∈biNames:=Zn3 _ (Zby hb)
   exact ZoK Y h g1 g2 g3 h2 h1 q.1
  ·split
   ·rename_i i hi; exact Zl5 Y F (Nat.le_of_succ_le hd) h g1 g2 (ZbF hi) q.1
   ·exact Zb3 fun c hc=>ZnN Y F hd h g1 g2 (ZbF hc) q.1
theorem ZfN (Y:Fit C.S G) (F:FOK C.S C.hot d Φ) (hd:d+1≤C.d) {f:Expr→DE} (h:∀ e,Snd2 C env D.ns (f e) e) {o:Expr} {m:Str} {ap:Pos} {args:List Expr} {p:Pos} :
  Snd C env D.ns (attrCall C.S.T G Φ o (f o) m (ap.endLine == p.line) args (args.map f)) (.Call (.Attribute o m ap) args [] p):=by
 unfold attrCall
 refine ZdA fun q=>?_
 simp only [qBt,decide_eq_true_eq] at q
 obtain ⟨⟨⟨q1,q2⟩,q3⟩,q4⟩:=q
 split
 ·rename_i k hk; exact ZoN Y F (Nat.le_of_succ_le hd) h (ZbF hk) q1 q2 q4 q3
 ·refine Zb3 fun b hb=>?_
  obtain rfl:b.name=m:=Zn4 _ (Zby hb)
  exact ZoM h q1 q2 q4 q3
theorem val2 {ns:List (Option Str)} {f:DE} {e:Expr} (h:Snd C env ns f e) (hp:plainT e=true):Snd2 C env ns f e :=
 ⟨h,ZiJ h (Zf5 (fun _ _ q=>by rw [q] at hp; cases hp) (fun _ _ _ q=>by rw [q] at hp; cases hp) (fun _ _ _ _ q=>by rw [q] at hp; cases hp) (fun _ _ _ _ q=>by rw [q] at hp; cases hp))⟩
theorem Zic {T:Tb} {hot:Bool} {n:Nat} {elt:Expr} {gens:List Comprehension} {sc:Scope} {p:Pos}:toE T G Φ hot (n+1) D (.ListComp elt gens sc p)=orE (genOf gens) fun g=>if (decide (g.2.is_async=0) && (notSet g.2.iter && compOK D g.1.1 sc && decide (g.2.ifs.length≤1)))=true then
  compE hot (mtAt D p) (toE T G Φ hot n (D.inner g.1.1 sc) elt) (toE T G Φ hot n D g.2.iter) ((g.2.ifs.head?.map (toE T G Φ hot n (D.inner g.1.1 sc))).getD (cstE (.bool true))) else badE:=rfl
structure CompSnd (C:Cx) (env:Env) (ns:List (Option Str)) (elt it cond:DE) (elt' it':Expr) (ifs:List Expr) (x:Str) (sc:Scope):Prop where
 itr:Snd C env ns it it'
 nset:notSet it'=true
 names:CompAt env x sc
 item:∀ pv (env':Env),env'.scope.names=relN env.scope.names sc.names→Snd (C.withPv pv) env' (nsC ns sc.names x) elt elt'
 tests:∀ pv (env':Env),env'.scope.names=relN env.scope.names sc.names→TestsOK (C.withPv pv) env' (nsC ns sc.names x) cond ifs
theorem Zi9 {n:Nat} {x:Str} {sc:Scope} {it elt:Expr} {ifs:List Expr} (he:env.scope.names=D.sc) (ih:∀ pv (D:Dl) (env:Env) (e:Expr),env.scope.names=D.sc→Snd2 (C.withPv pv) env D.ns (toE C.S.T G Φ C.hot n D e) e)
  (h:(notSet it && compOK D x sc && decide (ifs.length≤1))=true):CompSnd C env D.ns (toE C.S.T G Φ C.hot n (D.inner x sc) elt) (toE C.S.T G Φ C.hot n D it) ((ifs.head?.map (toE C.S.T G Φ C.hot n (D.inner x sc))).getD (cstE (.bool true))) elt it ifs x sc:=by
 rw [qBt,qBt,decide_eq_true_eq] at h
 refine ⟨(ih C.pv D env it he).1,h.1.1,Zi5 he h.1.2,fun pv env' he'=>(ih pv (D.inner x sc) env' elt (by rw [he',he])).1,fun pv env' he'=>?_⟩
 rcases ifs with _ | ⟨c,_ | ⟨_,_⟩⟩
 ·exact ZkO
 ·exact ZkP (ih pv (D.inner x sc) env' c (by rw [he',he])).2
 ·have:=h.2; simp at this
theorem ZgA:∀ (n:Nat) {C:Cx} (Y:Fit C.S G) (F:FOK C.S C.hot d Φ) (hd:d+1≤C.d) (D:Dl) (env:Env) (e:Expr),env.scope.names=D.sc→Snd2 C env D.ns (toE C.S.T G Φ C.hot n D e) e
 | 0,_,_,_,_,_,_,_,_=>Zhs
 | n+1,C,Y,F,hd,D,env,e,he=>by
  have ih:∀ e,Snd2 C env D.ns (toE C.S.T G Φ C.hot n D e) e:=fun e=>ZgA n Y F hd D env e he
  have v:∀ {y:DE} {e:Expr},Snd C env D.ns y e→plainT e=true→Snd2 C env D.ns y e:=val2
  cases e with
  | UnaryOp op x p =>
   cases op with
   | USub=>exact v (ZnM (ih x).1) rfl
   | Not=>exact ⟨ZoO (ih x).1,ZnG (ih x).2⟩
   | _=>exact Zhs
  | BoolOp op es p =>
   have e:op=opOf (op == .And):=by cases op<;>rfl
   show Snd2 C env D.ns (bopE (op == .And) _) _
   rw [congrArg (fun o=>Expr.BoolOp o es p) e]
   exact ZnI ih
  | Compare l ops rs p =>
   show Snd2 C env D.ns (if (rs.all notSet && decide (ops.length=rs.length))=true then cmpE (toE C.S.T G Φ C.hot n D l) ops (rs.map (toE C.S.T G Φ C.hot n D)) else badE) _
   split
   ·rename_i q
    rw [qBt,decide_eq_true_eq] at q
    exact ZnJ ih q.1 q.2
   ·exact Zhs
  | Constant k kd p=>exact v (Zb3 fun a ha=>ZkC ha) rfl
  | Name x p=>exact v (ZlC Y he) rfl
  | BinOp l op r p=>exact v (ZnH (ih l).1 (ih r).1) rfl
  | Call f args ks p =>
   refine v ?_ rfl
   refine ZdA fun q=>?_
   rw [List.isEmpty_iff] at q
   subst q
   refine ZiR (fun x hx=>?_) fun _=>Zb3 fun y hy=>?_
   ·rw [Zb1 hx]; exact Zf7 Y F hd ih he
   ·rw [Zhr hy]; exact ZfN Y F hd ih
  | Attribute o x p =>
   refine v ?_ rfl
   exact ZdA fun q=>Zb3 fun k hk=>Zl4 Y (ih o).1 (ZbF hk) q
  | Subscript o i p =>
   refine v ?_ rfl
   refine ZiR (fun x hx=>?_) fun hn=>ZnP (ih o).1 (ih i).1 (ZnD hn)
   rw [ZnC hx]; exact ZnO (ih o).1 (Zhe ih _) (Zhe ih _) (Zhe ih _)
  | List es p =>
   refine v ?_ rfl
   exact ZdA fun q=>ZnL ih q
  | Tuple es k p =>
   refine v ?_ rfl
   exact ZdA fun q=>ZnQ ih q
  | Dict ks vs p =>
   refine v ?_ rfl
   rcases ks with _ | ⟨_ | k,_ | ⟨_,_⟩⟩<;>rcases vs with _ | ⟨w,_ | ⟨_,_⟩⟩<;>first | exact Zes | exact Zl7 | exact Zl8 (ih k).1 (ih w).1
  | ListComp elt gens sc p =>
   refine v ?_ rfl
   refine Zb3 fun g hg=>ZdA fun q=>?_
   rw [qBt,decide_eq_true_eq] at q
   rw [ZhJ hg,q.1]
   have Z:=Zi9 (C:=C) (G:=G) (Φ:=Φ) (elt:=elt) he (fun pv D env e he=>ZgA n (C:=C.withPv pv) Y F hd D env e he) q.2
   exact fun {ρ s M H} st=>Zl6 Z.itr Z.nset Z.names Z.item Z.tests st
  | _=>exact Zhs
end
noncomputable def notTup:Expr→Bool
 | .Tuple ..=>false
 | _=>true
noncomputable def isLC:Expr→Bool
 | .ListComp ..=>true
 | _=>false
noncomputable def asgE (t e:Expr):Bool:=notComp e && notTup e || (nameOf t).isSome && (notComp e || isLC e)
noncomputable def subOf:Expr→Option (Expr×Expr×Pos)
 | .Subscript o i p=>some (o,i,p)
 | _=>none
noncomputable def callOf:Expr→Option (Expr×List Expr×List Keyword×Pos)
 | .Call f a k p=>some (f,a,k,p)
 | _=>none
noncomputable def constOf:Expr→Option (Const×Nat×Pos)
 | .Constant k n p=>some (k,n,p)
 | _=>none
noncomputable def isAdd:Operator→Bool
 | .Add=>true
 | _=>false
noncomputable def stIx (D:Dl) (x:Str):Option Nat:=if D.sc.lookup x == some .local || D.sc.lookup x == some .cell then ixOf (some x) D.ns 0 else none
noncomputable def stIxs (D:Dl):List Expr→Option (List (Str×Nat×Pos))
 | []=>some []
 | .Name x p::r=>(stIx D x).bind fun i=>(stIxs D r).map ((x,i,p)::·)
 | _=>none
noncomputable def tgE (D:Dl):Expr→Option Tg
 | .Name x _=>(stIx D x).map .one
 | .Tuple es _ _=>(stIxs D es).map fun xs=>.many (xs.map (·.2.1))
 | _=>none
noncomputable def orS {β:Type} (o:Option β) (f:β→DS):DS:=match o with
 | some b=>f b
 | none=>badS
noncomputable def altS {β:Type} (o:Option β) (f:β→DS) (g:DS):DS:=match o with
 | some b=>f b
 | none=>g
noncomputable def raiseOf (e:Expr):Option (Str×Const):=(callOf e).bind fun c=>if c.2.2.1.isEmpty then (match c.2.1 with
 | [a]=>(nameOf c.1).bind fun x=>(constOf a).map fun k=>(x.1,k.1)
 | _=>none) else none
noncomputable def raiseT (T:Tb) (hot:Bool) (D:Dl) (e c:Option Expr):DS:=match c with
 | some _=>badS
 | none=>orS (e.bind raiseOf) fun y=>if glob D y.1 && (constA y.2).isSome then orS (ixOf y.1 T.exs 0) fun i=>raiseS hot i else badS
noncomputable def nameJ:Option Str→Option (Option Nat)
 | none=>some none
 | some _=>none
noncomputable def toHs (T:Tb) (f:Stmt→DS) (D:Dl):List ExceptHandler→Option (List DH)
 | []=>some []
 | .ExceptHandler ty nm b _::rest=>(ty.bind nameOf).bind fun x=>if glob D x.1 && !b.isEmpty then (ixOf x.1 T.exs 0).bind fun c=>(nameJ nm).bind fun j=>(toHs T f D rest).map fun r=>(c,j,seqS (b.map f))::r else none
noncomputable def tryT (hot:Bool) (G:Gm) (b:DS) (hs:Option (List DH)) (l:List ExceptHandler) (els fin:List Stmt):DS:=if !l.isEmpty && els.isEmpty && fin.isEmpty then orS hs fun hs=>tryS hot G b hs else badS
noncomputable def whileFuel:Nat:=Classical.choose (⟨1000000,Nat.le_refl _⟩:∃ n:Nat,1000000≤n)
theorem ZgB:1000000≤whileFuel:=Classical.choose_spec (⟨1000000,Nat.le_refl _⟩:∃ n:Nat,1000000≤n)
noncomputable def toS (T:Tb) (G:Gm) (Φ:Bool→FT):Nat→Bool→Dl→Stmt→DS
 | 0,_,_,_=>badS
 | n+1,hot,D,t=>match t with
  | .Expr e _=>if notComp e then exprS (toE T G (Φ hot) hot 60 D e) else badS
  | .Assign ts e _=>(match ts with
   | [t]=>altS (subOf t) (fun y=>setItemS (toE T G (Φ hot) hot 60 D y.1) (toE T G (Φ hot) hot 60 D y.2.1) (toE T G (Φ hot) hot 60 D e))
    (altS (attOf t) (fun y=>orS (ixOf y.2.1 T.an 0) fun k=>setAttrS k (toE T G (Φ hot) hot 60 D y.1) (toE T G (Φ hot) hot 60 D e))
    (if asgE t e then orS (tgE D t) fun g=>assignS hot g (toE T G (Φ hot) hot 60 D e) else badS))
   | _=>badS)
  | .AugAssign t op e _=>orS (subOf t) fun y=>if isAdd op && notSlice y.2.1 then augS (toE T G (Φ hot) hot 60 D y.1) (toE T G (Φ hot) hot 60 D y.2.1) (toE T G (Φ hot) hot 60 D e) else badS
  | .Return v _=>retS ((v.map (toE T G (Φ hot) hot 60 D)).getD (cstE .none))
  | .Pass _=>passS
  | .If t b o _=>ifS (toE T G (Φ hot) hot 60 D t) (seqS (b.map (toS T G Φ n hot D))) (seqS (o.map (toS T G Φ n hot D)))
  | .For t it b els _=>if notSet it && els.isEmpty then orS (tgE D t) fun g=>forS hot g (toE T G (Φ hot) hot 60 D it) (seqS (b.map (toS T G Φ n hot D))) else badS
  | .Raise e c _=>raiseT T hot D e c
  | .While t b els _=>if els.isEmpty then whileS (toE T G (Φ hot) hot 60 D t) (seqS (b.map (toS T G Φ n hot D))) whileFuel else badS
  | .Try b hs els fin _=>tryT hot G (seqS (b.map (toS T G Φ n hot D))) (toHs T (toS T G Φ n true D) D hs) hs els fin
  | _=>badS
section
variable {C:Cx} {G:Gm} {env:Env} {D:Dl}
theorem ZbJ {ns:List (Option Str)} {t:Stmt}:SndS C env ns badS t:=fun _=>trivial
theorem ZcD {ns:List (Option Str)} {b:Bool} {x:DS} {t:Stmt} (h:b=true→SndS C env ns x t):SndS C env ns (if b=true then x else badS) t:=by
 split
 ·exact h ‹_›
 ·exact ZbJ
theorem Zho {β:Type} {ns:List (Option Str)} {o:Option β} {f:β→DS} {g:DS} {t:Stmt} (h:∀ b,o=some b→SndS C env ns (f b) t) (h':SndS C env ns g t):SndS C env ns (altS o f g) t:=by
 cases o with
 | none=>exact h'
 | some b=>exact h b rfl
theorem Zh8 {e:Expr} {x:Expr×Expr×Pos} (h:subOf e=some x):e=.Subscript x.1 x.2.1 x.2.2:=by
 cases e with
 | Subscript o m p=>cases h; rfl
 | _=>exact Zad h
theorem ZiY {e:Expr} {x:Expr×List Expr×List Keyword×Pos} (h:callOf e=some x):e=.Call x.1 x.2.1 x.2.2.1 x.2.2.2:=by
 cases e with
 | Call o m k p=>cases h; rfl
 | _=>exact Zad h
theorem Zik {e:Expr} {x:Const×Nat×Pos} (h:constOf e=some x):e=.Constant x.1 x.2.1 x.2.2:=by
 cases e with
 | Constant o m p=>cases h; rfl
 | _=>exact Zad h
theorem Zm1 {e:Expr} (h:isLC e=true):∃ a b c d,e=.ListComp a b c d:=by
 cases e with
 | ListComp a b c d=>exact ⟨a,b,c,d,rfl⟩
 | _=>exact Zco h
theorem Zlq {e:Operator} (h:isAdd e=true):e=.Add:=by
 cases e with
 | Add=>rfl
 | _=>exact Zco h
theorem ZiB {e:Expr} {y:Str×Const} (h:raiseOf e=some y):∃ np kd kp cp,e=.Call (.Name y.1 np) [.Constant y.2 kd kp] [] cp:=by
 obtain ⟨⟨f,as,ks,cp⟩,h1,h⟩:=qOb h
 rw [ZiY h1]
 have h:(if ks.isEmpty=true then (match as with | [a]=>(nameOf f).bind fun x=>(constOf a).map fun k=>(x.1,k.1) | _=>none) else none)=some y:=h
 split at h
 ·rename_i q
  rw [List.isEmpty_iff] at q
  subst q
  rcases as with _ | ⟨a,_ | ⟨_,_⟩⟩<;>first | exact Zad h | skip
  refine x1_2 (qOb h) fun x h2 h=>?_
  refine x1_2 (oms h) fun k h3 h=>?_
  cases h
  rw [Zb1 h2,Zik h3]
  exact ⟨_,_,_,_,rfl⟩
 ·cases h
theorem ZbI {β:Type} {ns:List (Option Str)} {o:Option β} {f:β→DS} {t:Stmt} (h:∀ b,o=some b→SndS C env ns (f b) t):SndS C env ns (orS o f) t:=by
 cases o with
 | none=>exact ZbJ
 | some b=>exact h b rfl
theorem Zh7 {i:Nat} {x:Str} (he:env.scope.names=D.sc) (h:stIx D x=some i):TgOK env D.ns x i:=by
 unfold stIx at h
 split at h
 ·rename_i q
  rw [Bool.or_eq_true,beq_iff_eq,beq_iff_eq] at q
  refine ⟨ZbF h,?_⟩
  unfold Env.kindOf
  rw [he]; exact q
 ·cases h
theorem Zgs (he:env.scope.names=D.sc):∀ {es:List Expr} {xs:List (Str×Nat×Pos)},stIxs D es=some xs→es=xs.map (fun y=>.Name y.1 y.2.2)∧∀ y∈xs,TgOK env D.ns y.1 y.2.1
 | [],xs,h=>by cases h; exact ⟨rfl,fun _ q=>nomatch q⟩
 | e::r,xs,h=>by
  cases e with
  | Name x p =>
   refine x1_2 (qOb h) fun i h1 h=>?_
   refine x1_2 (oms h) fun l h2 h=>?_
   cases h
   obtain ⟨e1,e2⟩:=Zgs he h2
   refine ⟨by rw [e1]; rfl,fun y hy=>?_⟩
   cases hy with
   | head=>exact Zh7 he h1
   | tail _ hy=>exact e2 y hy
  | _=>exact Zad h
theorem ZkQ (he:env.scope.names=D.sc) {t:Expr} {g:Tg} (h:tgE D t=some g):TgAt env D.ns g t:=by
 cases t with
 | Name x p =>
  refine x1_2 (oms h) fun i h1 h=>?_
  cases h
  exact .one (Zh7 he h1)
 | Tuple es k p =>
  refine x1_2 (oms h) fun xs h1 h=>?_
  cases h
  obtain ⟨rfl,e2⟩:=Zgs he h1
  exact .many e2
 | _=>exact Zad h
theorem ZkJ {es:List Expr} {k:Nat} {q:Pos} {e:Expr} {env:Env} (h:notTup e=true):swappedStores [.Tuple es k q] e env=pure none:=by
 cases e<;>first | rfl | exact Zco h
theorem Zmb {t:Expr} {g:Tg} (h:tgE D t=some g):(∃ x p,t=.Name x p)∨∃ es k p,t=.Tuple es k p:=by
 cases t with
 | Name x p=>exact .inl ⟨x,p,rfl⟩
 | Tuple es k p=>exact .inr ⟨es,k,p,rfl⟩
 | _=>exact Zad h
theorem Zet {x:Str} {p:Pos} {e:Expr} {env:Env}:swappedStores [.Name x p] e env=pure none:=by
 cases e<;>rfl
variable {Φ:FT} {d:Nat}
theorem ZkZ (Y:Fit C.S G) (F:FOK C.S C.hot d Φ) (hd:d+1≤C.d) (he:env.scope.names=D.sc) {i:Nat} {x:Str} {px:Pos} {elt':Expr} {gens:List Comprehension} {sc:Scope} {pos p:Pos} (T:TgOK env D.ns x i) (h2:Snd2 C env D.ns (toE C.S.T G Φ C.hot 60 D (.ListComp elt' gens sc pos)) (.ListComp elt' gens sc pos)):SndS C env D.ns (assignS C.hot (.one i) (toE C.S.T G Φ C.hot 60 D (.ListComp elt' gens sc pos))) (.Assign [.Name x px] (.ListComp elt' gens sc pos) p):=fun {ρ s M H} st=>by
 cases hb:(env.blockKind == .function && env.kindOf x == some .local && px.line == pos.line && !(sc.names.any fun (n,k)=>n == x && (k == .local || k == .cell))) with
 | false=>exact ZcJ h2.1 (.one T) (Ze8.trans (congrArg pure hb)) Zet st
 | true =>
  cases hg:genOf gens with
  | none =>
   have e:toE C.S.T G Φ C.hot 60 D (.ListComp elt' gens sc pos)=badE:=by rw [Zic,hg]; rfl
   rw [e]; trivial
  | some g =>
   have e:toE C.S.T G Φ C.hot 60 D (.ListComp elt' gens sc pos)=if (decide (g.2.is_async=0) && (notSet g.2.iter && compOK D g.1.1 sc && decide (g.2.ifs.length≤1)))=true then
     compE C.hot (mtAt D pos) (toE C.S.T G Φ C.hot 59 (D.inner g.1.1 sc) elt') (toE C.S.T G Φ C.hot 59 D g.2.iter) ((g.2.ifs.head?.map (toE C.S.T G Φ C.hot 59 (D.inner g.1.1 sc))).getD (cstE (.bool true))) else badE:=by rw [Zic,hg]; rfl
   rw [e]
   split
   ·rename_i q
    rw [qBt,decide_eq_true_eq] at q
    have Z:=Zi9 (C:=C) (G:=G) (Φ:=Φ) (elt:=elt') he (fun pv D env e he=>ZgA 59 (C:=C.withPv pv) Y F hd D env e he) q.2
    rw [ZhJ hg,q.1]
    exact Zgp Z.itr Z.nset Z.names Z.item Z.tests T (Ze8.trans (congrArg pure hb)) st
   ·trivial
theorem Zn1 (Y:Fit C.S G) (F:FOK C.S C.hot d Φ) (hd:d+1≤C.d) (he:env.scope.names=D.sc) {g:Tg} {t e:Expr} {p:Pos} (ht:tgE D t=some g) (ha:asgE t e=true):SndS C env D.ns (assignS C.hot g (toE C.S.T G Φ C.hot 60 D e)) (.Assign [t] e p):=fun {ρ s M H} st=>by
 have T:=ZkQ he ht
 have h2:=ZgA 60 Y F hd D env e he
 unfold asgE at ha
 rcases Zmb ht with ⟨x,px,rfl⟩ | ⟨es,k,q,rfl⟩
 ·rcases Bool.eq_false_or_eq_true (notComp e) with hn | hn
  ·exact ZcJ h2.1 T (ZfF hn) Zet st
  ·rw [hn,Bool.false_and,Bool.false_or,Bool.false_or,qBt] at ha
   refine x4_1 (Zm1 ha.2) fun elt' gens sc pos e4'=>?_; subst e4'
   cases T with
   | one T=>exact ZkZ Y F hd he T h2 st
 ·rw [show (nameOf (.Tuple es k q)).isSome=false from rfl,Bool.false_and,Bool.or_false,qBt] at ha
  exact ZcJ h2.1 T (ZfF ha.1) (ZkJ ha.2) st
theorem Znw (Y:Fit C.S G) (he:env.scope.names=D.sc) {e c:Option Expr} {p:Pos}:SndS C env D.ns (raiseT C.S.T C.hot D e c) (.Raise e c p):=by
 cases c with
 | some c=>exact ZbJ
 | none =>
  refine ZbI fun y hy=>ZcD fun q=>ZbI fun i hi=>?_
  refine x1_2 (qOb hy) fun e e1' hy=>?_; subst e1'
  refine x4_1 (ZiB hy) fun np kd kp cp e4'=>?_; subst e4'
  rw [qBt] at q
  refine x0_3 (Zc2 he q.1) fun g1 g2 _=>?_
  obtain ⟨a,ha⟩:=Option.isSome_iff_exists.mp q.2
  exact ZiH Y (ZbF hi) (ZkC ha) rfl g1 g2
theorem ZkS (he:env.scope.names=D.sc) {f:Stmt→DS} (hf:∀ A t,SndS (C.warm A) env D.ns (f t) t):∀ {l:List ExceptHandler} {hs:List DH},toHs C.S.T f D l=some hs→SndH C env D.ns hs l
 | [],hs,h=>by cases h; exact .nil
 | .ExceptHandler ty nm b pos::rest,hs,h=>by
  refine x1_2 (qOb (show (ty.bind nameOf).bind _=some hs from h)) fun x hx h1=>?_
  refine x1_2 (qOb hx) fun e he' hx'=>?_
  rw [he',Zb1 hx']
  clear h hx
  split at h1<;>first | exact Zad h1 | skip
  rename_i q
  rw [qBt] at q
  refine x0_3 (Zc2 he q.1) fun g1 g2 _=>?_
  refine x1_2 (qOb h1) fun c hc h2=>?_
  refine x1_2 (qOb h2) fun j hj h3=>?_
  refine x1_2 (oms h3) fun r hr h4=>?_
  cases h4
  clear h1 h2 h3
  cases b with
  | nil=>exact Zco q.2
  | cons b₀ suite=>?_
  refine .cons (ZbF hc) g1 g2 ?_ (fun A=>Zb7 (hf A) (b₀::suite)) (ZkS he hf hr)
  cases nm with
  | none=>cases hj; trivial
  | some x=>cases hj
theorem Zo8 (Y:Fit C.S G) (hh:HeadAt C env) {ns:List (Option Str)} {b:DS} {b':List Stmt} {o:Option (List DH)} {hs:List ExceptHandler} {els fin:List Stmt} {p:Pos} (hb:SndB C env ns b b') (h:∀ {l},o=some l→SndH C env ns l hs):SndS C env ns (tryT C.hot G b o hs els fin) (.Try b' hs els fin p):=by
 refine ZcD fun q=>ZbI fun l hl=>?_
 rw [qBt,qBt,List.isEmpty_iff,List.isEmpty_iff] at q
 obtain ⟨⟨q1,rfl⟩,rfl⟩:=q
 cases hs with
 | nil=>exact Zco q1
 | cons _ _=>exact Zl3 Y hh hb (h hl)
theorem Zid {Φ:Bool→FT} (he:env.scope.names=D.sc):∀ (n:Nat) {C:Cx} (Y:Fit C.S G) (F:∀ hot,FOK C.S hot d (Φ hot)) (hd:d+1≤C.d) (hh:HeadAt C env) (t:Stmt),SndS C env D.ns (toS C.S.T G Φ n C.hot D t) t
 | 0,_,_,_,_,_,_=>ZbJ
 | n+1,C,Y,F,hd,hh,t=>by
  have ih:∀ t,SndS C env D.ns (toS C.S.T G Φ n C.hot D t) t:=fun t=>Zid he n Y F hd hh t
  have eE:∀ e,Snd2 C env D.ns (toE C.S.T G (Φ C.hot) C.hot 60 D e) e:=fun e=>ZgA 60 Y (F C.hot) hd D env e he
  cases t with
  | Expr e p=>exact ZcD fun q=>Zkz (eE e).1 q
  | Assign ts e p =>
   rcases ts with _ | ⟨t,_ | ⟨_,_⟩⟩
   ·exact ZbJ
   ·refine Zho (fun y hy=>?_) (Zho (fun y hy=>?_) (ZcD fun q=>ZbI fun g hg=>Zn1 Y (F C.hot) hd he hg q))
    ·rw [Zh8 hy]; exact Zgr (eE _).1 (eE _).1 (eE e).1
    ·rw [Zhr hy]; exact ZbI fun k hk=>Zgq Y (ZbF hk) (eE _).1 (eE e).1
   ·exact ZbJ
  | AugAssign t op e p =>
   refine ZbI fun y hy=>ZcD fun q=>?_
   rw [qBt] at q
   rw [Zh8 hy,Zlq q.1]
   exact Zl0 (eE _).1 (eE _).1 (eE e).1 q.2
  | Return v p =>
   cases v with
   | none=>exact ZkB
   | some e=>exact Zl2 (eE e).1
  | Pass p=>exact ZkA
  | If t b o p=>exact ZnF (eE t).2 (Zb7 ih b) (Zb7 ih o)
  | For t it b els p =>
   refine ZcD fun q=>ZbI fun g hg=>?_
   rw [qBt,List.isEmpty_iff] at q
   obtain ⟨q1,rfl⟩:=q
   exact Zl1 hh (eE it).1 (ZkQ he hg) (fun pv=>Zb7 (fun t=>Zid he n (C:=C.withPv pv) Y F hd hh t) b) q1
  | Raise e c p=>exact Znw Y he
  | While t b els p =>
   refine ZcD fun q=>?_
   rw [List.isEmpty_iff] at q
   subst q
   exact ZiI (eE t).2 (Zb7 ih b)
  | Try b hs els fin p =>
   exact Zo8 Y hh (Zb7 ih b) fun q=>ZkS he (fun A t=>Zid he n (C:=C.warm A) Y F hd hh t) q
  | _=>exact ZbJ
end
theorem ZeV:∀ (ns:List Str) (vs:List Value),vs.length=ns.length→∀ n∈ns,((ns.zip vs).lookup n).isSome=true
 | [],_,_,n,h=>nomatch h
 | a::r,[],h,_,_=>by simp at h
 | a::r,v::vs,h,n,hn=>by
  simp only [List.zip_cons_cons,List.lookup_cons]
  cases q:n == a with
  | true=>rfl
  | false =>
   cases hn with
   | head=>simp at q
   | tail _ hn=>exact ZeV r vs (by simpa using h) n hn
theorem ZhH {α β:Type} {f g:α→Option β}:∀ (l:List α),(∀ x∈l,f x=g x)→l.filterMap f=l.filterMap g
 | [],_=>rfl
 | a::r,h=>by
  simp only [List.filterMap_cons]
  rw [h a (.head _),ZhH r fun x hx=>h x (.tail _ hx)]
theorem ZcX:∀ (ns:List Str) (vs:List Value),ns.Nodup→vs.length=ns.length→ns.filterMap (fun n=>((ns.zip vs).lookup n).map (n,·))=ns.zip vs
 | [],vs,_,h=>by simp
 | a::r,[],_,h=>by simp at h
 | a::r,v::vs,hn,h=>by
  obtain ⟨h1,h2⟩:=List.nodup_cons.mp hn
  simp only [List.zip_cons_cons,List.filterMap_cons,List.lookup_cons,beq_self_eq_true,Option.map_some]
  congr 1
  refine (ZhH r fun n hn'=>?_).trans (ZcX r vs h2 (by simpa using h))
  have:(n == a)=false:=by
   cases q:n == a with
   | false=>rfl
   | true=>rw [beq_iff_eq] at q; subst q; exact absurd hn' h1
  rw [this]
theorem Zix {names:List Str} {vals:List Value} {n:Nat} (hl:vals.length=names.length):((names.take n).filter fun x=>((names.zip vals).lookup x).isNone).isEmpty=true:=by
 rw [List.isEmpty_iff,List.filter_eq_nil_iff]
 intro x hx
 have:=ZeV names vals hl x (List.mem_of_mem_take hx)
 rw [Option.isNone_iff_eq_none]
 intro e
 rw [e] at this
 cases this
theorem Zii {fd:FuncData} {names:List Str} {vals:List Value} (h:plainPrm fd.params names=true) (hd:fd.defaults=.none) (hl:vals.length=names.length):bindArgs fd ⟨vals,[]⟩=pure (names.zip vals):=by
 obtain ⟨nm,qn,⟨po,ar,va,ko,kd,kw,df⟩,bo,sc,gl,cl,dfl,kwd⟩:=fd
 unfold plainPrm at h
 simp only [qBt,decide_eq_true_eq,List.isEmpty_iff,Option.isNone_iff_eq_none] at h
 obtain ⟨⟨⟨⟨⟨rfl,rfl⟩,rfl⟩,rfl⟩,rfl⟩,h6⟩:=h
 obtain rfl:dfl=.none:=hd
 have c1:¬ (decide (vals.length > (ar.map (·.arg)).length) && true)=true:=by rw [hl]; simp
 refine (if_neg c1).trans ?_
 refine (if_neg (fun q=>?_)).trans ?_
 ·rw [Bool.not_eq_true'] at q
  exact nomatch (Zix hl).symm.trans q
 ·have:=ZcX _ vals h6 hl
  simp only [List.drop_nil,List.map_nil,List.nil_append,List.append_nil]
  simp [-List.filterMap_map,this]
theorem Zlj {d:Data} {fd:FuncData} (h:funOf d=some fd):d=.func fd:=by
 cases d with
 | func fd=>cases h; rfl
 | _=>exact Zad h
theorem ZkI {d:FuncBody} {b:List Stmt} (h:stmsOf d=some b):d=.stmts b:=by
 cases d with
 | stmts b=>cases h; rfl
 | _=>exact Zad h
structure FdOK (K:Frag) (prm:List Str) (ns:List (Option Str)) (fd:FuncData) (body:List Stmt):Prop where
 glob:fd.globals=mainGlobals
 bns:fd.builtins=builtinsNs
 clo:fd.closure=[]
 code:codeIn K fd.code fd.qualname=true
 ppar:plainPrm fd.params prm=true
 dflt:fd.defaults=.none
 kind:fd.scope.kind=.function
 co:fd.scope.isCoroutine=false
 gen:fd.scope.isGenerator=false
 par:∀ x∈prm,fd.scope.names.lookup x=some .local∨fd.scope.names.lookup x=some .cell
 free:∀ y∈fd.scope.names,y.2≠.free
 ns1:ns.take prm.length=prm.map some
 ns2:(ns.filterMap id).Nodup
 ns3:prm.length≤ns.length
 bod:fd.body=.stmts body
theorem ZmT {K:Frag} {f:Addr} {prm:List Str} {ns:List (Option Str)} {r:List (Str×NameKind)×List Stmt} (h:fnAt K f prm ns=some r):∃ o fd,K.lookup f=some o∧o.data=.func fd∧fd.scope.names=r.1∧FdOK K prm ns fd r.2:=by
 refine x1_2 (qOb h) fun o e h=>?_
 refine x1_2 (qOb h) fun fd e1 h=>?_
 split at h
 ·rename_i q
  refine x1_2 (oms h) fun body eb h=>?_
  cases h
  unfold fdOK scopeOK nsOK at q
  simp only [qBt,decide_eq_true_eq,List.isEmpty_iff,beq_iff_eq,Bool.not_eq_true',List.all_eq_true,Bool.or_eq_true,bne_iff_ne] at q
  obtain ⟨⟨⟨⟨⟨⟨⟨a1,a2⟩,a3⟩,a4⟩,a5⟩,a6⟩,⟨⟨⟨⟨b1,b2⟩,b3⟩,b4⟩,b5⟩⟩,⟨⟨c1,c2⟩,c3⟩⟩:=q
  refine ⟨o,fd,e,Zlj e1,rfl,a1,a2,a3,a4,a5,?_,b1,b2,b3,b4,b5,c1,c2,c3,ZkI eb⟩
  cases q:fd.defaults<;>rw [q] at a6<;>first | rfl | cases a6
 ·cases h
theorem ZfP {kindOf:Str→Option NameKind} {x:Str}:∀ (ns:List Str) (vs:List Value) (m:Str→Option Value),x∉ns→bindL kindOf (ns.zip vs) m x=m x
 | [],_,_,_=>rfl
 | _::_,[],_,_=>rfl
 | n::r,v::vs,m,h=>by
  simp only [List.zip_cons_cons,bindL]
  rw [ZfP r vs _ fun q=>h (.tail _ q)]
  split
  ·have:x≠n:=fun q=>h (q▸.head _)
   simp [this]
  ·rfl
theorem ZfO {kindOf:Str→Option NameKind} {x:Str}:∀ (ns:List Str) (vs:List Value) (m:Str→Option Value),x∉ns→bindC kindOf (ns.zip vs) m x=m x
 | [],_,_,_=>rfl
 | _::_,[],_,_=>rfl
 | n::r,v::vs,m,h=>by
  simp only [List.zip_cons_cons,bindC]
  rw [ZfO r vs _ fun q=>h (.tail _ q)]
  split
  ·rfl
  ·have:x≠n:=fun q=>h (q▸.head _)
   simp [this]
theorem Zhu {kindOf:Str→Option NameKind} {x:Str} {v:Value} (hk:kindOf x=some .local):∀ (ns:List Str) (vs:List Value) (m:Str→Option Value) (i:Nat),ns.Nodup→ns[i]?=some x→vs[i]?=some v→bindL kindOf (ns.zip vs) m x=some v
 | [],_,_,_,_,h,_=>by simp at h
 | _::_,[],_,_,_,_,h=>by simp at h
 | n::r,u::vs,m,0,hn,h1,h2=>by
  simp at h1 h2
  subst h1; subst h2
  simp only [List.zip_cons_cons,bindL]
  rw [ZfP r vs _ (List.nodup_cons.mp hn).1,if_pos hk]
  simp
 | n::r,u::vs,m,i+1,hn,h1,h2=>by
  simp at h1 h2
  simp only [List.zip_cons_cons,bindL]
  exact Zhu hk r vs _ i (List.nodup_cons.mp hn).2 h1 h2
theorem Zht {kindOf:Str→Option NameKind} {x:Str} {v:Value} (hk:¬ kindOf x=some .local):∀ (ns:List Str) (vs:List Value) (m:Str→Option Value) (i:Nat),ns.Nodup→ns[i]?=some x→vs[i]?=some v→bindC kindOf (ns.zip vs) m x=some v
 | [],_,_,_,_,h,_=>by simp at h
 | _::_,[],_,_,_,_,h=>by simp at h
 | n::r,u::vs,m,0,hn,h1,h2=>by
  simp at h1 h2
  subst h1; subst h2
  simp only [List.zip_cons_cons,bindC]
  rw [ZfO r vs _ (List.nodup_cons.mp hn).1,if_neg hk]
  simp
 | n::r,u::vs,m,i+1,hn,h1,h2=>by
  simp at h1 h2
  simp only [List.zip_cons_cons,bindC]
  exact Zht hk r vs _ i (List.nodup_cons.mp hn).2 h1 h2
theorem ZkY {cs:List (Str×Addr)} (h:cs.Pairwise fun x y=>x.2≠y.2):∀ n n' c,(n,c)∈cs→(n',c)∈cs→n=n':=by
 induction cs with
 | nil=>intro n n' c h; cases h
 | cons a r ih =>
  obtain ⟨h1,h2⟩:=List.pairwise_cons.mp h
  intro n n' c m1 m2
  cases m1 with
  | head =>
   cases m2 with
   | head=>rfl
   | tail _ m2=>exact absurd rfl (h1 (n',_) m2)
  | tail _ m1 =>
   cases m2 with
   | head=>exact absurd rfl (h1 (n,_) m1)
   | tail _ m2=>exact ih h2 n n' c m1 m2
theorem Zgb:∀ {ns:List (Option Str)},(ns.filterMap id).Nodup→∀ (i j:Nat) (x:Str),ns[i]?=some (some x)→ns[j]?=some (some x)→i=j
 | [],_,i,j,x,h,_=>by simp at h
 | a::r,hn,i,j,x,h1,h2=>by
  have key:∀ {k:Nat},(a::r)[k+1]?=some (some x)→a=some x→False:=fun {k} h e=>by
   subst e
   simp only [List.filterMap_cons,id] at hn
   refine (List.nodup_cons.mp hn).1 ?_
   simp at h
   exact List.mem_filterMap.mpr ⟨some x,qMo h,rfl⟩
  have hn':(r.filterMap id).Nodup:=by
   cases a with
   | none=>simpa [List.filterMap_cons] using hn
   | some y=>simp only [List.filterMap_cons,id] at hn; exact (List.nodup_cons.mp hn).2
  match i,j with
  | 0,0=>rfl
  | 0,j+1=>simp at h1; exact (key h2 h1).elim
  | i+1,0=>simp at h2; exact (key h1 h2).elim
  | i+1,j+1=>simp at h1 h2; rw [Zgb hn' i j x h1 h2]
noncomputable def rho0 (args:List AV) (n:Nat):RE:=args.map some++List.replicate (n-args.length) none
noncomputable abbrev Cx.within (C:Cx) (env:Env):Cx:={ S:=C.S,A:=C.A.deeper env,fe:=env::C.fe,d:=C.d-1,hot:=C.hot,pv:=C.pv }
section
variable {C:Cx} {s s₁ s':Shared} {M M':Mp} {H H':AH} {f:Addr} {fd:FuncData}
theorem Zc0 {env:Env} {L b:Addr} (hf:env.frame=some L) (hb:b∈(C.within env).fs):b=L∨b∈C.fs:=by
 unfold Cx.fs at hb
 rw [List.filterMap_cons,hf] at hb
 cases hb with
 | head=>exact .inl rfl
 | tail _ hb=>exact .inr hb
theorem Zin {h:Heap} {b:Addr} (hb:h.objs.size≤b):h.get? b=none:=by
 cases q:h.get? b with
 | none=>rfl
 | some o=>exact absurd (Heap.lt_size q) (Nat.not_lt.mpr hb)
theorem Zlf {prm:List Str} {ns:List (Option Str)} {body:List Stmt} {args:List AV} {vals:List Value} (Y:FdOK C.S.K prm ns fd body) (L:Live C s.heap M) (R:Rep C.S C.pv s.heap M H) (rv:VRels (C.wd s.heap M) vals args) (hl:args.length=prm.length) (hd:0<C.d)
  (x:InCallC s (callEnvC fd s.heap.objs.size f).locals (bindL (callEnvC fd s.heap.objs.size f).kindOf (prm.zip vals) fun _=>none) (callEnvC fd s.heap.objs.size f).cells (bindC (callEnvC fd s.heap.objs.size f).kindOf (prm.zip vals) fun _=>none) s₁) :
  St (C.within (callEnvC fd s.heap.objs.size f)) (callEnvC fd s.heap.objs.size f) ns (rho0 args ns.length) s₁ M H:=by
 refine x2_2 (x.done) fun h' tk e2' hk=>?_; subst e2'
 have hL0:=Zaq s.heap
 have hc0:∀ n c,(n,c)∈(callEnvC fd s.heap.objs.size f).cells→s.heap.get? c=none:=fun n c hm=>Zin (Nat.le_of_lt (x.above n c hm))
 have hns:=x.toInCall.ns
 refine ⟨⟨?_,?_,fun b o e=>hk b o (L.stays b o e),fun b hb f'=>?_,L.new,L.handled,fun b hb=>?_,?_,?_,fun a ha=>?_,L.poff⟩,R.ext hk,_,(bindC (callEnvC fd s.heap.objs.size f).kindOf (prm.zip vals) fun _=>none),Y.kind,Y.glob,Y.bns,hns,fun a ha=>?_,Zgb Y.ns2,?_,?_,fun n c hc=>?_,?_,?_⟩
 ·show C.A.frames.map _=_
  rw [L.frames]; rfl
 ·refine Heap.FunFrames.cons (m:=_) (L:=s.heap.objs.size) ?_ rfl hns (L.base0 hL0) (L.funs.of_keeps fun b o hb _=>⟨o,hk b o hb,rfl⟩)
  show fd.scope.kind≠.module
  rw [Y.kind]; exact fun q=>nomatch q
 ·rcases Zc0 rfl hb with rfl | hb
  ·exact R.off hL0 f'
  ·exact L.off b hb f'
 ·rcases Zc0 rfl hb with rfl | hb
  ·obtain ⟨o,es,ep,h1,h2,_⟩:=hns; exact ⟨o,es,ep,h1,h2⟩
  ·obtain ⟨o,es,ep,h1,h2⟩:=L.dicts b hb; exact ⟨o,es,ep,hk b o h1,h2⟩
 ·show C.A.depth+1+(C.d-1)<recursionLimit
  have:=L.depth; lia -abstractProof
 ·show C.A.units+3+20*(C.d-1)+100<cLine
  have:=L.units; lia -abstractProof
 ·obtain ⟨o,ho⟩:=L.priv a ha
  exact ⟨o,hk a o ho⟩
 ·have h0:s.heap.get? a=none:=by
   rcases ha with rfl | ⟨n,hc⟩
   ·exact hL0
   ·exact hc0 n a (mem_of_lookup hc)
  exact ⟨R.off h0,L.base0 h0⟩
 ·unfold rho0
  rw [qLa,qLm,List.length_replicate]
  have:=Y.ns3; lia -abstractProof
 ·rintro y (hy | hy)
  ·have:=cellsFrom_some fd.scope.names (s.heap.objs.size+1) [] (.inl hy)
   exact Option.isSome_iff_exists.mp this
  ·exact absurd rfl (Y.free _ (mem_of_lookup hy))
 ·have hm:=mem_of_lookup hc
  have h0:=hc0 n c hm
  refine ⟨x.cell n c hc,fun q=>?_,Nat.ne_of_gt (x.above n c hm)⟩
  rcases Zc0 rfl q with rfl | q
  ·exact absurd (x.above n _ hm) (Nat.lt_irrefl _)
  ·exact L.fs0 h0 q
 ·intro n n' c h1 h2
  exact ZkY x.apart n n' c (mem_of_lookup h1) (mem_of_lookup h2)
 ·intro i y a h1 h2
  have hi:i<args.length:=by
   unfold rho0 at h2
   rw [List.getElem?_append] at h2
   split at h2
   ·rename_i q; simpa using q
   ·rw [List.getElem?_replicate] at h2
    split at h2<;>simp at h2
  have ha:args[i]?=some a:=by
   unfold rho0 at h2
   rw [qGl (by simpa using hi)] at h2
   simp at h2
   exact h2
  have hy:prm[i]?=some y:=by
   have:(ns.take prm.length)[i]?=some (some y):=by rw [List.getElem?_take,if_pos (by lia -abstractProof)]; exact h1
   rw [Y.ns1] at this
   simp at this
   exact this
  refine x1_2 (rv.get i ha) fun v hv r=>?_
  have hnd:prm.Nodup:=by
   have:=Y.ppar
   unfold plainPrm at this
   simp only [qBt,decide_eq_true_eq] at this
   exact this.2
  refine ⟨v,r.keep (ZdB hk),?_⟩
  rcases Y.par y (qMo hy) with q | q
  ·exact .inl ⟨q,Zhu q prm vals _ i hnd hy hv⟩
  ·have:=cellsFrom_some fd.scope.names (s.heap.objs.size+1) [] (.inl q)
   refine .inr ⟨.inl q,Option.isSome_iff_exists.mp this,Zht ?_ prm vals _ i hnd hy hv⟩
   show ¬ fd.scope.names.lookup y=some .local
   rw [q]; exact fun z=>nomatch z
variable {m cm:Str→Option Value}
theorem Zj4 (x:InCallC s (callEnvC fd s.heap.objs.size f).locals m (callEnvC fd s.heap.objs.size f).cells cm s₁):∀ b o,s.heap.get? b=some o→¬ OwnW (callEnvC fd s.heap.objs.size f) b:=by
 rintro b o e (rfl | ⟨n,hc⟩)
 ·exact absurd (Heap.lt_size e) (Nat.lt_irrefl _)
 ·exact absurd (Nat.lt_trans (Heap.lt_size e) (x.above n b (mem_of_lookup hc))) (Nat.lt_irrefl _)
theorem Zmi {b:Addr} {o:Obj} (e:s.heap.get? b=some o) (n:b∉C.fs):b∉(C.within (callEnvC fd s.heap.objs.size f)).fs:=fun q=>by
 rcases Zc0 rfl q with rfl | q
 ·exact absurd (Heap.lt_size e) (Nat.lt_irrefl _)
 ·exact n q
theorem ZoX {env:Env} {b:Addr} (h:b∈C.fs):b∈(C.within env).fs:=by
 unfold Cx.fs
 rw [List.filterMap_cons]
 split
 ·exact h
 ·exact .tail _ h
theorem Zfv (x:InCallC s (callEnvC fd s.heap.objs.size f).locals m (callEnvC fd s.heap.objs.size f).cells cm s₁)
  (y:Step (C.within (callEnvC fd s.heap.objs.size f)) (OwnW (callEnvC fd s.heap.objs.size f)) s₁ M s' M'):Step C noW s M s' M':=by
 have nW:=Zj4 x
 refine x2_2 (x.done) fun h' tk e2' hk=>?_; subst e2'
 exact ⟨fun b o e nf _ nfs=>y.keep b o (hk b o e) nf (nW b o e) (Zmi e nfs),fun b o e hb _=>y.slots b o (hk b o e) (ZoX hb) (nW b o e),fun b o e=>y.alive b o (hk b o e),y.pre,fun a fa=>(y.grow a fa).imp id fun q=>gone (fun b o e=>⟨o,hk b o e⟩) q,y.gens,y.os⟩
theorem ZjP {e D:Addr} {c:Nat} {B:Heap} (x:InCallC s (callEnvC fd s.heap.objs.size f).locals m (callEnvC fd s.heap.objs.size f).cells cm s₁)
  (y:Exn (C.within (callEnvC fd s.heap.objs.size f)) (OwnW (callEnvC fd s.heap.objs.size f)) s₁ M e c s' M' H' B) (hX:C.S.X c=some D) (hf:Fly B s'.heap e D .none):Exn C noW s M e c s' M' H' B:=by
 have nW:=Zj4 x
 have z:=Zfv x y.step
 refine x2_2 (x.done) fun h' tk e2' hk=>?_; subst e2'
 refine x1_2 (id y.flt) fun D' hX' fl=>?_
 exact ⟨fun b o e nf _ nfs=>y.keepB b o (hk b o e) nf (nW b o e) (Zmi e nfs),y.base,y.rep,⟨D,hX,fl.stays,fl.new,fl.funs.2.2,.inr ⟨_,hf,.inl rfl⟩⟩,z.slots,z.alive,z.pre,z.grow,z.gens,z.os,gone (fun b o e=>⟨o,hk b o e⟩) y.fresh⟩
set_option backward.match.sparseCases true in
theorem ZmF {G:Gm} {d n:Nat} {hot:Bool} {prm:List Str} {ns:List (Option Str)} {mts:List (Nat×Nat×Nat)} {r:List (Str×NameKind)×List Stmt} {Φ:Bool→FT} {S:Stat} {args:List AV} (h:fnAt S.K f prm ns=some r) (Y:Fit S G) (F:∀ hot,FOK S hot d (Φ hot)) (hd:d+2≤n) (hl:args.length=prm.length) :
  CallOK S hot n f args H (seqS (r.2.map (toS S.T G Φ 60 hot ⟨r.1,ns,mts⟩)) (rho0 args ns.length) H).done:=by
 intro C s M vals e1 e2 e3 L R rv
 subst e1 e2
 refine x2_4 (ZmT h) fun o fd ho hdata hnm Z=>?_
 have hroom:C.A.depth<recursionLimit:=by have:=L.depth; lia
 have go:∀ {Rf:Result→Shared→Prop},(∀ s₁,InCallC s (callEnvC fd s.heap.objs.size f).locals (bindL (callEnvC fd s.heap.objs.size f).kindOf (prm.zip vals) fun _=>none) (callEnvC fd s.heap.objs.size f).cells (bindC (callEnvC fd s.heap.objs.size f).kindOf (prm.zip vals) fun _=>none) s₁ →
   wpAny C.S.M (C.within (callEnvC fd s.heap.objs.size f)).A (execs r.2 (callEnvC fd s.heap.objs.size f)) (fun fl s'=>Rf (.ok (.ret (match fl with | .ret v=>v | _=>.none))) s')
    (fun e s'=>wpAny C.S.M (C.A.deeper (callEnvC fd s.heap.objs.size f)) (leaving (callEnvC fd s.heap.objs.size f) e) (fun _ s''=>Rf (.error e) s'') (fun e' s''=>Rf (.error e') s'') s') s₁)→codeAny C.S.M C.A (.call (.ref f) ⟨vals,[]⟩) Rf s:=fun {Rf} k =>
  codeAny_call_cells (body:=r.2) (binds:=prm.zip vals) hroom (L.K f o ho) hdata (C.S.hT.nolimit.keeps L.stays) (codeRec_of L.K Z.code) Z.bod (Zii Z.ppar Z.dflt (by rw [rv.1,hl])) Z.clo (fun y hy=>by
   rcases Z.par y.1 (List.of_mem_zip hy).1 with q | q
   ·exact .inl q
   ·exact .inr ⟨q,cellsFrom_some fd.scope.names (s.heap.objs.size+1) [] (.inl q)⟩) k Z.co Z.gen Z.kind
 have B:=fun s₁ (x:InCallC s (callEnvC fd s.heap.objs.size f).locals (bindL (callEnvC fd s.heap.objs.size f).kindOf (prm.zip vals) fun _=>none) (callEnvC fd s.heap.objs.size f).cells (bindC (callEnvC fd s.heap.objs.size f).kindOf (prm.zip vals) fun _=>none) s₁) =>
  Zb7 (fun t=>Zid (D:=⟨r.1,ns,mts⟩) (env:=callEnvC fd s.heap.objs.size f) (Φ:=Φ) hnm 60 (C:=C.within (callEnvC fd s.heap.objs.size f)) Y F (by show d+1≤C.d-1; lia) ⟨⟨_,rfl⟩,_,rfl⟩ t) r.2 (Zlf Z L R rv hl (by lia) x)
 generalize seqS (r.2.map (toS C.S.T G Φ 60 C.hot ⟨r.1,ns,mts⟩)) (rho0 args ns.length) H=ob at B
 cases ob with
 | bad=>trivial
 | next ρ' H'=>exact go fun s₁ x=>wpAny_mono (B s₁ x) (fun fl s' ⟨e,M',y,st'⟩=>by subst e; exact ⟨.none,rfl,M',Zfv x y,st'.rep,.none⟩) fun _ _ q=>q.elim
 | ret a H'=>exact go fun s₁ x=>wpAny_mono (B s₁ x) (fun fl s' z_27=>x3_4 z_27 fun v ρ' M' e y st' rv=>by subst e; exact ⟨v,rfl,M',Zfv x y,st'.rep,rv⟩) fun _ _ q=>q.elim
 | exc c ρ' H' =>
  refine go fun s₁ x=>wpAny_mono (B s₁ x) (fun _ _ q=>q.elim) fun ev s' z_28=>x3_3 z_28 fun e M' B' q y E=>?_
  subst q
  unfold leaving
  have fr:(C.within (callEnvC fd s.heap.objs.size f)).A.frames=some (C.within (callEnvC fd s.heap.objs.size f)).fe:=by
   show C.A.frames.map _=_
   rw [L.frames]; rfl
  refine wpAny_bind (Exn.noted (C:=C.within (callEnvC fd s.heap.objs.size f)) ⟨⟨_,rfl⟩,_,rfl⟩ fr y fun h' D L' hX hn hf hst hh hL z f' y'=>?_)
  refine ZcY (fr:=none) hf hst f' fun h'' z' f''=>?_
  exact ⟨_,rfl,e,M',B',rfl,ZjP x (y'.stn hX hn hf z' f'' (.inl rfl)) hX f''⟩
end
theorem ZlP {v:Value} {a:Addr} (h:refOf v=some a):v=.ref a:=by
 cases v with
 | ref b=>cases h; rfl
 | _=>exact Zad h
theorem Zlo {v:Value} {i:Int} (h:intOf v=some i):∃ t,v=.int i t:=by
 cases v with
 | int j t=>cases h; exact ⟨t,rfl⟩
 | _=>exact Zad h
theorem Zed {α:Type} {l:List α} {f:Nat→α→Bool} (h:each l f=true) {i:Nat} {a:α} (e:l[i]?=some a):f i a=true:=by
 unfold each at h
 rw [List.all_eq_true] at h
 exact h (a,i) (List.mem_zipIdx_iff_getElem?.mpr e)
theorem Zf2 {K:Frag} {x:Str} {a:Addr} (h:glRef K x=some a):nsIn K mainGlobals x=some (some (.ref a)):=by
 refine x1_2 (qOb h) fun o e h=>?_
 refine x1_2 (qOb h) fun v e1 h=>?_
 rw [e,e1,ZlP h]
theorem Zm5:∀ k:Kd,k∈kds
 | .int=>.head _
 | .str=>.tail _ (.head _)
 | .tup=>.tail _ (.tail _ (.head _))
 | .lst=>.tail _ (.tail _ (.tail _ (.head _)))
theorem ZnZ:∀ t:Ty,t∈tys
 | .int=>.head _
 | .bool=>.tail _ (.head _)
 | .str=>.tail _ (.tail _ (.head _))
 | .tup=>.tail _ (.tail _ (.tail _ (.head _)))
 | .lst=>.tail _ (.tail _ (.tail _ (.tail _ (.head _))))
theorem ZmU {K:Frag} {T:Tb} {t:Value} {f:Ty→Bool} (h:fitK K T t f=true) {ty:Ty} {v:Value} (e:tyA K T ty=some v):kitOne K t v=some (f ty):=by
 unfold fitK at h
 rw [List.all_eq_true] at h
 have:=h ty (ZnZ ty)
 rw [e] at this
 simpa using this
theorem Zjp {K:Frag} {T:Tb} {src:List At} {c m f:Nat} {D:Addr} (h:fitMth K T src c m (some f)=true) (e:clA K T c=some D):∃ x fa,T.mn[m]?=some x∧x∉T.an∧faA K T src f=some fa∧findIn K (.ref D) x=some (some (.ref fa))∧isFn K (.ref fa)=true∧fnIn K fa=true:=by
 simp only [fitMth,e] at h
 cases q2:T.mn[m]? with
 | none=>rw [q2] at h; exact Zco h
 | some x =>
  cases q3:faA K T src f with
  | none=>rw [q2,q3] at h; exact Zco h
  | some fa =>
   rw [q2,q3] at h
   simp only [qBt,Bool.not_eq_true',beq_iff_eq] at h
   refine w4 h fun t1 t2 t3 t4=>?_
   refine ⟨x,fa,rfl,fun q=>?_,rfl,t2,t3,t4⟩
   rw [List.any_eq_false] at t1
   exact t1 x q (by simp)
theorem Zlh {K:Frag} {T:Tb} {src:List At} {f:Nat} {x:Str} (h:fitFn K T src f (some x)=true):∃ a,faA K T src f=some a∧nsIn K mainGlobals x=some (some (.ref a))∧fnIn K a=true:=by
 simp only [fitFn] at h
 cases q:faA K T src f with
 | none=>rw [q] at h; exact Zco h
 | some a =>
  rw [q] at h
  simp only [qBt,beq_iff_eq] at h
  exact ⟨a,rfl,h.1,h.2⟩
theorem Zoe {S:Stat} {G:Gm} {src:List At} (hX:S.X=exA S.K S.T) (hC:S.cl=clA S.K S.T) (hF:S.fa=faA S.K S.T src) (h:fitB S.K S.T G src=true):Fit S G:=by
  unfold fitB at h
  simp only [qBt,decide_eq_true_eq] at h
  refine w12 h fun h1 h2 h3 h4 h5 h6 h7 h8 h9 h10 h11 h12=>?_
  clear h
  rw [List.all_eq_true] at h1 h7 h10 h11 h12
  have cls:∀ c D,S.cl c=some D→clsOK S.K D=true∧keepIn S.K (.ref D)=true∧∀ a∈S.T.an,findIn S.K (.ref D) a=some none:=fun c D e=>by
    rw [hC] at e
    refine x1_2 (qOb e) fun x e1 e2=>?_
    have:=h1 x (qMo e1)
    unfold fitCls at this
    rw [e2] at this
    simp only [qBt,List.all_eq_true,beq_iff_eq] at this
    exact ⟨this.1.1,this.1.2,this.2⟩
  have exc:∀ c D,S.X c=some D→excIn S.K D veMro "ValueError.__new__" = true∧seesIn S.K D=true:=fun c D e=>by
    rw [hX] at e
    refine x1_2 (qOb e) fun x e1 e2=>?_
    have:=h7 x (qMo e1)
    unfold fitExc at this
    rw [e2] at this
    simpa only [qBt] using this
  have tyv:∀ t v,S.tyV t=some v→tyA S.K S.T t=some v:=fun t v e=>by cases t<;>exact e
  exact
  { cls:=fun c D e=>ZgI (cls c D e).1
    attr:=fun c D x e hx=>(cls c D e).2.2 x hx
    inj:=fun i j x e1 e2=>by
      have a:=gsi e1
      exact (List.getElem?_inj a.1 h2).mp (e1.trans e2.symm)
    na:=h3
    few:=h4
    mth:=fun c D m f e hf=>by
      refine x1_2 (qOb (show (G.mth[c]?).bind (fun l=>(l[m]?).bind id)=some f from hf)) fun l g1 hf=>?_
      refine x1_2 (qOb hf) fun o g2 hf=>?_
      obtain rfl:o=some f:=hf
      rw [hC] at e
      rw [hF]
      exact Zjp (Zed (Zed h5 g1) g2) e
    ini:=h6
    exc:=exc
    up:=fun c d D E l e1 e2 e3=>by
      rw [hX] at e1 e2
      refine x1_2 (qOb e2) fun x e4 _=>?_
      have:=Zed (Zed h8 e3) e4
      unfold fitUp at this
      rw [e1,e2] at this
      simpa using this
    fn:=fun f x e=>by
      rw [hF]
      exact Zlh (Zed h9 e)
    cn:=fun c x e=>by
      have:=h1 x (qMo e)
      unfold fitCls at this
      split at this
      · rename_i D q
        have e':S.cl c=some D:=by rw [hC]; show (S.T.cls[c]?).bind _=_; rw [e]; exact q
        exact ⟨D,e',Zf2 q,(cls c D e').2.1⟩
      · cases this
    xn:=fun c x e=>by
      have:=h7 x (qMo e)
      unfold fitExc at this
      split at this
      · rename_i D q
        exact ⟨D,by rw [hX]; show (S.T.exs[c]?).bind _=_; rw [e]; exact q,Zf2 q⟩
      · cases this
    gi:=fun x i e=>by
      refine x1_2 (qOb (beq_iff_eq.mp (h10 (x,i) e))) fun o e h=>?_
      refine x1_2 (qOb h) fun v e1 h=>?_
      obtain ⟨t,e2⟩:=Zlo h
      exact ⟨t,by rw [e,e1,e2]⟩
    bi:=fun x hx=>by simpa using h11 x hx
    kb:=fun k t v e=>ZmU (h12 k (Zm5 k)) (tyv t v e) }
structure FnD where
 np:Nat
 nn:Nat
 den:(Bool→FT)→Bool→DS
noncomputable def fnD (T:Tb) (G:Gm) (mts:List (Nat×Nat×Nat)) (f:Df):FnD:=⟨f.prm.length,f.ns.length,fun Φ hot=>seqS (f.body.map (toS T G Φ 60 hot ⟨f.names,f.ns,mts⟩))⟩
noncomputable def callD (f:FnD) (Φ:Bool→FT) (hot:Bool) (args:List AV) (H:AH):Out AV:=if args.length=f.np then (f.den Φ hot (rho0 args f.nn) H).done else .bad
theorem Zk1 {T:Tb} {G:Gm} {mts:List (Nat×Nat×Nat)} {f:Df} {Φ:Bool→FT} {hot:Bool} {args:List AV} {H:AH}:callD (fnD T G mts f) Φ hot args H=if args.length=f.prm.length then (seqS (f.body.map (toS T G Φ 60 hot ⟨f.names,f.ns,mts⟩)) (rho0 args f.ns.length) H).done else .bad:=by
 unfold callD fnD; rfl
noncomputable def callF (tab:List (Option FnD)):Nat→Bool→FT
 | 0,_,_,_,_=>.bad
 | k+1,hot,i,args,H=>match tab[i]? with
  | some (some f)=>callD f (callF tab k) hot args H
  | _=>.bad
theorem Zhx {S:Stat} {G:Gm} {src:List At} {mts:List (Nat×Nat×Nat)} {dfs:List (Option Df)} (hF:S.fa=faA S.K S.T src) (Y:Fit S G) (hb:∀ (i:Nat) a f,src[i]?=some a→dfs[i]?=some (some f)→bodyK S.K S.T a (some f)=some (f.names,f.body)) :
  ∀ (k:Nat) (hot:Bool),FOK S hot (2*k) (callF (dfs.map fun o=>o.map (fnD S.T G mts)) k hot)
 | 0,_=>fun _ _ _ _ _ _ _ _ _ _ _ _ _ _ _=>trivial
 | k+1,hot=>fun i fa args H hi=>by
  show CallOK S hot (2*(k+1)) fa args H (match (dfs.map fun o=>o.map (fnD S.T G mts))[i]? with | some (some f)=>callD f (callF (dfs.map fun o=>o.map (fnD S.T G mts)) k) hot args H | _=>.bad)
  rw [hF] at hi
  refine x1_2 (qOb hi) fun a h1 h2=>?_
  rw [qGm]
  cases q:dfs[i]? with
  | none=>exact fun _ _ _ _ _ _ _ _ _ _=>trivial
  | some o =>
   cases o with
   | none=>exact fun _ _ _ _ _ _ _ _ _ _=>trivial
   | some f =>
    simp only [Option.map_some,Zk1]
    split
    ·rename_i hl
     have:=hb i a f h1 q
     refine x1_2 (qOb (show (faAt S.K S.T a).bind (fun fa=>fnAt S.K fa f.prm f.ns)=some (f.names,f.body) from this)) fun fa' h3 h4=>?_
     rw [h2] at h3; cases h3
     exact ZmF (r:=(f.names,f.body)) h4 Y (fun hot=>Zhx hF Y hb k hot) (by lia) hl
    ·exact fun _ _ _ _ _ _ _ _ _ _=>trivial
theorem law_ok {l:OpenLaw} {w:World} {s₁:Shared} {cl:Str→Option Addr} {mean:ExcName→Option Value} {mg:Str→Option Value} {args:List WData} {vs:List Value} {xs:List Int} {fa a:Addr} (S:Stat) (G:Gm) {i:Nat} {Φ:FT} (hp:S.prog=l.row.prog) (hw:S.w=w) (hb:S.base=s₁.heap) (hm:S.mg=mg) (hg:s₁.gens=#[])
  (hmg:mg l.name=some (.ref fa)) (Y:Fit S G) (hf:S.T.fns[i]?=some (some l.name)) (F:FOK S false 40 Φ) (hI:IntsAre vs xs) (hL:s₁.heap.IsList a vs.toArray) (hW:Well w.params s₁.heap (.ref a) (ofPy (.list (xs.map .int)))) (hn:¬ (63:Int)<xs.length)
  (h:∀ xs:List Int,xs.length≤63→∃ H',Φ i [.lst (xs.map .int)] []=.ok (.bool true) H') :
  wpAny (model l.row.prog w) callerA (call (.ref fa) [.ref a]) (fun v s'=>GoodWG l.row.claim cl mean args s₁ (.ok (.ret v)) s')
   (fun e s'=>GoodWG l.row.claim cl mean args s₁ (.error e) s') s₁:=by
 refine x1_3 (Y.fn i _ hf) fun f e0 e1 _=>?_
 have e2:mg l.name=some (.ref f):=by rw [← hm]; exact mg_of S.hK S.hT.g e1
 rw [hmg] at e2
 cases e2
 have nof:∀ b,¬ foot [] b:=fun b ⟨p,hp,_⟩=>nomatch hp
 have hargs:VRels (wdOf S ([],[]) s₁.heap []) [.ref a] [.lst (xs.map .int)]:=by
  obtain ⟨o,ho,hc,n,hd⟩:=hL
  have:∃ us:List Value,s₁.heap.get? a=some { cls:=.type "list", data:=.seq us.toArray }:=by
   generalize hv:Value.ref a=v at hW
   generalize hdd:ofPy (.list (xs.map .int))=dd at hW
   cases hW with
   | list q _=>cases hv; exact ⟨_,q⟩
   | _=>cases hdd
  obtain ⟨us,hu⟩:=this
  rw [hu] at ho
  cases ho
  have:us.toArray=vs.toArray:=by injection hd
  have hx:¬ (wdOf S ([],[]) s₁.heap []).F a:=fun q=>q.elim (nof a) fun q=>nomatch q
  have hr:VRels (wdOf S ([],[]) s₁.heap []) us.toArray.toList (xs.map .int):=by
   rw [this]
   simpa using ZhO hI
  exact .cons (.lst (w:=wdOf S ([],[]) s₁.heap []) (vs:=us.toArray) (n:=0) hu hx hr.1 hr.2) .nil
 rw [← hp,← hw]
 have L:Live { S:=S,A:=callerA,fe:=[],d:=40,hot:=false,pv:=([],[]) } s₁.heap []:=by
  refine ⟨rfl,trivial,?_,?_,?_,fun _=>rfl,?_,?_,?_,?_,?_⟩
  ·intro b o e
   have e':S.base.get? b=some o:=e
   rw [hb] at e'; exact e'
  ·intro b q; cases q
  ·intro b q; exact (nof b q).elim
  ·intro b q; cases q
  ·show callerA.depth+40<recursionLimit
   decide +kernel
  ·show callerA.units+20*40+100<cLine
   decide +kernel
  ·rintro b (q | q)<;>cases q
  ·intro b q; cases q
 have R:Rep S ([],[]) s₁.heap [] []:=⟨rfl,fun n p ao e=>(nomatch e),fun i j p q e=>(nomatch e),fun n p e=>(nomatch e),fun n p es e=>(nomatch e)⟩
 obtain ⟨H',hH⟩:=h xs (by lia)
 have A:=F i fa [.lst (xs.map .int)] [] e0 { S:=S,A:=callerA,fe:=[],d:=40,hot:=false,pv:=([],[]) } s₁ [] [.ref a] rfl rfl (Nat.le_refl _) L R hargs
 rw [hH] at A
 refine wpAny_call (codeAny_mono A fun r s' ⟨v,e,M',x,rp,r⟩=>?_)
 subst e
 rw [show v=.bool true from r.inv]
 have keep:∀ b o,s₁.heap.get? b=some o→s'.heap.get? b=some o:=fun b o e=>x.keep b o e (fun q=>(nof b q).elim) (fun q=>q) (fun q=>by cases q)
 exact ⟨.inl ⟨_,.bool true,[],rfl,fun _=>rfl,.bool true,by first | with_unfolding_all rfl | kernel_rfl,fun _=>⟨.nil,fun _ h=>by cases h⟩⟩,.of_keep keep,x.os,.of_eq (x.gens.trans hg)⟩
theorem Zjv (n:Nat) (h:Heap):(fragAt n h).In h:=by
 unfold fragAt
 generalize List.range n=l
 intro a o e
 induction l with
 | nil=>cases e
 | cons b r ih =>
  rw [List.filterMap_cons] at e
  cases e':h.get? b with
  | none=>rw [e'] at e; exact ih e
  | some o' =>
   rw [e'] at e
   simp only [Option.map_some,List.lookup_cons] at e
   cases q:a == b with
   | true=>rw [q] at e; cases e; exact eq_of_beq q▸e'
   | false=>rw [q] at e; exact ih e
noncomputable def hookOf {α:Type} (n:Nat) (f:Frag→α) (v:α):Hook :=
 ⟨α,fun s=>f (fragAt n s.heap),fun _=>v,fun _ h=>∃ K:Frag,K.In h∧f K=v,fun _ s e=>⟨_,Zjv n s.heap,e⟩,fun _ _ _ ⟨K,a,b⟩ k=>⟨K,a.keeps k,b⟩⟩
theorem head_of {l:OpenLaw} {q:Program} {α:Type} {n N:Nat} {f:Frag→α} {v:α} (said:l.wellSaid=true) (hd:(defOf q l.row.name).isSome=true)
  (left:LeftO l.row.prog q [] (xtOf l q) (fun s=>f (fragAt n s.heap)) (fun _=>v) N)
  (hp:l.row.prog.theDef l.row.name=some (((defOf q l.row.name).get hd).1.params,((defOf q l.row.name).get hd).1.body,((defOf q l.row.name).get hd).1.scope))
  (hk:kwWritten? ((defOf q l.row.name).get hd).1.params.kwonlyargs ((defOf q l.row.name).get hd).1.params.kw_defaults=some ((defOf q l.row.name).get hd).2)
  (hwr:(!l.row.writes || l.row.records.isEmpty)=true) (ok:(chainsOk q && opensWell l.row.prog && (frees l.row.toRowW && l.row.within.isEmpty))=true) (hb:l.row.prog.bare) (hw:l.row.toRowW.promised)
  (call:WalkO q [] (XL q []) (fun _ h=>∃ K:Frag,K.In h∧f K=v) l.row.toRowW ((defOf q l.row.name).get hd).1 ((defOf q l.row.name).get hd).2 fun f vs=>PySem.call f vs):l.Holds :=
 holds_law said fun said' =>
  holds_open (q:=q) (loose:=[]) (Xt:=xtOf l q) (XP:=XL q []) (Yf:=Hook.obs (hookOf n f v)) (Ya:=Hook.val (hookOf n f v)) (YP:=Hook.says (hookOf n f v)) (N:=N) left (Hook.of (hookOf n f v)) (Hook.keeps (hookOf n f v))
   (fun s e=>xl_of s (Bool.and_eq_true_iff.mp e).1) XL.keeps (Option.some_get hd).symm hp hk (fun s e=>recFacts_of (Bool.and_eq_true_iff.mp e).2) hwr said' ok hb hw call
noncomputable def Tx.dfs (t:Tx):List (Option Df):=t.src.map (dfAt t.prog t.T)
noncomputable def Tx.tab (t:Tx):List (Option FnD):=t.dfs.map fun o=>o.map (fnD t.T t.G t.mts)
noncomputable abbrev Tx.run (t:Tx) (k:Nat) (hot:Bool):FT:=callF t.tab k hot
theorem Tx.facts {t:Tx} {S:Stat} (hT:S.T=t.T) (hX:S.X=exA S.K S.T) (hC:S.cl=clA S.K S.T) (hF:S.fa=faA S.K S.T t.src) (h:t.ask S.K=t.said):Fit S t.G∧∀ k hot,FOK S hot (2*k) (t.run k hot):=by
 obtain ⟨h1,h2⟩:=Prod.mk.inj h
 rw [← hT] at h1 h2
 have Y:=Zoe hX hC hF h1
 refine ⟨Y,?_⟩
 unfold Tx.run Tx.tab
 rw [← hT]
 refine Zhx hF Y fun i a f e1 e2=>?_
 have e3:dfAt t.prog S.T a=some f:=by
  unfold Tx.dfs at e2
  rw [qGm,e1,hT.symm] at e2
  exact Option.some.inj e2
 have:=congrArg (fun l=>l[i]?) h2
 simp only [qGm,e1,Option.map_some,e3] at this
 exact Option.some.inj this
theorem ZoF {t:Tx} {k i np nn:Nat} {hot:Bool} {args:List AV} {H:AH} {d:(Bool→FT)→Bool→DS} (h:args.length=np) (e:t.tab[i]?=some (some ⟨np,nn,d⟩)):t.run (k+1) hot i args H=(d (t.run k) hot (rho0 args nn) H).done:=by
 show (match t.tab[i]? with | some (some f)=>callD f (callF t.tab k) hot args H | _=>.bad)=_
 rw [e]
 exact if_pos h
def RunAt (R:Nat→Bool→FT) (i n m:Nat) (d:(Bool→FT)→Bool→DS):Prop:=∀ k hot args H,args.length=n→R (k+1) hot i args H=(d (R k) hot (rho0 args m) H).done
theorem Zah {t:Tx} {L:List (Option FnD)} {i n m:Nat} {d:(Bool→FT)→Bool→DS} (q:t.tab=L) (e:L[i]?=some (some ⟨n,m,d⟩)):RunAt t.run i n m d:=fun k hot args H h=>ZoF h (q▸e)
theorem Zlw {p q:Program} {loose:List Str} {Xt:Shared→Bool} {α:Type} {Yf:Shared→α} {Ya:World→α} {N:Nat} (h:LeftO p q loose Xt (fun _=>()) (fun _=>()) N) (h2:∀ w,(openEnds treeTable p w N).map Yf=some (Ya w)):LeftO p q loose Xt Yf Ya N:=fun w=>by
 have a:=h w
 have b:=h2 w
 generalize openEnds treeTable p w N=o at a b
 cases o with
 | none=>cases b
 | some s =>
  simp only [Option.map_some,Option.some.injEq,Prod.mk.injEq,and_true] at a b ⊢
  exact ⟨a,b⟩
theorem Znc {α β:Type} {o:Option Shared} {f:Shared→α} {g:Shared→β} {a:α} {b:β} (h1:o.map f=some a) (h2:o.map g=some b):o.map (fun s=>(f s,g s))=some (a,b):=by
 cases o with
 | none=>cases h1
 | some s=>cases h1; cases h2; rfl
theorem Zie {tb:String→Option Builtin} {p:Program} {w:World} {n₀:Nat} {ann:Option Value} {m:Nat} {s':Shared} {t':Thread}:∀ (k:Nat) (s:Shared) (t:Thread),topN tb p w n₀ ann k s t=some (s',t')→topRun tb p w n₀ ann (k+m) s t=topRun tb p w n₀ ann m s' t'
 | 0,s,t,h=>by
  cases h
  rw [Nat.zero_add]
 | k+1,s,t,h=>by
  rw [Nat.succ_add]
  have h:(match through t with | true=>none | false=>match stepOk n₀ ann t with | false=>none | true=>match step (denote tb) p w s t with | .go s' t'=>topN tb p w n₀ ann k s' t' | .halt _ _=>none)=some (s',t'):=h
  show (match through t with | true=>some s | false=>_)=_
  cases h1:through t with
  | true=>rw [h1] at h; cases h
  | false =>
   rw [h1] at h
   cases h2:stepOk n₀ ann t with
   | false=>rw [h2] at h; cases h
   | true =>
    rw [h2] at h
    cases h3:step (denote tb) p w s t with
    | halt o s'=>rw [h3] at h; cases h
    | go s1 t1 =>
     rw [h3] at h
     exact Zie k s1 t1 h
theorem Zle {p:Program} {w:World} {N k m:Nat} {s:Shared} {t:Thread} (hN:N=k+m) (h0:((fencedOpening treeTable p w N).isSome && (s0 p w N).heap.isNs mainGlobals && (s0 p w N).gens.size == 0)=true)
  (h1:(topN treeTable p w (s0 p w N).heap.objs.size (ann0 p w N) k (s0 p w N) (topStub p)).map (fun x=>x.1)=some s) (h2:(topN treeTable p w (s0 p w N).heap.objs.size (ann0 p w N) k (s0 p w N) (topStub p)).map (fun x=>x.2)=some t):openEnds treeTable p w N=ends p w N m s t:=by
 have h:topN treeTable p w (s0 p w N).heap.objs.size (ann0 p w N) k (s0 p w N) (topStub p)=some (s,t):=by
  generalize topN treeTable p w (s0 p w N).heap.objs.size (ann0 p w N) k (s0 p w N) (topStub p)=o at h1 h2
  cases o with
  | none=>cases h1
  | some x=>cases h1; cases h2; rfl
 clear h1 h2
 unfold openEnds ends
 have h1:fencedOpening treeTable p w N=some (s0 p w N):=by
  unfold s0
  cases e:fencedOpening treeTable p w N with
  | none=>rw [e] at h0; simp at h0
  | some s=>rfl
 rw [h1]
 simp only [qBt] at h0
 show topFrom treeTable p w N (s0 p w N)=_
 unfold topFrom
 rw [show ((s0 p w N).heap.isNs mainGlobals && (s0 p w N).gens.size == 0)=true from Bool.and_eq_true_iff.mpr ⟨h0.1.2,h0.2⟩]
 show (topRun treeTable p w _ (ann0 p w N) N _ _).bind _=_
 have e:topRun treeTable p w (s0 p w N).heap.objs.size (ann0 p w N) N (s0 p w N) (topStub p)=topRun treeTable p w (s0 p w N).heap.objs.size (ann0 p w N) (k+m) (s0 p w N) (topStub p):=congrArg (fun n=>topRun treeTable p w (s0 p w N).heap.objs.size (ann0 p w N) n (s0 p w N) (topStub p)) hN
 rw [e,Zie k _ _ h]
 rfl
noncomputable def Zd6 (Φ:Bool→FT) (hot:Bool):DS:=(seqS [retS (bopE true [(isiE gmC (varE 0) [.int]),(ntE (isiE gmC (varE 0) [.bool]))])])
noncomputable def ZcQ (Φ:Bool→FT) (hot:Bool):DS:=(seqS [ifS (bopE false [(cmpE (biE hot .len [(varE 0)]) [.NotEq] [(cstE (.int 2))]),(ntE (callE (Φ hot) 0 [(subE (varE 0) (cstE (.int 0)))])),(ntE (callE (Φ hot) 0 [(subE (varE 0) (cstE (.int 1)))]))]) (seqS [retS (cstE (.bool false))]) (seqS []),retS (cmpE (cstE (.int 0)) [.LtE,.Lt,.LtE] [(subE (varE 0) (cstE (.int 0))),(subE (varE 0) (cstE (.int 1))),(cstE (.int 1000000))])])
noncomputable def ZhC (Φ:Bool→FT) (hot:Bool):DS:=(seqS [retS (bopE true [(cmpE (subE (varE 0) (cstE (.int 0))) [.Lt] [(subE (varE 1) (cstE (.int 1)))]),(cmpE (subE (varE 1) (cstE (.int 0))) [.Lt] [(subE (varE 0) (cstE (.int 1)))])])])
noncomputable def ZfT (Φ:Bool→FT) (hot:Bool):DS:=(seqS [retS (binE false .FloorDiv (subE (varE 0) (cstE (.int 0))) (cstE (.int 24)))])
noncomputable def ZcP (Φ:Bool→FT) (hot:Bool):DS:=(seqS [retS (cmpE (callE (Φ hot) 3 [(varE 0)]) [.Eq] [(binE false .FloorDiv (binE false .Sub (subE (varE 0) (cstE (.int 1))) (cstE (.int 1))) (cstE (.int 24)))])])
noncomputable def Zdn (Φ:Bool→FT) (hot:Bool):DS:=(seqS [ifS (ntE (cmpE (cstE (.int 1)) [.LtE,.LtE] [(biE hot .len [(varE 0)]),(cstE (.int 20))])) (seqS [retS (cstE (.bool false))]) (seqS []),forS hot (.one 1) (varE 0) (seqS [ifS (ntE (cmpE (cstE (.str "!")) [.LtE,.LtE] [(varE 1),(cstE (.str "~"))])) (seqS [retS (cstE (.bool false))]) (seqS [])]),retS (cstE (.bool true))])
noncomputable def Zch (Φ:Bool→FT) (hot:Bool):DS:=(seqS [ifS (ntE (callE (Φ hot) 5 [(varE 2)])) (seqS [raiseS hot 1]) (seqS []),ifS (cmpE (varE 2) [.In] [(varE 1)]) (seqS [raiseS hot 4]) (seqS []),exprS (mbE .append (varE 1) [(varE 2)])])
noncomputable def ZaH (Φ:Bool→FT) (hot:Bool):DS:=(seqS [assignS hot (.one 1) (lstE true []),forS hot (.one 2) (varE 0) (Zch Φ hot),retS (varE 1)])
noncomputable def Zcy (Φ:Bool→FT) (hot:Bool):DS:=(seqS [ifS (ntE (callE (Φ hot) 5 [(varE 3)])) (seqS [raiseS hot 1]) (seqS []),ifS (cmpE (varE 3) [.In] [(varE 1)]) (seqS [raiseS hot 4]) (seqS []),ifS (bopE false [(ntE (callE (Φ hot) 0 [(varE 4)])),(ntE (cmpE (cstE (.int 1)) [.LtE,.LtE] [(varE 4),(cstE (.int 9))]))]) (seqS [raiseS hot 3]) (seqS []),exprS (mbE .append (varE 1) [(varE 3)]),exprS (mbE .append (varE 2) [(tupE [(varE 3),(varE 4)])])])
noncomputable def ZaM (Φ:Bool→FT) (hot:Bool):DS:=(seqS [assignS hot (.one 1) (lstE true []),assignS hot (.one 2) (lstE true []),forS hot (.many [3,4]) (varE 0) (Zcy Φ hot),retS (varE 2)])
noncomputable def ZfU (Φ:Bool→FT) (hot:Bool):DS:=(seqS [retS (subE (binE false .Add (slcE false (varE 0) (varE 1) (binE false .Add (varE 1) (cstE (.int 1))) (cstE .none)) (lstE false [(cstE (.int 0))])) (cstE (.int 0)))])
noncomputable def ZfW (Φ:Bool→FT) (hot:Bool):DS:=(seqS [assignS hot (.one 1) (cstE (.str "abcdefghijklmnopqrstuvwxyz{|}~")),assignS hot (.one 2) (cstE (.str "@ABCDEFGHIJKLMNOPQRSTUVWXYZ[\\]^_`")),retS (subE (binE false .Add (binE false .Add (cstE (.str "!\"#$&'()*+,-./0123456789:;<=>?")) (varE 2)) (varE 1)) (binE false .Mod (varE 0) (cstE (.int 93))))])
noncomputable def Zbp (Φ:Bool→FT) (hot:Bool):DS:=(seqS [setAttrS 0 (varE 0) (varE 1),setAttrS 1 (varE 0) (varE 2),setAttrS 2 (varE 0) (lstE true [])])
noncomputable def ZbD (Φ:Bool→FT) (hot:Bool):DS:=(seqS [setAttrS 3 (varE 0) (varE 1),setAttrS 4 (varE 0) (varE 2)])
noncomputable def ZbP (Φ:Bool→FT) (hot:Bool):DS:=(seqS [setAttrS 5 (varE 0) dct0E,setAttrS 6 (varE 0) dct0E])
noncomputable def Zaz (Φ:Bool→FT) (hot:Bool):DS:=(seqS [ifS (ntE (callE (Φ hot) 5 [(varE 1)])) (seqS [raiseS hot 1]) (seqS []),assignS hot (.one 4) (callE (Φ hot) 6 [(varE 2)]),ifS (bopE false [(ntE (callE (Φ hot) 0 [(varE 3)])),(ntE (cmpE (cstE (.int 1)) [.LtE,.LtE] [(varE 3),(cstE (.int 31))]))]) (seqS [raiseS hot 3]) (seqS []),ifS (cmpE (varE 1) [.In] [(attrE 5 (varE 0))]) (seqS [raiseS hot 4]) (seqS []),setItemS (attrE 5 (varE 0)) (varE 1) (newE gmC (Φ hot) 0 [(varE 4),(varE 3)])])
noncomputable def ZaL (Φ:Bool→FT) (hot:Bool):DS:=(seqS [assignS hot (.one 3) (moE gmC (Φ hot) 4 (varE 0) [(varE 1)]),ifS (ntE (callE (Φ hot) 1 [(varE 2)])) (seqS [raiseS hot 2]) (seqS []),exprS (mbE .append (attrE 2 (varE 3)) [(varE 2)])])
noncomputable def Zav (Φ:Bool→FT) (hot:Bool):DS:=(seqS [ifS (ntE (callE (Φ hot) 5 [(varE 1)])) (seqS [raiseS hot 1]) (seqS []),ifS (bopE false [(ntE (callE (Φ hot) 1 [(varE 2)])),(ntE (callE (Φ hot) 4 [(varE 2)]))]) (seqS [raiseS hot 2]) (seqS []),assignS hot (.one 4) (callE (Φ hot) 7 [(varE 3)]),ifS (cmpE (varE 1) [.In] [(attrE 6 (varE 0))]) (seqS [raiseS hot 4]) (seqS []),setItemS (attrE 6 (varE 0)) (varE 1) (newE gmC (Φ hot) 1 [(varE 2),(varE 4)])])
noncomputable def Zcp (Φ:Bool→FT) (hot:Bool):DS:=(seqS [ifS (cmpE (varE 1) [.NotIn] [(attrE 5 (varE 0))]) (seqS [raiseS hot 5]) (seqS []),retS (subE (attrE 5 (varE 0)) (varE 1))])
noncomputable def ZcO (Φ:Bool→FT) (hot:Bool):DS:=(seqS [ifS (cmpE (varE 1) [.NotIn] [(attrE 6 (varE 0))]) (seqS [raiseS hot 5]) (seqS []),retS (subE (attrE 6 (varE 0)) (varE 1))])
noncomputable def Zbn (Φ:Bool→FT) (hot:Bool):DS:=(seqS [retS (biE hot (.list false) [(attrE 5 (varE 0))])])
noncomputable def ZeE (Φ:Bool→FT) (hot:Bool):DS:=(seqS [retS (biE hot (.list false) [(attrE 6 (varE 0))])])
noncomputable def ZbC (Φ:Bool→FT) (hot:Bool):DS:=(seqS [assignS hot (.one 1) (lstE true []),forS hot (.one 2) (attrE 6 (varE 0)) (seqS [forS hot (.many [3,4]) (attrE 4 (subE (attrE 6 (varE 0)) (varE 2))) (seqS [exprS (mbE .append (varE 1) [(tupE [(varE 2),(varE 3)])])])]),retS (varE 1)])
noncomputable def Za1 (Φ:Bool→FT) (hot:Bool):DS:=(seqS [retS (attrE 1 (moE gmC (Φ hot) 4 (varE 0) [(varE 1)]))])
noncomputable def ZaQ (Φ:Bool→FT) (hot:Bool):DS:=(seqS [retS (attrE 3 (moE gmC (Φ hot) 5 (varE 0) [(varE 1)]))])
noncomputable def Za0 (Φ:Bool→FT) (hot:Bool):DS:=(seqS [forS hot (.many [3,4]) (attrE 4 (moE gmC (Φ hot) 5 (varE 0) [(varE 1)])) (seqS [ifS (cmpE (varE 3) [.Eq] [(varE 2)]) (seqS [retS (varE 4)]) (seqS [])]),raiseS hot 5])
noncomputable def Zcx (Φ:Bool→FT) (hot:Bool):DS:=(seqS [assignS hot (.one 4) (moE gmC (Φ hot) 4 (varE 0) [(varE 1)]),assignS hot (.one 5) (attrE 3 (moE gmC (Φ hot) 5 (varE 0) [(varE 2)])),ifS (cmpE (varE 3) [.NotIn] [(attrE 0 (varE 4))]) (seqS [retS (cstE (.bool false))]) (seqS []),retS (cmpE (compE hot false (varE 6) (attrE 2 (varE 4)) (callE (Φ hot) 2 [(varE 6),(varE 5)])) [.Eq] [(lstE false [])])])
noncomputable def Zd4 (Φ:Bool→FT) (hot:Bool):DS:=(seqS [retS (callE (Φ hot) 3 [(moE gmC (Φ hot) 12 (varE 0) [(varE 1)])])])
noncomputable def Zd2 (Φ:Bool→FT) (hot:Bool):DS:=(seqS [setItemS (attrE 10 (varE 0)) (varE 4) dct0E,setItemS (attrE 11 (varE 0)) (varE 4) (moE gmC (Φ hot) 11 (varE 1) [(varE 4)])])
noncomputable def Zd3 (Φ:Bool→FT) (hot:Bool):DS:=(seqS [exprS (mbE .append (attrE 9 (varE 0)) [(compE hot false (varE 5) (moE gmC (Φ hot) 6 (varE 1) []) (moE gmC (Φ hot) 14 (varE 1) [(varE 5),(varE 2),(varE 3)]))])])
noncomputable def ZbR (Φ:Bool→FT) (hot:Bool):DS:=(seqS [setAttrS 7 (varE 0) (moE gmC (Φ hot) 8 (varE 1) []),setAttrS 8 (varE 0) (compE hot false (callE (Φ hot) 27 [(varE 1),(subE (varE 5) (cstE (.int 0)))]) (attrE 7 (varE 0)) (cstE (.bool true))),setAttrS 9 (varE 0) (lstE true []),forS hot (.many [2,3]) (attrE 7 (varE 0)) (Zd3 Φ hot),setAttrS 10 (varE 0) dct0E,setAttrS 11 (varE 0) dct0E,forS hot (.one 4) (moE gmC (Φ hot) 6 (varE 1) []) (Zd2 Φ hot)])
noncomputable def Zba (Φ:Bool→FT) (hot:Bool):DS:=(seqS [assignS hot (.one 3) (subE (attrE 10 (varE 0)) (varE 1)),assignS hot (.one 4) (subE (attrE 8 (varE 0)) (varE 2)),ifS (cmpE (varE 4) [.In] [(varE 3)]) (seqS [retS (lstE false [(subE (varE 3) (varE 4))])]) (seqS []),ifS (cmpE (biE hot .len [(varE 3)]) [.Lt] [(subE (attrE 11 (varE 0)) (varE 1))]) (seqS [retS (cstE .none)]) (seqS []),retS (compE hot false (subE (varE 3) (varE 5)) (varE 3) (cstE (.bool true)))])
noncomputable def Zdl (Φ:Bool→FT) (hot:Bool):DS:=(seqS [assignS hot (.one 7) (moE gmC (Φ hot) 15 (varE 0) [(varE 6),(varE 5)]),ifS (cmpE (varE 7) [.Is] [(cstE .none)]) (seqS [exprS (moE gmC (Φ hot) 17 (varE 0) [(varE 2),(varE 5),(varE 6)]),retS (cstE (.bool true))]) (seqS []),forS hot (.one 8) (varE 7) (seqS [ifS (cmpE (varE 8) [.NotIn] [(varE 2)]) (seqS [setItemS (varE 2) (varE 8) (tupE [(varE 5),(varE 6)]),exprS (mbE .append (varE 3) [(varE 8)])]) (seqS [])])])
noncomputable def Zbx (Φ:Bool→FT) (hot:Bool):DS:=(seqS [ifS (cmpE (mbE .get (subE (attrE 10 (varE 0)) (varE 6)) [(subE (attrE 8 (varE 0)) (varE 5))]) [.NotEq] [(varE 5)]) (Zdl Φ hot) (seqS [])])
noncomputable def Zdm (Φ:Bool→FT) (hot:Bool):DS:=(seqS [assignS hot (.one 5) (subE (varE 3) (varE 4)),assignS hot (.one 4) (binE false .Add (varE 4) (cstE (.int 1))),forS hot (.one 6) (subE (attrE 9 (varE 0)) (varE 5)) (Zbx Φ hot)])
noncomputable def Zbo (Φ:Bool→FT) (hot:Bool):DS:=(seqS [assignS hot (.one 2) (dct1E (varE 1) (cstE .none)),assignS hot (.one 3) (lstE true [(varE 1)]),assignS hot (.one 4) (cstE (.int 0)),whileS (cmpE (varE 4) [.Lt] [(biE hot .len [(varE 3)])]) (Zdm Φ hot) whileFuel,retS (varE 2)])
noncomputable def Zd1 (Φ:Bool→FT) (hot:Bool):DS:=(seqS [assignS hot (.one 4) (subE (subE (varE 1) (varE 2)) (cstE (.int 0))),assignS hot (.one 5) (subE (subE (varE 1) (varE 2)) (cstE (.int 1))),exprS (moE gmC (Φ hot) 18 (varE 0) [(varE 5),(varE 2),(varE 4)]),assignS hot (.one 2) (varE 4)])
noncomputable def ZbQ (Φ:Bool→FT) (hot:Bool):DS:=(seqS [setItemS (subE (attrE 10 (varE 0)) (varE 3)) (subE (attrE 8 (varE 0)) (varE 2)) (varE 2),whileS (cmpE (subE (varE 1) (varE 2)) [.IsNot] [(cstE .none)]) (Zd1 Φ hot) whileFuel])
noncomputable def Za2 (Φ:Bool→FT) (hot:Bool):DS:=(seqS [assignS hot (.one 4) (subE (attrE 10 (varE 0)) (varE 1)),ifS (cmpE (mbE .get (varE 4) [(subE (attrE 8 (varE 0)) (varE 2))]) [.Eq] [(varE 2)]) (seqS [exprS (mbE .pop (varE 4) [(subE (attrE 8 (varE 0)) (varE 2))])]) (seqS []),setItemS (varE 4) (subE (attrE 8 (varE 0)) (varE 3)) (varE 3)])
noncomputable def Zd5 (Φ:Bool→FT) (hot:Bool):DS:=(seqS [assignS hot (.many [3,4]) (subE (attrE 7 (varE 1)) (varE 2)),forS hot (.one 8) (moE gmC (Φ hot) 6 (varE 0) []) (seqS [ifS (cmpE (mbE .get (subE (attrE 10 (varE 1)) (varE 8)) [(subE (attrE 8 (varE 1)) (varE 2))]) [.Eq] [(varE 2)]) (seqS [exprS (mbE .append (varE 7) [(tupE [(varE 3),(varE 4),(varE 8)])])]) (seqS [])])])
noncomputable def ZgN (Φ:Bool→FT) (hot:Bool):DS:=(seqS [assignS hot (.one 6) (moE gmC (Φ hot) 16 (varE 1) [(varE 2)]),ifS (cmpE (varE 6) [.IsNot] [(cstE (.bool true))]) (seqS [retS (tupE [(cstE (.str "short")),(compE hot true (subE (attrE 7 (varE 1)) (varE 9)) (biE hot .sorted [(varE 6)]) (cstE (.bool true)))])]) (seqS [])])
noncomputable def ZgO (Φ:Bool→FT) (hot:Bool):DS:=(seqS [assignS hot (.many [3,4]) (subE (attrE 7 (varE 1)) (varE 2)),forS hot (.one 5) (biE hot .range [(moE gmC (Φ hot) 13 (varE 0) [(varE 3),(varE 4)])]) (ZgN Φ hot)])
noncomputable def Zfe (Φ:Bool→FT) (hot:Bool):DS:=(seqS [assignS hot (.one 1) (newE gmC (Φ hot) 3 [(varE 0)]),forS hot (.one 2) (biE hot .range [(biE hot .len [(attrE 7 (varE 1))])]) (ZgO Φ hot),assignS hot (.one 7) (lstE true []),forS hot (.one 2) (biE hot .range [(biE hot .len [(attrE 7 (varE 1))])]) (Zd5 Φ hot),retS (tupE [(cstE (.str "rota")),(varE 7)])])
noncomputable def Zd9 (Φ:Bool→FT) (hot:Bool):DS:=(seqS [retS (mbE .join (cstE (.str "")) [(compE hot false (callE (Φ hot) 9 [(binE false .Add (binE false .FloorDiv (varE 0) (cstE (.int 20))) (binE false .Mult (binE false .Mult (cstE (.int 5)) (varE 1)) (binE false .Mod (varE 0) (cstE (.int 7)))))]) (biE hot .range [(binE false .Mod (varE 0) (cstE (.int 20)))]) (cstE (.bool true)))])])
noncomputable def ZbW (Φ:Bool→FT) (hot:Bool):DS:=(seqS [retS (binE false .Add (callE (Φ hot) 34 [(varE 1)]) (callE (Φ hot) 9 [(varE 0)]))])
noncomputable def ZeF (Φ:Bool→FT) (hot:Bool):DS:=(seqS [retS (binE false .Add (binE false .Add (slcE false (varE 5) (cstE .none) (cstE (.int 18)) (cstE .none)) (callE (Φ hot) 9 [(binE false .Sub (varE 2) (cstE (.int 20)))])) (callE (Φ hot) 9 [(varE 2)]))])
noncomputable def Zcz (Φ:Bool→FT) (hot:Bool):DS:=(seqS [assignS hot (.one 3) (callE (Φ hot) 8 [(varE 0),(cstE (.int 1))]),assignS hot (.one 4) (subE (lstE false [(callE (Φ hot) 8 [(varE 0),(binE false .Add (cstE (.int 2)) (binE false .Mod (varE 2) (cstE (.int 16))))]),(varE 3)]) (binE false .Mod (binE false .FloorDiv (varE 3) (cstE (.int 64))) (cstE (.int 2)))),assignS hot (.one 5) (mbE .join (cstE (.str "")) [(compE hot false (callE (Φ hot) 9 [(binE false .Add (cstE (.int 54)) (binE false .Mod (binE false .Add (varE 3) (binE false .Mult (cstE (.int 3)) (varE 9))) (cstE (.int 34))))]) (biE hot .range [(cstE (.int 20))]) (cstE (.bool true)))]),ifS (bopE true [(cmpE (binE false .Mod (binE false .FloorDiv (varE 3) (cstE (.int 64))) (cstE (.int 4))) [.Eq] [(cstE (.int 3))]),(cmpE (varE 2) [.Lt] [(cstE (.int 20))])]) (seqS [retS (subE (lstE false [(slcE false (varE 5) (cstE .none) (binE false .Add (varE 2) (cstE (.int 1))) (cstE .none)),(slcE false (varE 5) (binE false .Sub (cstE (.int 19)) (varE 2)) (cstE .none) (cstE .none))]) (binE false .Mod (binE false .FloorDiv (varE 3) (cstE (.int 256))) (cstE (.int 2))))]) (seqS []),ifS (cmpE (binE false .Mod (binE false .FloorDiv (varE 3) (cstE (.int 64))) (cstE (.int 4))) [.Eq] [(cstE (.int 3))]) (ZeF Φ hot) (seqS []),assignS hot (.one 6) (callE (Φ hot) 34 [(subE (lstE false [(varE 4),(binE false .Add (binE false .FloorDiv (varE 4) (cstE (.int 3))) (varE 1))]) (biE hot .int [(bopE true [(cmpE (varE 1) [.Gt] [(cstE (.int 0))]),(cmpE (binE false .Mod (varE 3) (cstE (.int 8))) [.NotEq] [(cstE (.int 1))])])]))]),assignS hot (.one 7) (subE (lstE false [(cstE (.int 0)),(biE hot .len [(varE 6)])]) (binE false .Mod (binE false .FloorDiv (varE 3) (cstE (.int 256))) (cstE (.int 2)))),ifS (cmpE (binE false .Mod (binE false .FloorDiv (varE 3) (cstE (.int 64))) (cstE (.int 2))) [.Eq] [(cstE (.int 1))]) (seqS [assignS hot (.one 7) (binE false .Mod (binE false .FloorDiv (varE 3) (cstE (.int 256))) (binE false .Add (biE hot .len [(varE 6)]) (cstE (.int 1))))]) (seqS []),assignS hot (.one 8) (callE (Φ hot) 9 [(binE false .Add (binE false .Add (binE false .FloorDiv (varE 2) (cstE (.int 2))) (binE false .Mult (cstE (.int 32)) (binE false .Mod (varE 2) (cstE (.int 2))))) (subE (lstE false [(cstE (.int 0)),(cstE (.int 31)),(cstE (.int 40)),(binE false .Mod (binE false .FloorDiv (varE 3) (cstE (.int 4096))) (cstE (.int 43)))]) (binE false .Mod (binE false .FloorDiv (varE 3) (cstE (.int 1024))) (cstE (.int 4)))))]),retS (binE false .Add (binE false .Add (slcE false (varE 6) (cstE .none) (varE 7) (cstE .none)) (varE 8)) (slcE false (varE 6) (varE 7) (cstE .none) (cstE .none)))])
noncomputable def ZcA (Φ:Bool→FT) (hot:Bool):DS:=(seqS [assignS hot (.one 4) (compE hot false (callE (Φ hot) 35 [(binE false .Add (cstE (.int 40)) (varE 9)),(varE 1)]) (biE hot .range [(subE (lstE false [(cstE (.int 0)),(cstE (.int 0)),(cstE (.int 0)),(cstE (.int 9))]) (binE false .Mod (binE false .FloorDiv (varE 1) (cstE (.int 32))) (cstE (.int 4))))]) (cstE (.bool true))),assignS hot (.one 5) (compE hot false (varE 9) (varE 4) (cmpE (varE 9) [.NotIn] [(varE 2)])),assignS hot (.one 5) (binE false .Add (varE 5) (compE hot false (subE (varE 2) (varE 9)) (biE hot .range [(cstE (.int 6))]) (cmpE (binE false .Mod (binE false .FloorDiv (varE 1) (subE (lstE false [(cstE (.int 1)),(cstE (.int 2)),(cstE (.int 4)),(cstE (.int 8)),(cstE (.int 3)),(cstE (.int 5))]) (varE 9))) (cstE (.int 2))) [.Eq] [(cstE (.int 1))]))),assignS hot (.one 6) (lstE true []),forS hot (.one 7) (biE hot .range [(subE (lstE false [(cstE (.int 0)),(cstE (.int 1)),(cstE (.int 3)),(cstE (.int 2))]) (binE false .Mod (binE false .FloorDiv (varE 1) (cstE (.int 64))) (cstE (.int 4))))]) (seqS [assignS hot (.one 8) (binE false .Add (binE false .Mult (binE false .Mult (cstE (.int 24)) (varE 3)) (binE false .Mod (binE false .Add (binE false .FloorDiv (varE 1) (cstE (.int 256))) (varE 7)) (cstE (.int 3)))) (binE false .Mod (binE false .FloorDiv (varE 1) (cstE (.int 768))) (cstE (.int 24)))),exprS (mbE .append (varE 6) [(tupE [(varE 8),(binE false .Add (binE false .Add (varE 8) (cstE (.int 1))) (binE false .Mod (binE false .Add (binE false .FloorDiv (varE 1) (cstE (.int 18432))) (binE false .Mult (cstE (.int 7)) (varE 7))) (cstE (.int 30))))])])]),retS (tupE [(varE 0),(varE 5),(subE (lstE false [(cstE (.int 1)),(cstE (.int 2)),(cstE (.int 3)),(binE false .Add (cstE (.int 1)) (binE false .Mod (binE false .FloorDiv (varE 1) (cstE (.int 256))) (cstE (.int 31))))]) (binE false .Mod (binE false .FloorDiv (varE 1) (cstE (.int 16))) (cstE (.int 4)))),(varE 6)])])
noncomputable def Zdq (Φ:Bool→FT) (hot:Bool):DS:=(seqS [assignS hot (.one 4) (binE false .Add (binE false .Mult (binE false .Mult (cstE (.int 24)) (varE 3)) (binE false .Mod (varE 1) (cstE (.int 3)))) (binE false .Mult (cstE (.int 8)) (binE false .Mod (binE false .FloorDiv (varE 1) (cstE (.int 3))) (cstE (.int 3))))),assignS hot (.one 5) (subE (lstE false [(lstE false [(cstE (.int 0))]),(lstE false [(cstE (.int 1))]),(lstE false [(cstE (.int 2))]),(lstE false [(cstE (.int 0)),(cstE (.int 1))]),(lstE false [(cstE (.int 3)),(cstE (.int 2))]),(lstE false [(cstE (.int 0)),(cstE (.int 1)),(cstE (.int 2))]),(lstE false [(cstE (.int 5)),(cstE (.int 3)),(cstE (.int 1)),(cstE (.int 0)),(cstE (.int 2)),(cstE (.int 4))]),(lstE false [])]) (binE false .Mod (binE false .FloorDiv (varE 1) (cstE (.int 72))) (cstE (.int 8)))),assignS hot (.one 6) (subE (lstE false [(cstE (.int 2)),(cstE (.int 2)),(cstE (.int 3)),(cstE (.int 9))]) (binE false .Mod (binE false .FloorDiv (varE 1) (cstE (.int 576))) (cstE (.int 4)))),assignS hot (.one 7) (compE hot false (tupE [(subE (varE 2) (varE 8)),(binE false .Add (cstE (.int 1)) (binE false .Mod (binE false .Add (binE false .FloorDiv (varE 1) (cstE (.int 2304))) (varE 8)) (varE 6)))]) (varE 5) (cstE (.bool true))),retS (tupE [(varE 0),(tupE [(varE 4),(binE false .Add (binE false .Add (varE 4) (cstE (.int 1))) (binE false .Mod (binE false .FloorDiv (varE 1) (cstE (.int 9))) (binE false .Sub (cstE (.int 24)) (binE false .Mod (varE 4) (cstE (.int 24))))))]),(varE 7)])])
noncomputable def ZcU (Φ:Bool→FT) (hot:Bool):DS:=(seqS [assignS hot (.one 13) (compE hot false (binE false .Mod (binE false .Add (varE 15) (binE false .FloorDiv (callE (Φ hot) 8 [(varE 0),(cstE (.int 21))]) (binE false .Add (cstE (.int 1)) (varE 4)))) (cstE (.int 4))) (biE hot .range [(cstE (.int 4))]) (cstE (.bool true))),assignS hot (.one 14) (compE hot false (tupE [(subE (varE 1) (varE 15)),(subE (subE (varE 5) (varE 4)) (varE 15))]) (varE 13) (cmpE (subE (subE (varE 5) (varE 4)) (varE 15)) [.Gt] [(cstE (.int 0))])),exprS (mbE .append (varE 12) [(tupE [(callE (Φ hot) 36 [(varE 0),(cstE (.int 1)),(varE 4)]),(tupE [(binE false .Add (binE false .Mult (binE false .Mult (cstE (.int 24)) (varE 2)) (varE 4)) (cstE (.int 5))),(binE false .Add (binE false .Mult (binE false .Mult (cstE (.int 24)) (varE 2)) (varE 4)) (cstE (.int 13)))]),(varE 14)])])])
noncomputable def ZcV (Φ:Bool→FT) (hot:Bool):DS:=(seqS [assignS hot (.one 8) (callE (Φ hot) 8 [(varE 0),(binE false .Add (cstE (.int 2)) (varE 7))]),assignS hot (.one 9) (compE hot true (binE false .Mod (binE false .FloorDiv (varE 8) (subE (lstE false [(cstE (.int 1)),(cstE (.int 2)),(cstE (.int 4)),(cstE (.int 8))]) (varE 15))) (cstE (.int 2))) (biE hot .range [(cstE (.int 4))]) (cstE (.bool true))),assignS hot (.one 10) (cstE (.int 0)),forS hot (.one 4) (biE hot .range [(biE hot .len [(varE 5)])]) (seqS [ifS (cmpE (binE false .Mod (binE false .FloorDiv (varE 8) (subE (lstE false [(cstE (.int 1024)),(cstE (.int 4096)),(cstE (.int 16384))]) (varE 4))) (cstE (.int 4))) [.Gt] [(cstE (.int 0))]) (seqS [augS (subE (varE 5) (varE 4)) (binE false .Mod (binE false .FloorDiv (varE 8) (subE (lstE false [(cstE (.int 16)),(cstE (.int 64)),(cstE (.int 256))]) (varE 4))) (cstE (.int 4))) (cstE (.int 1)),setItemS (varE 9) (binE false .Mod (binE false .FloorDiv (varE 8) (subE (lstE false [(cstE (.int 16)),(cstE (.int 64)),(cstE (.int 256))]) (varE 4))) (cstE (.int 4))) (cstE (.int 1)),assignS hot (.one 10) (binE false .Add (varE 10) (cstE (.int 1)))]) (seqS [])]),assignS hot (.one 11) (compE hot false (subE (varE 1) (varE 15)) (biE hot .range [(cstE (.int 4))]) (cmpE (subE (varE 9) (varE 15)) [.Eq] [(cstE (.int 1))])),exprS (mbE .append (varE 6) [(tupE [(callE (Φ hot) 36 [(varE 0),(cstE (.int 0)),(varE 7)]),(varE 11),(biE hot .max [(cstE (.int 1)),(varE 10)]),(lstE false [])])])])
noncomputable def Zdr (Φ:Bool→FT) (hot:Bool):DS:=(seqS [assignS hot (.one 3) (callE (Φ hot) 8 [(varE 0),(cstE (.int 0))]),assignS hot (.one 5) (compE hot false (lstE true [(cstE (.int 0)),(cstE (.int 0)),(cstE (.int 0)),(cstE (.int 0))]) (biE hot .range [(binE false .Add (cstE (.int 1)) (binE false .Mod (binE false .FloorDiv (varE 3) (cstE (.int 64))) (cstE (.int 3))))]) (cstE (.bool true))),assignS hot (.one 6) (lstE true []),forS hot (.one 7) (biE hot .range [(binE false .Add (cstE (.int 2)) (binE false .Mod (binE false .FloorDiv (varE 3) (cstE (.int 8))) (cstE (.int 6))))]) (ZcV Φ hot),augS (subE (varE 5) (cstE (.int 0))) (binE false .Mod (callE (Φ hot) 8 [(varE 0),(cstE (.int 20))]) (cstE (.int 4))) (biE hot .int [(cmpE (binE false .Mod (binE false .FloorDiv (callE (Φ hot) 8 [(varE 0),(cstE (.int 20))]) (cstE (.int 4))) (cstE (.int 4))) [.Eq] [(cstE (.int 0))])]),assignS hot (.one 12) (lstE true []),forS hot (.one 4) (biE hot .range [(biE hot .len [(varE 5)])]) (ZcU Φ hot),retS (tupE [(varE 6),(varE 12)])])
noncomputable def ZcR (Φ:Bool→FT) (hot:Bool):DS:=(seqS [assignS hot (.one 9) (binE false .Mult (cstE (.int 24)) (binE false .Add (binE false .Mult (cstE (.int 3)) (varE 2)) (varE 6))),exprS (mbE .append (varE 8) [(tupE [(callE (Φ hot) 36 [(varE 0),(cstE (.int 1)),(binE false .Add (cstE (.int 5)) (varE 6))]),(tupE [(varE 9),(binE false .Add (varE 9) (cstE (.int 24)))]),(lstE false [(tupE [(subE (varE 3) (binE false .Mod (varE 6) (cstE (.int 4)))),(cstE (.int 1))])])])])])
noncomputable def ZcS (Φ:Bool→FT) (hot:Bool):DS:=(seqS [exprS (mbE .append (varE 8) [(callE (Φ hot) 38 [(callE (Φ hot) 36 [(varE 0),(cstE (.int 1)),(varE 6)]),(callE (Φ hot) 8 [(varE 0),(binE false .Add (cstE (.int 20)) (varE 6))]),(varE 3),(varE 2)])])])
noncomputable def ZcT (Φ:Bool→FT) (hot:Bool):DS:=(seqS [assignS hot (.one 7) (binE false .Add (callE (Φ hot) 8 [(varE 0),(binE false .Add (cstE (.int 2)) (binE false .Mod (varE 6) (cstE (.int 16))))]) (binE false .Mult (cstE (.int 5)) (binE false .FloorDiv (varE 6) (cstE (.int 16))))),exprS (mbE .append (varE 5) [(callE (Φ hot) 37 [(callE (Φ hot) 36 [(varE 0),(cstE (.int 0)),(varE 6)]),(varE 7),(varE 3),(varE 2)])])])
noncomputable def Zdo (Φ:Bool→FT) (hot:Bool):DS:=(seqS [assignS hot (.one 1) (callE (Φ hot) 8 [(varE 0),(cstE (.int 0))]),assignS hot (.one 2) (subE (lstE false [(cstE (.int 1)),(cstE (.int 1)),(cstE (.int 2)),(binE false .Add (cstE (.int 1)) (binE false .Mod (binE false .FloorDiv (varE 1) (cstE (.int 4096))) (cstE (.int 40))))]) (binE false .Mod (binE false .FloorDiv (callE (Φ hot) 8 [(varE 0),(cstE (.int 1))]) (cstE (.int 8))) (cstE (.int 4)))),assignS hot (.one 3) (compE hot false (callE (Φ hot) 36 [(varE 0),(cstE (.int 2)),(varE 10)]) (biE hot .range [(cstE (.int 6))]) (cstE (.bool true))),ifS (cmpE (binE false .Mod (varE 1) (cstE (.int 2))) [.Eq] [(cstE (.int 1))]) (seqS [retS (callE (Φ hot) 39 [(varE 0),(varE 3),(varE 2)])]) (seqS []),assignS hot (.one 4) (binE false .Add (binE false .Mod (binE false .FloorDiv (varE 1) (cstE (.int 2))) (cstE (.int 8))) (subE (lstE false [(cstE (.int 0)),(cstE (.int 0)),(cstE (.int 0)),(cstE (.int 9))]) (binE false .Mod (binE false .FloorDiv (varE 1) (cstE (.int 16))) (cstE (.int 4))))),assignS hot (.one 5) (lstE true []),forS hot (.one 6) (biE hot .range [(binE false .Add (varE 4) (subE (lstE false [(cstE (.int 0)),(cstE (.int 20))]) (biE hot .int [(cmpE (binE false .Mod (binE false .FloorDiv (varE 1) (cstE (.int 64))) (cstE (.int 16))) [.Eq] [(cstE (.int 3))])])))]) (ZcT Φ hot),assignS hot (.one 8) (lstE true []),forS hot (.one 6) (biE hot .range [(binE false .Mod (binE false .FloorDiv (varE 1) (cstE (.int 1024))) (cstE (.int 5)))]) (ZcS Φ hot),forS hot (.one 6) (biE hot .range [(subE (lstE false [(cstE (.int 0)),(cstE (.int 0)),(cstE (.int 0)),(cstE (.int 0)),(cstE (.int 0)),(cstE (.int 0)),(cstE (.int 3)),(cstE (.int 9))]) (binE false .Mod (binE false .FloorDiv (varE 1) (cstE (.int 64))) (cstE (.int 8))))]) (ZcR Φ hot),retS (tupE [(varE 5),(varE 8)])])
noncomputable def ZbE (Φ:Bool→FT) (hot:Bool):DS:=(seqS [forS hot (.one 2) (subE (varE 1) (cstE (.int 3))) (seqS [exprS (moE gmC (Φ hot) 2 (varE 0) [(subE (varE 1) (cstE (.int 0))),(varE 2)])])])
noncomputable def Zci (Φ:Bool→FT) (hot:Bool):DS:=(seqS [exprS (moE gmC (Φ hot) 3 (varE 0) [(cstE (.str "new")),(tupE [(cstE (.int 0)),(cstE (.int 8))]),(lstE false [(tupE [(cstE (.str "x")),(cstE (.int 9))]),(tupE [(cstE (.str "y")),(cstE (.int 0))])])])])
noncomputable def Zcj (Φ:Bool→FT) (hot:Bool):DS:=(seqS [exprS (moE gmC (Φ hot) 1 (varE 0) [(cstE (.str "new")),(lstE false [(cstE (.str "x")),(cstE (.str "x"))]),(cstE (.int 3))])])
noncomputable def Zck (Φ:Bool→FT) (hot:Bool):DS:=(seqS [exprS (moE gmC (Φ hot) 3 (varE 0) [(cstE (.str "new")),(tupE [(cstE (.int 0)),(cstE (.int 30))]),(lstE false [(tupE [(cstE (.str "x")),(cstE (.int 9))])])])])
noncomputable def Zcl (Φ:Bool→FT) (hot:Bool):DS:=(seqS [ifS (cmpE (varE 3) [.Eq] [(cstE (.int 3))]) (Zck Φ hot) (seqS [ifS (cmpE (varE 3) [.Eq] [(cstE (.int 4))]) (Zcj Φ hot) (Zci Φ hot)])])
noncomputable def Zcm (Φ:Bool→FT) (hot:Bool):DS:=(seqS [exprS (moE gmC (Φ hot) 3 (varE 0) [(subE (subE (varE 2) (negE (cstE (.int 1)))) (cstE (.int 0))),(subE (subE (varE 2) (cstE (.int 0))) (cstE (.int 1))),(lstE false [(tupE [(cstE (.str "x")),(cstE (.int 9))])])])])
noncomputable def Zcn (Φ:Bool→FT) (hot:Bool):DS:=(seqS [exprS (moE gmC (Φ hot) 1 (varE 0) [(subE (subE (varE 1) (cstE (.int 0))) (cstE (.int 0))),(lstE false [(cstE (.str "x"))]),(cstE (.int 1))])])
noncomputable def Za3 (Φ:Bool→FT) (hot:Bool):DS:=(seqS [ifS (cmpE (varE 3) [.Eq] [(cstE (.int 1))]) (Zcn Φ hot) (seqS [ifS (cmpE (varE 3) [.Eq] [(cstE (.int 2))]) (Zcm Φ hot) (Zcl Φ hot)])])
noncomputable def Za4 (Φ:Bool→FT) (hot:Bool):DS:=(seqS [exprS (moE gmC (Φ hot) 2 (varE 0) [(subE (subE (varE 1) (negE (cstE (.int 1)))) (cstE (.int 0))),(tupE [(negE (cstE (.int 1))),(cstE (.int 2000000))])])])
noncomputable def ZaX (Φ:Bool→FT) (hot:Bool):DS:=(seqS [tryS hot gmC (seqS [ifS (cmpE (varE 3) [.Eq] [(cstE (.int 0))]) (Za4 Φ hot) (Za3 Φ hot)]) [(0,none,(seqS [retS (cstE (.bool true))]))],retS (cstE (.bool false))])
noncomputable def Zbb (Φ:Bool→FT) (hot:Bool):DS:=(seqS [ifS (bopE false [(cmpE (varE 7) [.NotEq] [(cstE (.int 2))]),(cmpE (varE 1) [.NotEq] [(lstE false [])])]) (seqS [exprS (callE (Φ hot) 42 [(varE 3),(varE 0),(varE 1),(varE 7)])]) (seqS [])])
noncomputable def ZbT (Φ:Bool→FT) (hot:Bool):DS:=(seqS [exprS (moE gmC (Φ hot) 1 (varE 3) [(subE (varE 5) (cstE (.int 0))),(biE hot (.list false) [(subE (varE 5) (cstE (.int 1)))]),(subE (varE 5) (cstE (.int 2)))]),exprS (callE (Φ hot) 41 [(varE 3),(varE 5)])])
noncomputable def ZbU (Φ:Bool→FT) (hot:Bool):DS:=(seqS [exprS (moE gmC (Φ hot) 3 (varE 3) [(subE (varE 6) (cstE (.int 0))),(subE (varE 6) (cstE (.int 1))),(biE hot (.list false) [(subE (varE 6) (cstE (.int 2)))])])])
noncomputable def ZbV (Φ:Bool→FT) (hot:Bool):DS:=(seqS [exprS (moE gmC (Φ hot) 1 (varE 3) [(subE (varE 5) (cstE (.int 0))),(biE hot (.list false) [(subE (varE 5) (cstE (.int 1)))]),(subE (varE 5) (cstE (.int 2)))]),ifS (cmpE (binE false .Mod (varE 2) (cstE (.int 4))) [.NotEq] [(cstE (.int 3))]) (seqS [exprS (callE (Φ hot) 41 [(varE 3),(varE 5)])]) (seqS [])])
noncomputable def ZbS (Φ:Bool→FT) (hot:Bool):DS:=(seqS [assignS hot (.one 3) (newE gmC (Φ hot) 2 []),assignS hot (.one 4) (subE (lstE false [(biE hot .len [(varE 0)]),(cstE (.int 0)),(binE false .Mod (binE false .FloorDiv (varE 2) (cstE (.int 4))) (binE false .Add (biE hot .len [(varE 0)]) (cstE (.int 1)))),(biE hot .len [(varE 0)])]) (binE false .Mod (varE 2) (cstE (.int 4)))),forS hot (.one 5) (slcE false (varE 0) (cstE .none) (varE 4) (cstE .none)) (ZbV Φ hot),forS hot (.one 6) (varE 1) (ZbU Φ hot),forS hot (.one 5) (slcE false (varE 0) (varE 4) (cstE .none) (cstE .none)) (ZbT Φ hot),ifS (cmpE (binE false .Mod (varE 2) (cstE (.int 4))) [.Eq] [(cstE (.int 3))]) (seqS [forS hot (.one 5) (varE 0) (seqS [exprS (callE (Φ hot) 41 [(varE 3),(varE 5)])])]) (seqS []),forS hot (.one 7) (biE hot .range [(subE (lstE false [(cstE (.int 0)),(cstE (.int 2))]) (biE hot .int [(cmpE (varE 0) [.Eq] [(lstE false [])])])),(cstE (.int 6))]) (Zbb Φ hot),retS (varE 3)])
noncomputable def Zff (Φ:Bool→FT) (hot:Bool):DS:=(seqS [forS hot (.one 3) (subE (varE 0) (cstE (.int 3))) (seqS [ifS (cmpE (biE hot .max [(subE (varE 3) (cstE (.int 0))),(subE (subE (varE 1) (cstE (.int 1))) (cstE (.int 0)))]) [.Lt] [(biE hot .min [(subE (varE 3) (cstE (.int 1))),(subE (subE (varE 1) (cstE (.int 1))) (cstE (.int 1)))])]) (seqS [retS (cstE (.bool false))]) (seqS [])]),retS (cmpE (varE 2) [.In] [(subE (varE 0) (cstE (.int 1)))])])
noncomputable def Zdp (Φ:Bool→FT) (hot:Bool):DS:=(seqS [assignS hot (.one 1) (lstE false []),forS hot (.one 2) (varE 0) (seqS [assignS hot (.one 1) (binE false .Add (varE 1) (compE hot false (tupE [(subE (varE 2) (cstE (.int 0))),(subE (varE 3) (cstE (.int 0)))]) (subE (varE 2) (cstE (.int 2))) (cstE (.bool true))))]),retS (varE 1)])
noncomputable def ZcB (Φ:Bool→FT) (hot:Bool):DS:=(seqS [assignS hot (.one 2) (cstE (.int 0)),forS hot (.one 3) (varE 0) (seqS [assignS hot (.one 2) (binE false .Add (varE 2) (biE hot .sum [(compE hot false (subE (varE 4) (cstE (.int 1))) (subE (varE 3) (cstE (.int 2))) (cmpE (tupE [(subE (varE 3) (cstE (.int 0))),(subE (varE 4) (cstE (.int 0)))]) [.In] [(varE 1)]))]))]),retS (varE 2)])
noncomputable def ZfV (Φ:Bool→FT) (hot:Bool):DS:=(seqS [ifS (bopE true [(cmpE (tupE [(subE (varE 4) (cstE (.int 0))),(subE (varE 5) (cstE (.int 0)))]) [.In] [(varE 2)]),(callE (Φ hot) 44 [(varE 0),(varE 4),(subE (varE 5) (cstE (.int 0)))]),(cmpE (binE false .FloorDiv (subE (subE (varE 4) (cstE (.int 1))) (cstE (.int 0))) (cstE (.int 24))) [.NotIn] [(varE 3)])]) (seqS [exprS (mbE .append (varE 3) [(binE false .FloorDiv (subE (subE (varE 4) (cstE (.int 1))) (cstE (.int 0))) (cstE (.int 24)))])]) (seqS [])])
noncomputable def Zd7 (Φ:Bool→FT) (hot:Bool):DS:=(seqS [assignS hot (.one 3) (lstE true []),forS hot (.one 4) (varE 1) (seqS [forS hot (.one 5) (subE (varE 4) (cstE (.int 2))) (ZfV Φ hot)]),retS (varE 3)])
noncomputable def Zd8 (Φ:Bool→FT) (hot:Bool):DS:=(seqS [retS (biE hot .sum [(compE hot false (biE hot .min [(subE (varE 3) (cstE (.int 2))),(biE hot .len [(callE (Φ hot) 47 [(varE 3),(varE 1),(varE 2)])])]) (varE 0) (cstE (.bool true)))])])
section
variable {ρ:RE} {H H₁ H₂ H₃ H₄:AH} {a b c v:AV} {as:List AV} {o:Out AV} {e l r t f:DE} {es:List DE} {hot mt:Bool} {Φ:FT} {G:Gm}
theorem ZmZ {n cl:Nat} {fs:List (Option AV)} (h:H[n]?=some (.inst cl fs)):inOf H (.ref n)=some (n,cl,fs):=by show (match H[n]? with | some (.inst c fs)=>some (n,c,fs) | _=>none)=_; rw [h]
theorem Zay {op:Operator} (h1:l ρ H=.ok a H₁) (h2:r ρ H₁=.ok b H₂) (h:binA mt op a b H₂=o):binE mt op l r ρ H=o:=by unfold binE; rw [h1]; show (r ρ H₁).bind _=o; rw [h2]; exact h
theorem Zab (h1:l ρ H=.ok a H₁) (h2:r ρ H₁=.ok b H₂) (h:subA a b H₂=o):subE l r ρ H=o:=by unfold subE; rw [h1]; show (r ρ H₁).bind _=o; rw [h2]; exact h
theorem Zec {lo hi st:DE} {x y z:AV} (h1:l ρ H=.ok a H₁) (h2:lo ρ H₁=.ok x H₂) (h3:hi ρ H₂=.ok y H₃) (h4:st ρ H₃=.ok z H₄) (h:slcA mt a x y z H₄=o):slcE mt l lo hi st ρ H=o:=by
 unfold slcE; rw [h1]; show (lo ρ H₁).bind _=o; rw [h2]; show (hi ρ H₂).bind _=o; rw [h3]; show (st ρ H₃).bind _=o; rw [h4]; exact h
theorem Zek:evL [] ρ H=.ok [] H:=rfl
theorem ZeU (h1:e ρ H=.ok a H₁) (h2:evL es ρ H₁=.ok as H₂):evL (e::es) ρ H=.ok (a::as) H₂:=by show (e ρ H).bind _=_; rw [h1]; show (evL es ρ H₁).bind _=_; rw [h2]; rfl
theorem Zaa (h1:e ρ H=.ok a H₁):evL [e] ρ H=.ok [a] H₁:=ZeU h1 rfl
theorem ZaI {e':DE} (h1:e ρ H=.ok a H₁) (h2:e' ρ H₁=.ok b H₂):evL [e,e'] ρ H=.ok [a,b] H₂:=ZeU h1 (Zaa h2)
theorem ZaE {e' e'':DE} (h1:e ρ H=.ok a H₁) (h2:e' ρ H₁=.ok b H₂) (h3:e'' ρ H₂=.ok c H₃):evL [e,e',e''] ρ H=.ok [a,b,c] H₃:=ZeU h1 (ZaI h2 h3)
theorem ZeI (h1:evL es ρ H=.ok as H₁) (hl:as.length≤1000) (h:newL mt as H₁=o):lstE mt es ρ H=o:=by
 unfold lstE; rw [h1]; exact (if_pos (Nat.le_trans hl (by decide))).trans h
theorem ZcC (h1:evL es ρ H=.ok as H₁) (hl:as.length≤1000):tupE es ρ H=.ok (.tup as) H₁:=by
 unfold tupE; rw [h1]; exact if_pos (Nat.le_trans hl (by decide))
theorem Zac {i:Nat} (h1:evL es ρ H=.ok as H₁) (h:Φ i as H₁=o):callE Φ i es ρ H=o:=by unfold callE; rw [h1]; exact h
theorem e_bi {x:Bi} (h1:evL es ρ H=.ok as H₁) (h:biA hot x as H₁=o):biE hot x es ρ H=o:=by unfold biE; rw [h1]; exact h
theorem e_mo {m n cl i:Nat} {fs:List (Option AV)} (h1:e ρ H=.ok (.ref n) H₁) (h2:H₁[n]?=some (.inst cl fs)) (h3:G.fn cl m=some i) (h4:evL es ρ H₁=.ok as H₂) (h:Φ i (.ref n::as) H₂=o):moE G Φ m e es ρ H=o:=by
 unfold moE; rw [h1]; show (orBad (inOf H₁ (.ref n)) _)=o
 have:inOf H₁ (.ref n)=some (n,cl,fs):=ZmZ h2
 rw [this]; show orBad (G.fn cl m) _=o; rw [h3]; show (evL es ρ H₁).bind _=o; rw [h4]; exact h
theorem Zas {k n cl:Nat} {fs:List (Option AV)} (h1:e ρ H=.ok (.ref n) H₁) (h2:H₁[n]?=some (.inst cl fs)) (h3:fs[k]?=some (some v)):attrE k e ρ H=.ok v H₁:=by
 unfold attrE; rw [h1]; show (orBad (inOf H₁ (.ref n)) _)=_
 have:inOf H₁ (.ref n)=some (n,cl,fs):=ZmZ h2
 rw [this]; show (match fs[k]? with | some (some v)=>Out.ok v H₁ | _=>.bad)=_; rw [h3]
theorem Zld {cl i:Nat} (h1:evL es ρ H=.ok as H₁) (h2:G.fn cl 0=some i) (h:Φ i (.ref H₁.length::as) (H₁++[.inst cl (List.replicate G.na none)])=.ok .none H₂):newE G Φ cl es ρ H=.ok (.ref H₁.length) H₂:=by
 unfold newE; rw [h1]; show orBad (G.fn cl 0) _=_; rw [h2]; show (Φ i _ _).bind _=_; rw [h]; rfl
theorem e_nt {x:Bool} (h:e ρ H=.ok (.bool x) H₁):ntE e ρ H=.ok (.bool (!x)) H₁:=by unfold ntE; rw [h]; rfl
theorem Zai {op:CmpOp} {x:Bool} (h1:l ρ H=.ok a H₁) (h2:r ρ H₁=.ok b H₂) (h:cmpA H₂ op a b=some x):cmpE l [op] [r] ρ H=.ok (.bool x) H₂:=by
 unfold cmpE; rw [h1]; show (r ρ H₁).bind _=_; rw [h2]; show orBad (cmpA H₂ op a b) _=_; rw [h]; rfl
theorem ZhE {op op':CmpOp} {x y:Bool} {r':DE} (h1:l ρ H=.ok a H₁) (h2:r ρ H₁=.ok b H₂) (h:cmpA H₂ op a b=some x) (h3:r' ρ H₂=.ok c H₂) (h':cmpA H₂ op' b c=some y):cmpE l [op,op'] [r,r'] ρ H=.ok (.bool (x && y)) H₂:=by
 unfold cmpE; rw [h1]; show (r ρ H₁).bind _=_; rw [h2]; show orBad (cmpA H₂ op a b) _=_; rw [h]
 cases x with
 | false=>rfl
 | true=>show (r' ρ H₂).bind _=_; rw [h3]; show orBad (cmpA H₂ op' b c) _=_; rw [h']; rfl
theorem Zoa {op op' op'':CmpOp} {x y z:Bool} {r' r'':DE} {d:AV} (h1:l ρ H=.ok a H₁) (h2:r ρ H₁=.ok b H₂) (h:cmpA H₂ op a b=some x) (h3:r' ρ H₂=.ok c H₂) (h':cmpA H₂ op' b c=some y) (h4:r'' ρ H₂=.ok d H₂) (h'':cmpA H₂ op'' c d=some z):cmpE l [op,op',op''] [r,r',r''] ρ H=.ok (.bool (x && (y && z))) H₂:=by
 unfold cmpE; rw [h1]; show (r ρ H₁).bind _=_; rw [h2]; show orBad (cmpA H₂ op a b) _=_; rw [h]
 cases x with
 | false=>rfl
 | true =>
  show (r' ρ H₂).bind _=_; rw [h3]; show orBad (cmpA H₂ op' b c) _=_; rw [h']
  cases y with
  | false=>rfl
  | true=>show (r'' ρ H₂).bind _=_; rw [h4]; show orBad (cmpA H₂ op'' c d) _=_; rw [h'']; rfl
theorem Zjj {x y:Bool} (h1:l ρ H=.ok (.bool x) H₁) (h2:r ρ H₁=.ok (.bool y) H₁):bopE true [l,r] ρ H=.ok (.bool (x && y)) H₁:=by
 show (l ρ H).bind _=_; rw [h1]; show (if x=true then _ else _)=_
 cases x with
 | false=>rfl
 | true=>exact h2
theorem Zeb {x y:Bool} (h1:l ρ H=.ok (.bool x) H₁) (h2:r ρ H₁=.ok (.bool y) H₁):bopE false [l,r] ρ H=.ok (.bool (x || y)) H₁:=by
 show (l ρ H).bind _=_; rw [h1]; show (if x=false then _ else _)=_
 cases x with
 | true=>rfl
 | false=>exact h2
theorem ZoV {x y z:Bool} {r':DE} (h1:l ρ H=.ok (.bool x) H₁) (h2:r ρ H₁=.ok (.bool y) H₁) (h3:r' ρ H₁=.ok (.bool z) H₁):bopE false [l,r,r'] ρ H=.ok (.bool (x || y || z)) H₁:=by
 have:=Zeb h2 h3
 show (l ρ H).bind _=_; rw [h1]; show (if x=false then _ else _)=_
 cases x with
 | true=>rfl
 | false=>exact this
end
section
variable {ρ ρ':RE} {H H₁ H₂:AH} {a:AV} {o:OutS} {e t:DE} {r:List DS} {s b c:DS} {hot:Bool}
theorem Za5 {i:Nat} (h:e ρ H=.ok a H₁) (h2:seqS r (ρ.set i (some a)) H₁=o):seqS (assignS hot (.one i) e::r) ρ H=o:=by
 show (assignS hot (.one i) e ρ H).then _=o; unfold assignS; rw [h]; exact h2
theorem ZdG (h:e ρ H=.ok a H₁) (h2:seqS r ρ H₁=o):seqS (exprS e::r) ρ H=o:=by
 show (exprS e ρ H).then _=o; unfold exprS; rw [h]; exact h2
theorem Zbh (h:e ρ H=.ok a H₁):seqS (retS e::r) ρ H=.ret a H₁:=by
 show (retS e ρ H).then _=_; unfold retS; rw [h]; rfl
theorem ZoG (h:s ρ H=.next ρ' H₁) (h2:seqS r ρ' H₁=o):seqS (s::r) ρ H=o:=by
 show (s ρ H).then _=o; rw [h]; exact h2
theorem Zkm {x:AV} (h:s ρ H=.ret x H₁):seqS (s::r) ρ H=.ret x H₁:=by
 show (s ρ H).then _=_; rw [h]; rfl
theorem Zbg {x:Nat} (h:s ρ H=.exc x ρ' H₁):seqS (s::r) ρ H=.exc x ρ' H₁:=by
 show (s ρ H).then _=_; rw [h]; rfl
theorem s_if {x:Bool} (h:t ρ H=.ok (.bool x) H₁) (h1:x=true→(b ρ H₁).then (seqS r)=o) (h2:x=false→(c ρ H₁).then (seqS r)=o):seqS (ifS t b c::r) ρ H=o:=by
 show (ifS t b c ρ H).then _=o; unfold ifS; rw [h]
 cases x with
 | true=>exact h1 rfl
 | false=>exact h2 rfl
theorem Zau (h:t ρ H=.ok (.bool false) H₁) (h2:seqS r ρ H₁=o):seqS (ifS t b (seqS [])::r) ρ H=o:=by
 show (ifS t b (seqS []) ρ H).then _=o; unfold ifS; rw [h]; exact h2
end
theorem ZeL {k:Int} (h0:0≤k) (h:k≤1000000):small k=true:=by unfold small; simp; lia
theorem ZnE {k:Int} {n:Nat} (h0:0≤k) (h:k.toNat<n) (hl:n≤1000000):small k=true∧idxA k n=some k.toNat:=by
 have q:=(Int.toNat_lt h0).mp h
 exact ⟨ZeL h0 (Int.le_trans (Int.le_of_lt q) (Int.ofNat_le.mpr hl)),by unfold idxA; rw [if_pos h0,if_pos q]⟩
structure BookR (R:Nat→Bool→FT):Prop where
 is_whole:RunAt R 0 1 1 Zd6
 is_stretch:RunAt R 1 1 1 ZcQ
 day_of:RunAt R 3 1 1 ZfT
 in_one_day:RunAt R 4 1 1 ZcP
 is_name:RunAt R 5 1 2 Zdn
 checked_skills:RunAt R 6 1 3 ZaH
 checked_needs:RunAt R 7 1 5 ZaM
 cell:RunAt R 8 2 2 ZfU
 sign:RunAt R 9 1 3 ZfW
 person_init:RunAt R 10 3 3 Zbp
 shift_init:RunAt R 11 3 3 ZbD
 book_init:RunAt R 12 1 1 ZbP
 add_person:RunAt R 13 4 5 Zaz
 add_rest:RunAt R 14 3 4 ZaL
 add_shift:RunAt R 15 4 5 Zav
 person:RunAt R 16 2 2 Zcp
 shift:RunAt R 17 2 2 ZcO
structure MayR (R:Nat→Bool→FT):Prop where
 meets:RunAt R 2 2 2 ZhC
 may:RunAt R 26 4 6 Zcx
variable {R:Nat→Bool→FT} {k:Nat} {hot:Bool} {H:AH}
theorem ZdD {mt:Bool} {i j:Int} (h:0<j∧j<1073741824):binA mt .Mod (.int i) (.int j) H=.ok (.int (i%j)) H:=by show (if 0<j∧j<1073741824 then _ else _)=_; exact if_pos h
theorem Zcq {mt:Bool} {i j:Int} (h:0<j∧j<1073741824):binA mt .FloorDiv (.int i) (.int j) H=.ok (.int (i / j)) H:=by show (if 0<j∧j<1073741824 then _ else _)=_; exact if_pos h
theorem mulI {mt:Bool} {i j:Int} (h:(-(2^64)<i∧i<2^64)∨(-(2^64)<j∧j<2^64)):binA mt .Mult (.int i) (.int j) H=.ok (.int (i*j)) H:=by show (if (-(2^64)<i∧i<2^64)∨(-(2^64)<j∧j<2^64) then _ else _)=_; exact if_pos h
theorem addI {mt:Bool} {i j:Int}:binA mt .Add (.int i) (.int j) H=.ok (.int (i+j)) H:=rfl
theorem addS {mt:Bool} {x y:Str} (h:x.length+y.length≤sizeLine):binA mt .Add (.str x) (.str y) H=.ok (.str (x++y)) H:=by show (if x.length+y.length≤sizeLine then _ else _)=_; exact if_pos h
theorem addL {mt:Bool} {xs ys:List AV} (h:xs.length+ys.length≤sizeLine):binA mt .Add (.lst xs) (.lst ys) H=newL mt (xs++ys) H:=by show (if xs.length+ys.length≤sizeLine then _ else _)=_; exact if_pos h
theorem Zfc {i j:Int}:cmpA H .Eq (.int i) (.int j)=some (decide (i=j)):=rfl
theorem Zgx {a b:AV}:subA (.tup [a,b]) (.int 0) H=.ok a H:=by rfl
theorem Zgy {a b:AV}:subA (.tup [a,b]) (.int 1) H=.ok b H:=by rfl
theorem subL {xs:List AV} {i:Int} {v:AV} (h0:0≤i) (h:xs[i.toNat]?=some v) (hl:xs.length≤1000000):subA (.lst xs) (.int i) H=.ok v H:=by
 have hlt:=(gsi h).1
 obtain ⟨hs,hi⟩:=ZnE h0 hlt hl
 show (orBad (some xs) fun xs=>orBad (atA i xs) fun v=>.ok v H)=_
 unfold atA
 simp only [orBad,hs,if_true,hi,Option.bind_some,h]
theorem subS {x:Str} {i:Int} {c:Nat} (h0:0≤i) (h:x.cps[i.toNat]?=some c) (hl:x.length≤1000000):subA (.str x) (.int i) H=.ok (AV.str ⟨#[c]⟩) H:=by
 have hlt:i.toNat<x.length:=(Array.getElem?_eq_some_iff.mp h).1
 obtain ⟨hs,hi⟩:=ZnE h0 hlt hl
 show (if small i=true then orBad ((idxA i x.length).bind fun n=>x.cps[n]?) fun c=>.ok (AV.str ⟨#[c]⟩) H else .bad)=_
 simp only [hs,if_true,hi,Option.bind_some,h,orBad]
theorem ZjX (C:MayR R) {a b c d:Int}:R (k+1) hot 2 [.tup [.int a,.int b],.tup [.int c,.int d]] H=.ok (.bool (decide (a<d) && decide (c<b))) H:=by
 rw [C.meets _ _ _ _ rfl]
 exact congrArg OutS.done (Zbh (Zjj (Zai (Zab rfl rfl Zgx) (Zab rfl rfl Zgy) rfl) (Zai (Zab rfl rfl Zgx) (Zab rfl rfl Zgy) rfl)))
theorem Zbe (C:BookR R) {a:Int}:R (k+1) hot 0 [.int a] H=.ok (.bool true) H:=by
 rw [C.is_whole _ _ _ _ rfl]; rfl
theorem ZaY (C:BookR R) {a b:Int}:R (k+2) hot 1 [.tup [.int a,.int b]] H=.ok (.bool (decide (0≤a) && (decide (a<b) && decide (b≤1000000)))) H:=by
 rw [C.is_stretch _ _ _ _ rfl]
 refine congrArg OutS.done (Zau (ZoV (x:=false) (y:=false) (z:=false) (Zai (e_bi (Zaa rfl) rfl) rfl rfl) (e_nt (Zac (Zaa (Zab rfl rfl Zgx)) (Zbe C))) (e_nt (Zac (Zaa (Zab rfl rfl Zgy)) (Zbe C)))) (Zbh ?_))
 exact Zoa rfl (Zab rfl rfl Zgx) rfl (Zab rfl rfl Zgy) rfl rfl rfl
theorem Zja (C:BookR R) {a b:Int}:R (k+1) hot 3 [.tup [.int a,.int b]] H=.ok (.int (a / 24)) H:=by
 rw [C.day_of _ _ _ _ rfl]
 exact congrArg OutS.done (Zbh (Zay (Zab rfl rfl Zgx) rfl (Zcq (by decide))))
theorem ZbH (C:BookR R) {a b:Int}:R (k+2) hot 4 [.tup [.int a,.int b]] H=.ok (.bool (decide (a / 24=(b-1) / 24))) H:=by
 rw [C.in_one_day _ _ _ _ rfl]
 exact congrArg OutS.done (Zbh (Zai (Zac (Zaa rfl) (Zja C)) (Zay (Zay (Zab rfl rfl Zgy) rfl rfl) rfl (Zcq (by decide))) Zfc))
theorem cut1 {xs:List Int} {i:Int} (h0:0≤i):cut (xs.map AV.int) (some i) (some (i+1))=(xs[i.toNat]?).toList.map .int:=by
 unfold cut clip
 simp only [qLm]
 rw [if_neg (Int.not_lt.mpr h0),if_neg (Int.not_lt.mpr (Int.add_nonneg h0 (by decide)))]
 by_cases h:i<xs.length
 ·rw [if_pos h]
  have hk:i.toNat<xs.length:=tnl h0 h
  have e:xs[i.toNat]?=some xs[i.toNat]:=qGg hk
  have:(if i+1<xs.length then (i+1).toNat else xs.length)-i.toNat=1:=by
   have e1:(i+1).toNat=i.toNat+1:=Int.toNat_add h0 (by decide)
   split
   ·rw [e1]; exact Nat.add_sub_cancel_left ..
   ·rename_i g
    have e2:xs.length=i.toNat+1:=Nat.le_antisymm (e1▸(Int.le_toNat (Int.add_nonneg h0 (by decide))).mpr (Int.not_lt.mp g)) hk
    rw [e2]; exact Nat.add_sub_cancel_left ..
  rw [this,e,← List.map_drop,List.drop_eq_getElem_cons hk]
  rfl
 ·rw [if_neg h]
  have e:xs[i.toNat]?=none:=List.getElem?_eq_none ((Int.le_toNat h0).mpr (Int.not_lt.mp h))
  rw [e]
  simp
theorem Zhy (C:BookR R) {xs:List Int} {i:Int} (h0:0≤i) (h1:i<1000) (hx:xs.length≤63):R (k+1) hot 8 [.lst (xs.map .int),.int i] H=.ok (.int (cell xs i)) H:=by
 rw [C.cell _ _ _ _ rfl]
 have hs:1000≤sizeLine:=by decide
 have e1:slcA false (.lst (xs.map .int)) (.int i) (.int (i+1)) .none H=.ok (.lst ((xs[i.toNat]?).toList.map .int)) H:=by
  have s1:optI (.int i)=some (some i):=if_pos (ZeL h0 (i_le (Int.le_of_lt h1) rfl))
  have s2:optI (.int (i+1))=some (some (i+1)):=if_pos (ZeL (Int.add_nonneg h0 (by decide)) (i_le (Int.add_one_le_of_lt h1) rfl))
  unfold slcA
  rw [s1,s2,← cut1 h0]
  exact if_pos (by simp; exact Nat.le_of_lt (lt_t ‹_› rfl))
 have e2:binA false .Add (.lst ((xs[i.toNat]?).toList.map .int)) (.lst [.int 0]) H=.ok (.lst ((xs[i.toNat]?).toList.map .int++[.int 0])) H:=addL (by cases xs[i.toNat]?<;>simp<;>lia)
 have e3:subA (.lst ((xs[i.toNat]?).toList.map .int++[.int 0])) (.int 0) H=.ok (.int (cell xs i)) H:=by
  refine subL (by decide) ?_ (by cases xs[i.toNat]?<;>simp)
  unfold cell
  rw [List.getD_eq_getElem?_getD]
  cases xs[i.toNat]?<;>rfl
 exact congrArg OutS.done (Zbh (Zab (Zay (Zec rfl rfl (Zay rfl rfl rfl) rfl e1) (ZeI (Zaa rfl) (by decide) rfl) e2) rfl e3))
noncomputable def okc (c:Nat):Bool:=decide (33≤c) && decide (c≤126)
noncomputable def nameOK (x:Str):Bool:=decide (1≤x.length) && decide (x.length≤20) && x.cps.toList.all okc
noncomputable def one (c:Nat):AV:=.str ⟨#[c]⟩
noncomputable def sgc (i:Int):Nat:=if (i%93).toNat<4 then (i%93).toNat+33 else (i%93).toNat+34
theorem Ze4 (i:Int):okc (sgc i)=true:=by
 unfold okc sgc
 split<;>simp<;>lia
theorem ZkX:∀ n<93,((("!\"#$&'()*+,-./0123456789:;<=>?" : Str)++("@ABCDEFGHIJKLMNOPQRSTUVWXYZ[\\]^_`" : Str))++("abcdefghijklmnopqrstuvwxyz{|}~" : Str)).cps[n]?=some (if n<4 then n+33 else n+34):=by
 decide +kernel
theorem ZfC (C:BookR R) {i:Int}:R (k+1) hot 9 [.int i] H=.ok (one (sgc i)) H:=by
 rw [C.sign _ _ _ _ rfl]
 have hlt:(i%93).toNat<93:=by lia
 have e4:=subS (H:=H) (i:=i%93) (by exact Int.emod_nonneg _ (by decide)) (ZkX _ hlt) (by decide +kernel)
 exact congrArg OutS.done (Za5 rfl (Za5 rfl (Zbh (Zab (Zay (Zay rfl rfl (addS (by decide +kernel))) rfl (addS (by decide +kernel))) (Zay rfl rfl (ZdD (by decide))) e4))))
section
variable {ρ:RE} {H H₁:AH} {a:AV} {xs:List AV} {hot mt:Bool}
set_option smartUnfolding false in
theorem Zg1 {B:AV→DS} {P:OutS→Prop} {src:Src} (Inv:Nat→RE→AH→Prop) (hs:∀ k ρ H,Inv k ρ H→itemAt H src k=some xs[k]?)
  (step:∀ (k:Nat) v ρ H,xs[k]?=some v→Inv k ρ H→(∃ ρ' H',B v ρ H=.next ρ' H'∧Inv (k+1) ρ' H')∨(∃ a H',B v ρ H=.ret a H'∧P (.ret a H'))∨∃ c ρ' H',B v ρ H=.exc c ρ' H'∧P (.exc c ρ' H'))
  (fin:∀ ρ H,Inv xs.length ρ H→P (.next ρ H)):∀ (n k:Nat) (ρ:RE) (H:AH),n+k=xs.length→Inv k ρ H→P (loopS B src n k ρ H)
 | 0,k,ρ,H,e,i=>by
  show P (match itemAt H src k with | none=>OutS.bad | some none=>.next ρ H | some (some v)=>.bad)
  rw [hs k ρ H i,List.getElem?_eq_none (by lia)]
  exact fin ρ H (by rw [show xs.length=k by lia]; exact i)
 | n+1,k,ρ,H,e,i=>by
  have hk:xs[k]?=some xs[k]:=qGg (by lia)
  show P (match itemAt H src k with | none=>OutS.bad | some none=>.next ρ H | some (some v)=>(B v ρ H).then (loopS B src n (k+1)))
  rw [hs k ρ H i,hk]
  show P ((B xs[k] ρ H).then (loopS B src n (k+1)))
  rcases step k _ ρ H hk i with ⟨ρ',H',e1,i'⟩ | ⟨a,H',e1,p⟩ | ⟨c,ρ',H',e1,p⟩
  ·rw [e1]; exact Zg1 Inv hs step fin n (k+1) ρ' H' (by lia) i'
  ·rw [e1]; exact p
  ·rw [e1]; exact p
theorem Zce {B:AV→DS} {P:OutS→Prop} (Inv:Nat→RE→AH→Prop)
  (step:∀ (k:Nat) v ρ H,xs[k]?=some v→Inv k ρ H→(∃ ρ' H',B v ρ H=.next ρ' H'∧Inv (k+1) ρ' H')∨(∃ a H',B v ρ H=.ret a H'∧P (.ret a H'))∨∃ c ρ' H',B v ρ H=.exc c ρ' H'∧P (.exc c ρ' H'))
  (fin:∀ ρ H,Inv xs.length ρ H→P (.next ρ H)):∀ (n k:Nat) (ρ:RE) (H:AH),n+k=xs.length→Inv k ρ H→P (loopS B (.seq xs) n k ρ H):=Zg1 Inv (fun _ _ _ _=>rfl) step fin
theorem ZcZ (o:OutS):o.free none=o:=by cases o<;>rfl
theorem Zfl {i n:Nat} {it:DE} {b:DS} (h:it ρ H=.ok a H₁) (hs:srcOf H₁ a=some (.seq xs,n,none)):forS false (.one i) it b ρ H=loopS (fun v ρ H=>b (ρ.set i (some v)) H) (.seq xs) n 0 ρ H₁:=by
 unfold forS
 rw [h]
 show orBadS (srcOf H₁ a) _=_
 rw [hs]
 exact ZcZ _
theorem Zfk {is:List Nat} {n:Nat} {it:DE} {b:DS} (h:it ρ H=.ok a H₁) (hs:srcOf H₁ a=some (.seq xs,n,none)):forS false (.many is) it b ρ H=loopS (fun v ρ H=>orBadS (bindT false (.many is) v ρ) fun ρ₁=>b ρ₁ H) (.seq xs) n 0 ρ H₁:=by
 unfold forS
 rw [h]
 show orBadS (srcOf H₁ a) _=_
 rw [hs]
 exact ZcZ _
set_option smartUnfolding false in
theorem ZdM {α:Type} {l:List α} {fx fy:α→AV} {p:α→Bool} {src:Src} {T E:AV→AH→Out AV} (hs:∀ k,itemAt H src k=some (l.map fx)[k]?) (hT:∀ x∈l,T (fx x) H=.ok (.bool (p x)) H) (hE:∀ x∈l,p x=true→E (fx x) H=.ok (fy x) H):∀ (n k:Nat) (acc:List AV),n+k=l.length→compL T E src n k acc H=.ok (acc++((l.drop k).filter p).map fy) H
 | 0,k,acc,e=>by
  show (match itemAt H src k with | none=>Out.bad | some none=>.ok acc H | some (some v)=>.bad)=_
  rw [hs k,List.getElem?_eq_none (by rw [qLm]; lia),List.drop_eq_nil_of_le (by lia)]
  exact congrArg (Out.ok · H) (List.append_nil acc).symm
 | n+1,k,acc,e=>by
  have hk:k<l.length:=by lia
  have hk':(l.map fx)[k]?=some (fx l[k]):=by rw [qGm,qGg hk]; rfl
  have hm:l[k]∈l:=List.getElem_mem _
  show (match itemAt H src k with | none=>Out.bad | some none=>.ok acc H | some (some v)=>(T v H).bind fun c H₁=>asBool c fun c=>if c then (E v H₁).bind fun a H₂=>compL T E src n (k+1) (acc++[a]) H₂ else compL T E src n (k+1) acc H₁)=_
  rw [hs k,hk',List.drop_eq_getElem_cons hk]
  show (T (fx l[k]) H).bind _=_
  rw [hT _ hm]
  show (if p l[k]=true then _ else _)=_
  cases hp:p l[k] with
  | false =>
   rw [if_neg (by decide),List.filter_cons_of_neg (by rw [hp]; decide)]
   exact ZdM hs hT hE n (k+1) acc (by lia)
  | true =>
   rw [if_pos rfl,List.filter_cons_of_pos hp,hE _ hm hp]
   show compL T E src n (k+1) (acc++[fy l[k]]) H=_
   rw [ZdM hs hT hE n (k+1) _ (by lia),List.map_cons,qAa]; rfl
theorem Zfh {α:Type} {l:List α} {fx fy:α→AV} {p:α→Bool} {src:Src} {elt it cond:DE} {n:Nat} {o:Out AV} (h:it ρ H=.ok a H₁) (hs:srcOf H₁ a=some (src,n,none)) (hi:∀ k,itemAt H₁ src k=some (l.map fx)[k]?) (hn:n=l.length) (hl:l.length≤1000000) (hT:∀ x∈l,cond (ρ++[some (fx x)]) H₁=.ok (.bool (p x)) H₁) (hE:∀ x∈l,p x=true→elt (ρ++[some (fx x)]) H₁=.ok (fy x) H₁)
  (ho:newL mt ((l.filter p).map fy) H₁=o):compE false mt elt it cond ρ H=o:=by
 subst hn
 unfold compE
 rw [h]
 show orBad (srcOf H₁ a) _=_
 rw [hs]
 show (if false=false∧l.length≤1000000 then _ else _)=_
 rw [if_pos ⟨rfl,hl⟩]
 show (Out.calm (compL _ _ src l.length 0 [] H₁)).bind _=_
 rw [ZdM (T:=fun v=>cond (ρ++[some v])) (E:=fun v=>elt (ρ++[some v])) hi hT hE _ _ _ (Nat.add_zero _)]
 exact ho
theorem ZfX {elt it cond:DE} {n:Nat} {p:AV→Bool} {g:AV→AV} {o:Out AV} (h:it ρ H=.ok a H₁) (hs:srcOf H₁ a=some (.seq xs,n,none)) (hn:n=xs.length) (hl:xs.length≤1000000) (hT:∀ v∈xs,cond (ρ++[some v]) H₁=.ok (.bool (p v)) H₁) (hE:∀ v∈xs,p v=true→elt (ρ++[some v]) H₁=.ok (g v) H₁)
  (ho:newL mt ((xs.filter p).map g) H₁=o):compE false mt elt it cond ρ H=o :=
 Zfh (fx:=id) h hs (fun _=>by rw [List.map_id]; rfl) hn hl hT hE ho
theorem ZgT {elt it:DE} {n:Nat} {g:AV→AV} {o:Out AV} (h:it ρ H=.ok a H₁) (hs:srcOf H₁ a=some (.seq xs,n,none)) (hn:n=xs.length) (hl:xs.length≤1000000) (hE:∀ v∈xs,elt (ρ++[some v]) H₁=.ok (g v) H₁) (ho:newL mt (xs.map g) H₁=o):compE false mt elt it (cstE (.bool true)) ρ H=o :=
 ZfX (p:=fun _=>true) h hs hn hl (fun _ _=>rfl) (fun v hv _=>hE v hv) (by rw [List.filter_eq_self.mpr fun _ _=>rfl]; exact ho)
theorem ZaU {x:Int} {v:AV} (h:v∈span 0 x):∃ i:Int,0≤i∧i<x∧v=.int i:=by
 unfold span at h
 simp only [List.mem_map,List.mem_range] at h
 refine x1_2 (h) fun i hi e2'=>?_; try clear h; subst e2'
 exact ⟨i,Int.natCast_nonneg _,by omega,by simp⟩
theorem Zan {x:Int} (h0:0≤x) (h:x<1000000):srcOf H (.rng 0 x)=some (.seq (span 0 x),x.toNat,none):=by
 have:small x=true:=ZeL h0 (Int.le_of_lt h)
 have h1:small 0=true:=by decide
 show (if (small 0 && small x)=true then some (Src.seq (span 0 x),(x-0).toNat,none) else none)=_
 rw [this,h1,Int.sub_zero]; rfl
end
section
variable {R:Nat→Bool→FT} {k:Nat} {H:AH}
theorem Zov {c:Nat}:cmpA H .LtE (.str "!") (one c)=some (decide (33≤c)):=by
 show some (!decide (([c]:List Nat)<[33]))=_
 congr 1
 by_cases h:c<33
 ·have:([c]:List Nat)<[33]:=List.Lex.rel h
  simp [this]; assumption
 ·have:¬ ([c]:List Nat)<[33]:=fun q=>by
   cases q with
   | rel q=>exact h q
   | cons q=>cases q
  simp [this]; exact Nat.not_lt.mp ‹_›
theorem Zok {c:Nat}:cmpA H .LtE (one c) (.str "~")=some (decide (c≤126)):=by
 show some (!decide (([126]:List Nat)<[c]))=_
 congr 1
 by_cases h:126<c
 ·have:([126]:List Nat)<[c]:=List.Lex.rel h
  simp [this]; assumption
 ·have:¬ ([126]:List Nat)<[c]:=fun q=>by
   cases q with
   | rel q=>exact h q
   | cons q=>cases q
  simp [this]; exact Nat.not_lt.mp ‹_›
theorem Zaw (C:BookR R) {x:Str} (hx:x.length≤100000):R (k+1) false 5 [.str x] H=.ok (.bool (nameOK x)) H:=by
 rw [C.is_name _ _ _ _ rfl]
 have hl:biA false .len [.str x] H=.ok (.int x.length) H:=by
  show (if x.length<2^62 then _ else _)=_
  exact if_pos (lt_t ‹_› rfl)
 have c1:cmpA H .LtE (.int 1) (.int x.length)=some (decide ((1:Int)≤x.length)):=rfl
 have c2:cmpA H .LtE (.int x.length) (.int 20)=some (decide ((x.length:Int)≤20)):=rfl
 suffices h:Zdn (R k) false (rho0 [.str x] 2) H=.ret (.bool (nameOK x)) H by rw [h]; rfl
 refine s_if (e_nt (ZhE (c:=.int 20) rfl (e_bi (Zaa rfl) hl) c1 rfl c2)) (fun h=>?_) fun h=>?_
 ·have:nameOK x=false:=by
   simp only [Bool.not_eq_true',Bool.and_eq_false_iff,decide_eq_false_iff_not] at h
   unfold nameOK
   rcases h with h | h
   ·rw [decide_eq_false (show ¬ 1≤x.length by lia)]; rfl
   ·rw [decide_eq_false (show ¬ x.length≤20 by lia)]; simp
  rw [this]; rfl
 ·simp only [Bool.not_eq_false',qBt,decide_eq_true_eq] at h
  show (forS false (.one 1) (varE 0) _ [some (.str x),none] H).then _=_
  rw [Zfl (a:=.str x) (xs:=signs x) (n:=x.length) rfl rfl]
  refine Zce (P:=fun o=>o.then _=.ret (.bool (nameOK x)) H) (fun k ρ H'=>H'=H∧(∃ o,ρ=[some (.str x),o])∧(x.cps.toList.take k).all okc=true) ?_ ?_ _ _ _ _ (by simp [signs]; rfl) ⟨rfl,⟨_,rfl⟩,rfl⟩
  ·rintro k v ρ H' hv ⟨rfl,⟨o,rfl⟩,ha⟩
   obtain ⟨c,hc,rfl⟩:∃ c,x.cps.toList[k]?=some c∧v=one c:=by
    unfold signs at hv
    rw [qGm] at hv
    refine x1_2 (oms hv) fun c hc e=>?_
    exact ⟨c,hc,e.symm⟩
   have hr:seqS [ifS (ntE (cmpE (cstE (.str "!")) [.LtE,.LtE] [(varE 1),(cstE (.str "~"))])) (seqS [retS (cstE (.bool false))]) (seqS [])] [some (.str x),some (one c)] H'=if okc c then .next [some (.str x),some (one c)] H' else .ret (.bool false) H':=by
    refine s_if (e_nt (ZhE (c:=.str "~") rfl rfl Zov rfl Zok)) (fun h=>?_) fun h=>?_
    ·rw [show okc c=false from (Bool.not_eq_true' _).mp h]; rfl
    ·rw [show okc c=true from (Bool.not_eq_false' _).mp h]; rfl
   cases ho:okc c with
   | true =>
    rw [ho] at hr
    refine .inl ⟨_,H',hr,rfl,⟨_,rfl⟩,?_⟩
    rw [List.take_add_one,List.all_append,ha,hc]
    simp [ho]
   | false =>
    rw [ho] at hr
    refine .inr (.inl ⟨.bool false,H',hr,?_⟩)
    have:nameOK x=false:=by
     unfold nameOK
     have:x.cps.toList.all okc=false:=by
      rw [List.all_eq_false]
      exact ⟨c,qMo hc,by rw [ho]; decide⟩
     rw [this]; simp
    rw [this]; rfl
  ·rintro ρ H' ⟨rfl,⟨o,rfl⟩,ha⟩
   have:nameOK x=true:=by
    unfold nameOK
    rw [decide_eq_true (show 1≤x.length by lia),decide_eq_true (show x.length≤20 by lia)]
    have hl':(signs x).length=x.cps.toList.length:=by simp [signs]
    rw [hl',List.take_length] at ha
    rw [ha]; rfl
   rw [this]; rfl
end
section
variable {R:Nat→Bool→FT} {k:Nat} {H:AH}
theorem Zbr {x y:Str}:PyData.eqv (.str x) (.str y)=decide (x=y):=by
 show (x == y)=decide (x=y)
 by_cases q:x=y
 ·subst q; simp
 ·simp [q]
theorem Zk8 {xs:List Str}:denL (den deep H) (xs.map .str)=some (xs.map .str):=by
 induction xs with
 | nil=>rfl
 | cons x r ih=>show ((some (PyData.str x)).bind fun d=>(denL (den deep H) (r.map .str)).map (d::·))=_; rw [ih]; rfl
theorem ZmA {x:Str} {xs:List Str}:((xs.map PyData.str).any fun y=>PyData.eqv y (.str x))=decide (x∈xs):=by
 rw [Bool.eq_iff_iff]
 simp only [List.any_eq_true,List.mem_map,decide_eq_true_eq]
 constructor
 ·rintro ⟨_,⟨y,hy,rfl⟩,e⟩
  rw [Zbr,decide_eq_true_eq] at e
  exact e▸hy
 ·intro h
  exact ⟨_,⟨x,h,rfl⟩,by rw [Zbr]; simp⟩
theorem Zbs {a:AV} {x:Str} {xs:List Str} (hd:dcOf H a=none) (h:lsOf H a=some (xs.map .str)):cmpA H .In (.str x) a=some (decide (x∈xs)):=by
 show inA H (.str x) a=_
 unfold inA
 rw [hd,h]
 show ((some (PyData.str x)).bind fun d=>(denL (den deep H) (xs.map .str)).map fun ds=>ds.any fun y=>PyData.eqv y d)=_
 rw [Zk8]
 show some (((xs.map PyData.str).any fun y=>PyData.eqv y (.str x)))=_
 rw [ZmA]
theorem Zax {ρ:RE} {H H₁ H₂:AH} {e:DE} {es:List DE} {v:AV} {n:Nat} {xs ys:List AV} (h1:e ρ H=.ok (.ref n) H₁) (h3:H₁[n]?=some (.lst ys)) (h2:evL es ρ H₁=.ok [v] H₂) (h4:H₂[n]?=some (.lst xs)) (hl:xs.length≤1000000):mbE .append e es ρ H=.ok .none (H₂.set n (.lst (xs++[v]))):=by
 have k1:kindM (.ref n) H₁=2:=by show (match H₁[n]? with | some (.lst _)=>2 | some (.dict _)=>3 | _=>0)=2; rw [h3]
 have k2:kindM (.ref n) H₂=2:=by show (match H₂[n]? with | some (.lst _)=>2 | some (.dict _)=>3 | _=>0)=2; rw [h4]
 unfold mbE
 rw [h1]
 show orBad (bmId (kindM (.ref n) H₁) .append) _=_
 rw [k1]
 show (evL es ρ H₁).bind _=_
 rw [h2]
 show (if 2=kindM (.ref n) H₂ then mbA .append (.ref n) [v] H₂ else .bad)=_
 rw [k2,if_pos rfl]
 rw [ZjW h4]
 exact if_pos hl
theorem Zaj {H:AH} {o:AO}:(H++[o])[H.length]?=some o:=by simp
theorem Zdf {H:AH} {o o':AO}:(H++[o]).set H.length o'=H++[o']:=by simp
theorem Ze5 (C:BookR R) {xs:List Str} (hn:∀ x∈xs,nameOK x=true) (hd:xs.Nodup) (hl:xs.length≤1000) (hx:∀ x∈xs,x.length≤100000):R (k+2) false 6 [.lst (xs.map .str)] H=.ok (.ref H.length) (H++[.lst (xs.map .str)]):=by
 rw [C.checked_skills _ _ _ _ rfl]
 suffices h:ZaH (R (k+1)) false (rho0 [.lst (xs.map .str)] 3) H=.ret (.ref H.length) (H++[.lst (xs.map .str)]) by rw [h]; rfl
 refine Za5 (a:=.ref H.length) (H₁:=H++[.lst []]) rfl ?_
 show (forS false (.one 2) (varE 0) _ [some (.lst (xs.map .str)),some (.ref H.length),none] (H++[.lst []])).then _=_
 rw [Zfl (a:=.lst (xs.map .str)) (xs:=xs.map .str) (n:=(xs.map AV.str).length) rfl rfl]
 refine Zce (P:=fun o=>o.then _=.ret (.ref H.length) (H++[.lst (xs.map .str)])) (fun k ρ H'=>(∃ o,ρ=[some (.lst (xs.map .str)),some (.ref H.length),o])∧H'=H++[.lst ((xs.take k).map .str)]) ?_ ?_ _ 0 _ _ (Nat.add_zero _) ⟨⟨_,rfl⟩,rfl⟩
 ·rintro j v ρ H' hv ⟨⟨o,rfl⟩,rfl⟩
  rw [qGm] at hv
  refine x1_2 (oms hv) fun x hj e2'=>?_; subst e2'
  have hm:=qMo hj
  have hlt:=(gsi hj).1
  have hnot:x∉xs.take j:=fun q=>by
   obtain ⟨i,hi,e⟩:=List.mem_iff_getElem.mp q
   rw [qLt] at hi
   rw [List.getElem_take] at e
   have e2:=(gsi hj).2
   have:=(List.getElem_inj hd).mp (e.trans e2.symm)
   lia
  have hls:lsOf (H++[.lst ((xs.take j).map .str)]) (.ref H.length)=some ((xs.take j).map .str):=by
   show (match (H++[AO.lst ((xs.take j).map .str)])[H.length]? with | some (.lst xs)=>some xs | _=>none)=_; rw [Zaj]
  have hdc:dcOf (H++[.lst ((xs.take j).map .str)]) (.ref H.length)=none:=by
   show (match (H++[AO.lst ((xs.take j).map .str)])[H.length]? with | some (.dict es)=>some (H.length,es) | some (.ldict es)=>some (H.length,es) | _=>none)=_; rw [Zaj]
  refine .inl ⟨[some (.lst (xs.map .str)),some (.ref H.length),some (.str x)],H++[.lst ((xs.take (j+1)).map .str)],?_,⟨_,rfl⟩,rfl⟩
  refine Zau (e_nt (x:=true) (Zac (Zaa rfl) ((Zaw C (hx x hm)).trans (by rw [hn x hm])))) ?_
  refine Zau (Zai rfl rfl ((Zbs hdc hls).trans (by rw [decide_eq_false hnot]))) ?_
  refine ZdG (a:=.none) (H₁:=H++[.lst ((xs.take (j+1)).map .str)]) ?_ rfl
  refine (Zax rfl Zaj (Zaa rfl) Zaj (by simp; exact Nat.le_trans (Nat.min_le_right _ _) (le_t ‹_› rfl))).trans ?_
  rw [Zdf,List.take_add_one,hj]
  simp
 ·rintro ρ H' ⟨⟨o,rfl⟩,rfl⟩
  rw [qLm,List.take_length]; rfl
end
structure Sm where
 name:Str
 hours:Int×Int
 needs:List (Str×Int)
noncomputable def needAV (n:Str×Int):AV:=.tup [.str n.1,.int n.2]
noncomputable def pfs (sk aw:Nat) (lim:Int):List (Option AV):=[some (.ref sk),some (.int lim),some (.ref aw),none,none,none,none,none,none,none,none,none]
noncomputable def sfs (h:Int×Int) (nd:Nat):List (Option AV):=[none,none,none,some (stAV h),some (.ref nd),none,none,none,none,none,none,none]
noncomputable def bfs (fd wd:Nat):List (Option AV):=[none,none,none,none,none,some (.ref fd),some (.ref wd),none,none,none,none,none]
noncomputable abbrev PR:=(Nat×Nat×Nat)×Pm
noncomputable abbrev SR:=(Nat×Nat)×Sm
structure PAt (H:AH) (p:PR):Prop where
 ob:H[p.1.1]?=some (.inst 0 (pfs p.1.2.1 p.1.2.2 p.2.limit))
 sk:H[p.1.2.1]?=some (.lst (p.2.skills.map .str))
 aw:H[p.1.2.2]?=some (.lst (p.2.rests.map stAV))
structure SAt (H:AH) (s:SR):Prop where
 ob:H[s.1.1]?=some (.inst 1 (sfs s.2.hours s.1.2))
 nd:H[s.1.2]?=some (.lst (s.2.needs.map needAV))
noncomputable def pRefs (p:PR):List Nat:=[p.1.1,p.1.2.1,p.1.2.2]
noncomputable def sRefs (s:SR):List Nat:=[s.1.1,s.1.2]
noncomputable def bRefs (b fd wd:Nat) (ps:List PR) (ss:List SR):List Nat:=b::fd::wd::(ps.flatMap pRefs++ss.flatMap sRefs)
noncomputable def folkD (ps:List PR):List (Key×AV):=ps.map fun p=>(.str p.2.name,.ref p.1.1)
noncomputable def workD (ss:List SR):List (Key×AV):=ss.map fun s=>(.str s.2.name,.ref s.1.1)
structure BookAt (H:AH) (b fd wd:Nat) (ps:List PR) (ss:List SR):Prop where
 book:H[b]?=some (.inst 2 (bfs fd wd))
 folk:H[fd]?=some (.dict (folkD ps))
 work:H[wd]?=some (.dict (workD ss))
 pat:∀ p∈ps,PAt H p
 sat:∀ s∈ss,SAt H s
 nodup:(bRefs b fd wd ps ss).Nodup
 few:ps.length+ss.length≤1000
section
variable {H H':AH} {b fd wd:Nat} {ps:List PR} {ss:List SR}
theorem BookAt.lt (B:BookAt H b fd wd ps ss):∀ n∈bRefs b fd wd ps ss,n<H.length:=by
 have g:∀ {n:Nat} {o:AO},H[n]?=some o→n<H.length:=fun h=>(gsi h).1
 intro n hn
 unfold bRefs at hn
 rcases List.mem_cons.mp hn with rfl | hn
 ·exact g B.book
 rcases List.mem_cons.mp hn with rfl | hn
 ·exact g B.folk
 rcases List.mem_cons.mp hn with rfl | hn
 ·exact g B.work
 rcases qMp hn with hn | hn
 ·refine x1_2 (List.mem_flatMap.mp hn) fun p hp hn=>?_
  have:=B.pat p hp
  simp only [pRefs,List.mem_cons,List.not_mem_nil,or_false] at hn
  rcases hn with rfl | rfl | rfl
  ·exact g this.ob
  ·exact g this.sk
  ·exact g this.aw
 ·refine x1_2 (List.mem_flatMap.mp hn) fun p hp hn=>?_
  have:=B.sat p hp
  simp only [sRefs,List.mem_cons,List.not_mem_nil,or_false] at hn
  rcases hn with rfl | rfl
  ·exact g this.ob
  ·exact g this.nd
theorem Ziw {p:PR} (hp:p∈ps):p.1.1∈bRefs b fd wd ps ss∧p.1.2.1∈bRefs b fd wd ps ss∧p.1.2.2∈bRefs b fd wd ps ss:=by
 have h:∀ n∈pRefs p,n∈bRefs b fd wd ps ss:=fun n hn=>.tail _ (.tail _ (.tail _ (List.mem_append.mpr (.inl (List.mem_flatMap.mpr ⟨p,hp,hn⟩)))))
 exact ⟨h _ (.head _),h _ (.tail _ (.head _)),h _ (.tail _ (.tail _ (.head _)))⟩
theorem Znf {s:SR} (hs:s∈ss):s.1.1∈bRefs b fd wd ps ss∧s.1.2∈bRefs b fd wd ps ss:=by
 have h:∀ n∈sRefs s,n∈bRefs b fd wd ps ss:=fun n hn=>.tail _ (.tail _ (.tail _ (List.mem_append.mpr (.inr (List.mem_flatMap.mpr ⟨s,hs,hn⟩)))))
 exact ⟨h _ (.head _),h _ (.tail _ (.head _))⟩
theorem BookAt.frame (B:BookAt H b fd wd ps ss) (h:∀ n∈bRefs b fd wd ps ss,H'[n]?=H[n]?):BookAt H' b fd wd ps ss :=
 ⟨(h _ (.head _)).trans B.book,(h _ (.tail _ (.head _))).trans B.folk,(h _ (.tail _ (.tail _ (.head _)))).trans B.work,
  fun p hp=>let m:=Ziw (b:=b) (fd:=fd) (wd:=wd) (ss:=ss) hp; ⟨(h _ m.1).trans (B.pat p hp).ob,(h _ m.2.1).trans (B.pat p hp).sk,(h _ m.2.2).trans (B.pat p hp).aw⟩,
  fun s hs=>let m:=Znf (b:=b) (fd:=fd) (wd:=wd) (ps:=ps) hs; ⟨(h _ m.1).trans (B.sat s hs).ob,(h _ m.2).trans (B.sat s hs).nd⟩,B.nodup,B.few⟩
theorem BookAt.grow {l:AH} (B:BookAt H b fd wd ps ss):BookAt (H++l) b fd wd ps ss:=B.frame fun n hn=>qGl (B.lt n hn)
theorem Zdu {α:Type} {f:α→Str} {g:α→Nat} {l:List α} {x:Str}:((l.map fun p=>((Key.str (f p),AV.ref (g p)):Key×AV)).any fun e=>decide (e.1=Key.str x))=decide (x∈l.map f):=by
 rw [Bool.eq_iff_iff]
 simp only [List.any_eq_true,List.mem_map,decide_eq_true_eq]
 constructor
 ·rintro ⟨_,⟨p,hp,rfl⟩,e⟩
  exact ⟨p,hp,by simpa using e⟩
 ·rintro ⟨p,hp,rfl⟩
  exact ⟨_,⟨p,hp,rfl⟩,rfl⟩
theorem ZmK {n:Nat} {es:List (Key×AV)} (h:H[n]?=some (.dict es)):dcOf H (.ref n)=some (n,es):=by
 show (match H[n]? with | some (.dict es)=>some (n,es) | some (.ldict es)=>some (n,es) | _=>none)=_; rw [h]
theorem Zeh {n:Nat} {es:List (Key×AV)} {x:Str} {y:Bool} (h:H[n]?=some (.dict es)) (hy:(es.any fun e=>decide (e.1=Key.str x))=y):cmpA H .In (.str x) (.ref n)=some y:=by
 show inA H (.str x) (.ref n)=_
 unfold inA
 rw [ZmK h]
 exact congrArg some hy
theorem ZhV {n:Nat} {es:List (Key×AV)} {x:Str} {y:Bool} (h:H[n]?=some (.dict es)) (hy:(es.any fun e=>decide (e.1=Key.str x))=y):cmpA H .NotIn (.str x) (.ref n)=some (!y):=by
 show (inA H (.str x) (.ref n)).map (!·)=_
 have:=Zeh h hy
 rw [show inA H (.str x) (.ref n)=some y from this]; rfl
end
section
variable {ρ:RE} {H H₁ H₂ H₃ H₄:AH} {o:OutS} {e e' e'':DE} {r:List DS} {hot:Bool} {v a k:AV}
theorem ZdF {i n c:Nat} {fs:List (Option AV)} (h1:e ρ H=.ok v H₁) (h2:e' ρ H₁=.ok (.ref n) H₂) (h3:H₂[n]?=some (.inst c fs)) (h4:i<fs.length) (h:seqS r ρ (H₂.set n (.inst c (fs.set i (some v))))=o):seqS (setAttrS i e' e::r) ρ H=o:=by
 show (setAttrS i e' e ρ H).then _=o
 unfold setAttrS
 rw [h1]
 show ((e' ρ H₁).inS ρ _).then _=o
 rw [h2]
 show (orBadS (inOf H₂ (.ref n)) _).then _=o
 rw [ZmZ h3]
 show (if i<fs.length then OutS.next ρ (H₂.set n (.inst c (fs.set i (some v)))) else .bad).then _=o
 rw [if_pos h4]
 exact h
theorem Zkl (h1:e'' ρ H=.ok v H₁) (h2:e ρ H₁=.ok a H₂) (h3:e' ρ H₂=.ok k H₃) (h4:setItemA a k v H₃=some H₄) (h:seqS r ρ H₄=o):seqS (setItemS e e' e''::r) ρ H=o:=by
 show (setItemS e e' e'' ρ H).then _=o
 unfold setItemS
 rw [h1]
 show ((e ρ H₁).inS ρ _).then _=o
 rw [h2]
 show ((e' ρ H₂).inS ρ _).then _=o
 rw [h3]
 show (orBadS (setItemA a k v H₃) _).then _=o
 rw [h4]
 exact h
theorem Zkr {n:Nat} {es:List (Key×AV)} {x:Str} (h:H[n]?=some (.dict es)) (hl:es.length≤1000000) (hx:(es.any fun e=>decide (e.1=Key.str x))=false):setItemA (.ref n) (.str x) v H=some (H.set n (.dict (es++[(.str x,v)]))):=by
 show (match H[n]? with | some (.lst xs)=>_ | some (.dict es)=>_ | _=>none)=_
 rw [h]
 show (if es.length≤1000000 then some (H.set n (.dict (setD es (.str x) v))) else none)=_
 rw [if_pos hl]
 unfold setD
 rw [hx]
 rfl
end
section
variable {R:Nat→Bool→FT} {k:Nat} {hot:Bool} {H:AH} {b fd wd:Nat} {ps:List PR} {ss:List SR}
theorem Zon {p:PR} (hp:p∈ps) (hn:(ps.map (·.2.name)).Nodup):(folkD ps).lookup (.str p.2.name)=some (.ref p.1.1):=by
 unfold folkD
 induction ps with
 | nil=>cases hp
 | cons q r ih =>
  rw [List.map_cons,List.lookup_cons]
  rw [List.map_cons,List.nodup_cons] at hn
  cases hp with
  | head=>simp
  | tail _ hp =>
   have:(Key.str p.2.name == Key.str q.2.name)=false:=by
    rw [beq_eq_false_iff_ne]
    intro e
    exact hn.1 (List.mem_map.mpr ⟨p,hp,by simpa using e⟩)
   rw [this]
   exact ih hp hn.2
theorem ZkL {n:Nat} {es:List (Key×AV)} {x:Str} {v:AV} (h:H[n]?=some (.dict es)) (hx:es.lookup (.str x)=some v):subA (.ref n) (.str x) H=.ok v H:=by
 unfold subA
 rw [ZmK h]
 show (orBad (es.lookup (.str x)) fun v=>.ok v H)=_
 rw [hx]; rfl
theorem Za8 (C:BookR R) (B:BookAt H b fd wd ps ss) (hn:(ps.map (·.2.name)).Nodup) {p:PR} (hp:p∈ps):R (k+1) hot 16 [.ref b,.str p.2.name] H=.ok (.ref p.1.1) H:=by
 rw [C.person _ _ _ _ rfl]
 have hin:((folkD ps).any fun e=>decide (e.1=Key.str p.2.name))=true:=by
  unfold folkD; rw [Zdu]; exact decide_eq_true (List.mem_map.mpr ⟨p,hp,rfl⟩)
 exact congrArg OutS.done (Zau (Zai rfl (Zas rfl B.book rfl) (ZhV B.folk hin)) (Zbh (Zab (Zas rfl B.book rfl) rfl (ZkL B.folk (Zon hp hn)))))
theorem Zml {s:SR} (hs:s∈ss) (hn:(ss.map (·.2.name)).Nodup):(workD ss).lookup (.str s.2.name)=some (.ref s.1.1):=by
 unfold workD
 induction ss with
 | nil=>cases hs
 | cons q r ih =>
  rw [List.map_cons,List.lookup_cons]
  rw [List.map_cons,List.nodup_cons] at hn
  cases hs with
  | head=>simp
  | tail _ hs =>
   have:(Key.str s.2.name == Key.str q.2.name)=false:=by
    rw [beq_eq_false_iff_ne]
    intro e
    exact hn.1 (List.mem_map.mpr ⟨s,hs,by simpa using e⟩)
   rw [this]
   exact ih hs hn.2
theorem Zer (C:BookR R) (B:BookAt H b fd wd ps ss) (hn:(ss.map (·.2.name)).Nodup) {s:SR} (hs:s∈ss):R (k+1) hot 17 [.ref b,.str s.2.name] H=.ok (.ref s.1.1) H:=by
 rw [C.shift _ _ _ _ rfl]
 have hin:((workD ss).any fun e=>decide (e.1=Key.str s.2.name))=true:=by
  unfold workD; rw [Zdu]; exact decide_eq_true (List.mem_map.mpr ⟨s,hs,rfl⟩)
 exact congrArg OutS.done (Zau (Zai rfl (Zas rfl B.book rfl) (ZhV B.work hin)) (Zbh (Zab (Zas rfl B.book rfl) rfl (ZkL B.work (Zml hs hn)))))
theorem ZaV {o:AO} {l:AH}:(H++o::l)[H.length]?=some o:=by simp
theorem Zde {o o':AO} {l:AH}:(H++o::l).set H.length o'=H++o'::l:=by simp
theorem Ziy (C:BookR R) {sk:Nat} {lim:Int} {ρ:RE} {H₁:AH} {es:List DE} (h:evL es ρ H=.ok [.ref sk,.int lim] H₁):newE gmC (R (k+1) hot) 0 es ρ H=.ok (.ref H₁.length) (H₁++[.inst 0 (pfs sk (H₁.length+1) lim),.lst []]):=by
 refine Zld (i:=10) h rfl ?_
 rw [C.person_init _ _ _ _ rfl]
 suffices q:Zbp (R k) hot (rho0 [.ref H₁.length,.ref sk,.int lim] 3) (H₁++[.inst 0 (List.replicate gmC.na none)])=.next [some (.ref H₁.length),some (.ref sk),some (.int lim)] (H₁++[.inst 0 (pfs sk (H₁.length+1) lim),.lst []]) by rw [q]; rfl
 refine ZdF rfl rfl ZaV (Nat.le_of_ble_eq_true rfl) ?_
 rw [Zde]
 refine ZdF rfl rfl ZaV (Nat.le_of_ble_eq_true rfl) ?_
 rw [Zde]
 refine ZdF (ZeI rfl (by decide) rfl) rfl (by rw [qAa]; exact ZaV) (Nat.le_of_ble_eq_true rfl) ?_
 rw [qAa]
 show OutS.next _ ((H₁++AO.inst 0 _::[AO.lst []]).set H₁.length _)=_
 rw [Zde]
 rw [qLa]
 rfl
theorem Zku (C:BookR R) {h:Int×Int} {nd:Nat} {ρ:RE} {H₁:AH} {es:List DE} (hh:evL es ρ H=.ok [stAV h,.ref nd] H₁):newE gmC (R (k+1) hot) 1 es ρ H=.ok (.ref H₁.length) (H₁++[.inst 1 (sfs h nd)]):=by
 refine Zld (i:=11) hh rfl ?_
 rw [C.shift_init _ _ _ _ rfl]
 suffices q:ZbD (R k) hot (rho0 [.ref H₁.length,stAV h,.ref nd] 3) (H₁++[.inst 1 (List.replicate gmC.na none)])=.next [some (.ref H₁.length),some (stAV h),some (.ref nd)] (H₁++[.inst 1 (sfs h nd)]) by rw [q]; rfl
 refine ZdF rfl rfl ZaV (Nat.le_of_ble_eq_true rfl) ?_
 rw [Zde]
 refine ZdF rfl rfl ZaV (Nat.le_of_ble_eq_true rfl) ?_
 rw [Zde]
 rfl
theorem Zhv (C:BookR R) {ρ:RE}:newE gmC (R (k+1) hot) 2 [] ρ H=.ok (.ref H.length) (H++[.inst 2 (bfs (H.length+1) (H.length+2)),.dict [],.dict []]):=by
 refine Zld (i:=12) (H₁:=H) rfl rfl ?_
 rw [C.book_init _ _ _ _ rfl]
 suffices q:ZbP (R k) hot (rho0 [.ref H.length] 1) (H++[.inst 2 (List.replicate gmC.na none)])=.next [some (.ref H.length)] (H++[.inst 2 (bfs (H.length+1) (H.length+2)),.dict [],.dict []]) by rw [q]; rfl
 refine ZdF rfl rfl (by rw [qAa]; exact ZaV) (Nat.le_of_ble_eq_true rfl) ?_
 rw [qAa]
 show seqS _ _ ((H++AO.inst 2 _::[AO.dict []]).set H.length _)=_
 rw [Zde]
 refine ZdF rfl rfl (by rw [qAa]; exact ZaV) (Nat.le_of_ble_eq_true rfl) ?_
 rw [qAa]
 show OutS.next _ ((H++AO.inst 2 _::[AO.dict [],AO.dict []]).set H.length _)=_
 rw [Zde]
 rw [qLa,qLa]
 rfl
end
section
variable {R:Nat→Bool→FT} {k:Nat} {hot:Bool} {H:AH} {b fd wd:Nat} {ps:List PR} {ss:List SR}
theorem Zf1 {o o':AO} {l:AH}:(H++o::o'::l)[H.length+1]?=some o':=by simp
theorem Zms {o o' o'':AO} {l:AH}:(H++o::o'::l).set (H.length+1) o''=H++o::o''::l:=by
 rw [List.set_append_right _ _ (Nat.le_add_right _ _),Nat.add_sub_cancel_left]; rfl
theorem Zdw {n:Nat} {xs:List AV} (h:H[n]?=some (.lst xs)):lsOf H (.ref n)=some xs:=by
 show (match H[n]? with | some (.lst xs)=>some xs | _=>none)=_; rw [h]
theorem Zc8 {n:Nat} {xs:List AV} (h:H[n]?=some (.lst xs)):dcOf H (.ref n)=none:=by
 show (match H[n]? with | some (.dict es)=>some (n,es) | some (.ldict es)=>some (n,es) | _=>none)=_; rw [h]
theorem Za7 {α:Type} {xs:List α} {j:Nat} {x:α} (hd:xs.Nodup) (hj:xs[j]?=some x):x∉xs.take j:=fun q=>by
 obtain ⟨i,hi,e⟩:=List.mem_iff_getElem.mp q
 rw [qLt] at hi
 rw [List.getElem_take] at e
 have hlt:=(gsi hj).1
 have e2:=(gsi hj).2
 have:=(List.getElem_inj hd).mp (e.trans e2.symm)
 lia -abstractProof
theorem Zgz {α β:Type} {f:α→β} {xs:List α} {j:Nat} {x:α} (hj:xs[j]?=some x):(xs.take j).map f++[f x]=(xs.take (j+1)).map f:=by
 rw [List.take_add_one,hj]; simp
theorem ZaJ {x:Str} (h:nameOK x=true):x.length≤100000:=by
 unfold nameOK at h
 simp only [qBt,decide_eq_true_eq] at h
 lia -abstractProof
structure NeedsOK (ns:List (Str×Int)):Prop where
 names:∀ n∈ns,nameOK n.1=true
 nodup:(ns.map (·.1)).Nodup
 counts:∀ n∈ns,1≤n.2∧n.2≤9
 few:ns.length≤1000
theorem Zga (C:BookR R) {ns:List (Str×Int)} (hn:NeedsOK ns):R (k+2) false 7 [.lst (ns.map needAV)] H=.ok (.ref (H.length+1)) (H++[.lst ((ns.map (·.1)).map .str),.lst (ns.map needAV)]):=by
 rw [C.checked_needs _ _ _ _ rfl]
 suffices h:ZaM (R (k+1)) false (rho0 [.lst (ns.map needAV)] 5) H=.ret (.ref (H.length+1)) (H++[.lst ((ns.map (·.1)).map .str),.lst (ns.map needAV)]) by rw [h]; rfl
 refine Za5 (a:=.ref H.length) (H₁:=H++[.lst []]) rfl (Za5 (a:=.ref (H.length+1)) (H₁:=H++[.lst [],.lst []]) ?_ ?_)
 ·refine (ZeI Zek (by decide) rfl).trans ?_
  show Out.ok (AV.ref (H++[AO.lst []]).length) ((H++[AO.lst []])++[AO.lst []])=_
  rw [qLa,qAa]; rfl
 show (forS false (.many [3,4]) (varE 0) _ [some (.lst (ns.map needAV)),some (.ref H.length),some (.ref (H.length+1)),none,none] (H++[.lst [],.lst []])).then _=_
 rw [Zfk (a:=.lst (ns.map needAV)) (xs:=ns.map needAV) (n:=(ns.map needAV).length) rfl rfl]
 refine Zce (P:=fun o=>o.then _=.ret (.ref (H.length+1)) (H++[.lst ((ns.map (·.1)).map .str),.lst (ns.map needAV)])) (fun k ρ H'=>(∃ o o',ρ=[some (.lst (ns.map needAV)),some (.ref H.length),some (.ref (H.length+1)),o,o'])∧H'=H++[.lst (((ns.map (·.1)).take k).map .str),.lst ((ns.take k).map needAV)]) ?_ ?_ _ 0 _ _ (Nat.add_zero _) ⟨⟨_,_,rfl⟩,rfl⟩
 ·rintro j v ρ H' hv ⟨⟨o,o',rfl⟩,rfl⟩
  rw [qGm] at hv
  obtain ⟨⟨x,c⟩,hj,rfl⟩:=oms hv
  have hm:=qMo hj
  have hj1:(ns.map (·.1))[j]?=some x:=by rw [qGm,hj]; rfl
  have hlt:=(gsi hj).1
  have hx:=hn.names _ hm
  have hc:=hn.counts _ hm
  have hf:=hn.few
  have hnot:=Za7 hn.nodup hj1
  refine .inl ⟨[some (.lst (ns.map needAV)),some (.ref H.length),some (.ref (H.length+1)),some (.str x),some (.int c)],H++[.lst (((ns.map (·.1)).take (j+1)).map .str),.lst ((ns.take (j+1)).map needAV)],?_,⟨_,_,rfl⟩,rfl⟩
  show seqS _ [some (.lst (ns.map needAV)),some (.ref H.length),some (.ref (H.length+1)),some (.str x),some (.int c)] _=_
  refine Zau (e_nt (x:=true) (Zac (Zaa rfl) ((Zaw C (ZaJ hx)).trans (by rw [hx])))) ?_
  refine Zau (Zai rfl rfl ((Zbs (Zc8 ZaV) (Zdw ZaV)).trans (by rw [decide_eq_false hnot]))) ?_
  refine Zau (Zeb (x:=false) (y:=false) (e_nt (x:=true) (Zac (Zaa rfl) (Zbe C))) (e_nt (x:=true) ((ZhE (c:=.int 9) (x:=decide (1≤c)) (y:=decide (c≤9)) rfl rfl rfl rfl rfl).trans (by rw [decide_eq_true hc.1,decide_eq_true hc.2]; rfl)))) ?_
  refine ZdG (Zax rfl ZaV (Zaa rfl) ZaV (by simp; exact Nat.le_trans (Nat.min_le_right _ _) (le_t ‹_› rfl))) ?_
  rw [Zde,Zgz (f:=AV.str) hj1]
  refine ZdG (Zax rfl Zf1 (Zaa (ZcC (ZaI rfl rfl) (by simp))) Zf1 (by simp; exact Nat.le_trans (Nat.min_le_right _ _) (le_t ‹_› rfl))) ?_
  rw [Zms]
  show OutS.next _ (H++[_,AO.lst (List.map needAV (ns.take j)++[needAV (x,c)])])=_
  rw [Zgz (f:=needAV) hj]
 ·rintro ρ H' ⟨⟨o,o',rfl⟩,rfl⟩
  rw [qLm]
  have e1:(ns.map (·.1)).take ns.length=ns.map (·.1):=List.take_of_length_le (by simp)
  rw [e1,List.take_length]; rfl
end
section
variable {R:Nat→Bool→FT} {k:Nat} {hot:Bool} {H:AH} {b fd wd:Nat} {ps:List PR} {ss:List SR}
structure SkillsOK (xs:List Str):Prop where
 names:∀ x∈xs,nameOK x=true
 nodup:xs.Nodup
 few:xs.length≤1000
theorem ZhI {ps:List PR}:(folkD ps).length=ps.length:=by unfold folkD; simp
theorem Zif {ss:List SR}:(workD ss).length=ss.length:=by unfold workD; simp
noncomputable def addP (H:AH) (fd:Nat) (ps:List PR) (nm:Str) (sk:List Str) (lim:Int):AH:=(H++[AO.lst (sk.map .str),AO.inst 0 (pfs H.length (H.length+2) lim),AO.lst []]:AH).set fd (.dict (folkD ps++[(.str nm,.ref (H.length+1))]))
theorem Zez (C:BookR R) (B:BookAt H b fd wd ps ss) {nm:Str} {sk:List Str} {lim:Int} (hn:nameOK nm=true) (hs:SkillsOK sk) (hl:1≤lim∧lim≤31) (hx:nm∉ps.map (·.2.name)) :
  R (k+3) false 13 [.ref b,.str nm,.lst (sk.map .str),.int lim] H=.ok .none (addP H fd ps nm sk lim):=by
 rw [C.add_person _ _ _ _ rfl]
 have hin:((folkD ps).any fun e=>decide (e.1=Key.str nm))=false:=by
  unfold folkD; rw [Zdu]; exact decide_eq_false hx
 suffices q:Zaz (R (k+2)) false (rho0 [.ref b,.str nm,.lst (sk.map .str),.int lim] 5) H=.next [some (.ref b),some (.str nm),some (.lst (sk.map .str)),some (.int lim),some (.ref H.length)] (addP H fd ps nm sk lim) by rw [q]; rfl
 have B1:BookAt (H++[.lst (sk.map .str)]) b fd wd ps ss:=B.grow
 have B2:BookAt ((H++[.lst (sk.map .str)])++[.inst 0 (pfs H.length ((H++[AO.lst (sk.map .str)]).length+1) lim),.lst []]) b fd wd ps ss:=B1.grow
 refine Zau (e_nt (x:=true) (Zac (Zaa rfl) ((Zaw C (ZaJ hn)).trans (by rw [hn])))) ?_
 refine Za5 (Zac (Zaa rfl) (Ze5 C hs.names hs.nodup hs.few fun x hx=>ZaJ (hs.names x hx))) ?_
 refine Zau (Zeb (x:=false) (y:=false) (e_nt (x:=true) (Zac (Zaa rfl) (Zbe C))) (e_nt (x:=true) ((ZhE (c:=.int 31) (x:=decide (1≤lim)) (y:=decide (lim≤31)) rfl rfl rfl rfl rfl).trans (by rw [decide_eq_true hl.1,decide_eq_true hl.2]; rfl)))) ?_
 refine Zau (Zai rfl (Zas rfl B1.book rfl) (Zeh B1.folk hin)) ?_
 refine Zkl (Ziy C (ZaI rfl rfl)) (Zas rfl B2.book rfl) rfl (Zkr B2.folk (by rw [ZhI]; have:=B.few; lia) hin) ?_
 show OutS.next _ _=_
 unfold addP
 rw [qAa,qLa]
 rfl
theorem Zmj {H:AH} {l:AH} {n:Nat} (h:n<H.length):(H++l)[n]?=H[n]?:=qGl h
theorem Zaf {H:AH} {n m:Nat} {o:AO} (h:n≠m):(H.set n o)[m]?=H[m]?:=by rw [List.getElem?_set,if_neg h]
theorem ZaB {H:AH} {n:Nat} {o:AO} (h:n<H.length):(H.set n o)[n]?=some o:=by rw [List.getElem?_set,if_pos rfl,if_pos h]
theorem ZfG {nm:Str} {sk:List Str} {lim:Int} {n:Nat} (hn:n<H.length) (h:n≠fd):(addP H fd ps nm sk lim)[n]?=H[n]?:=by
 unfold addP
 rw [Zaf (Ne.symm h),Zmj hn]
theorem ZeZ {l m:List Nat} {N:Nat} (h:l.Nodup) (hl:∀ n∈l,n<N) (hm:m.Nodup) (hm2:∀ n∈m,N≤n):(l++m).Nodup:=by
 rw [List.nodup_append]
 exact ⟨h,hm,fun a ha b hb e=>by have:=hl a ha; have:=hm2 b hb; lia -abstractProof⟩
theorem Zgc {q:PR} (h:(bRefs b fd wd ps ss++pRefs q).Nodup):(bRefs b fd wd (ps++[q]) ss).Nodup:=by
 refine List.Perm.nodup ?_ h
 unfold bRefs
 rw [List.flatMap_append]
 show (b::fd::wd::(ps.flatMap pRefs++ss.flatMap sRefs)++pRefs q).Perm (b::fd::wd::((ps.flatMap pRefs++(pRefs q++[]))++ss.flatMap sRefs))
 rw [List.append_nil]
 refine List.Perm.cons _ (List.Perm.cons _ (List.Perm.cons _ ?_))
 show ((ps.flatMap pRefs++ss.flatMap sRefs)++pRefs q).Perm _
 rw [qAa,qAa]
 exact List.Perm.append_left _ List.perm_append_comm
theorem BookAt.addP (B:BookAt H b fd wd ps ss) {nm:Str} {sk:List Str} {lim:Int} (hf:ps.length+ss.length<1000):BookAt (addP H fd ps nm sk lim) b fd wd (ps++[((H.length+1,H.length,H.length+2),⟨nm,sk,lim,[]⟩)]) ss:=by
 have nd:=B.nodup
 have hfd:fd<H.length:=B.lt _ (.tail _ (.head _))
 unfold bRefs at nd
 have hb:b≠fd:=fun e=>(List.nodup_cons.mp nd).1 (e▸.head _)
 have hw:wd≠fd:=fun e=>(List.nodup_cons.mp (List.nodup_cons.mp nd).2).1 (e▸.head _)
 have hr:∀ n∈ps.flatMap pRefs++ss.flatMap sRefs,n≠fd:=fun n hn e=>(List.nodup_cons.mp (List.nodup_cons.mp nd).2).1 (e▸.tail _ hn)
 have kp:∀ n∈bRefs b fd wd ps ss,n≠fd→(Mine.Internal.addP H fd ps nm sk lim)[n]?=H[n]?:=fun n hn h=>ZfG (B.lt n hn) h
 have new:∀ (j:Nat) (o:AO),([AO.lst (sk.map .str),.inst 0 (pfs H.length (H.length+2) lim),.lst []]:AH)[j]?=some o→(Mine.Internal.addP H fd ps nm sk lim)[H.length+j]?=some o:=fun j o h=>by
  unfold Mine.Internal.addP
  rw [Zaf (by lia -abstractProof),List.getElem?_append_right (Nat.le_add_right _ _),Nat.add_sub_cancel_left]
  exact h
 refine ⟨(kp _ (.head _) hb).trans B.book,?_,(kp _ (.tail _ (.tail _ (.head _))) hw).trans B.work,fun p hp=>?_,fun s hs=>?_,Zgc (ZeZ B.nodup B.lt ?_ ?_),by rw [qLa]; simp; lia -abstractProof⟩
 ·unfold Mine.Internal.addP
  rw [ZaB (by rw [qLa]; exact Nat.lt_of_lt_of_le ‹_› (Nat.le_add_right _ _))]
  unfold folkD
  rw [qMa]; rfl
 ·rcases qMp hp with hp | hp
  ·have m:=Ziw (b:=b) (fd:=fd) (wd:=wd) (ss:=ss) hp
   have hh:∀ n∈pRefs p,n≠fd:=fun n hn=>hr n (List.mem_append.mpr (.inl (List.mem_flatMap.mpr ⟨p,hp,hn⟩)))
   exact ⟨(kp _ m.1 (hh _ (.head _))).trans (B.pat p hp).ob,(kp _ m.2.1 (hh _ (.tail _ (.head _)))).trans (B.pat p hp).sk,(kp _ m.2.2 (hh _ (.tail _ (.tail _ (.head _))))).trans (B.pat p hp).aw⟩
  ·cases qMs hp
   exact ⟨new 1 _ rfl,new 0 _ rfl,new 2 _ rfl⟩
 ·have m:=Znf (b:=b) (fd:=fd) (wd:=wd) (ps:=ps) hs
  have hh:∀ n∈sRefs s,n≠fd:=fun n hn=>hr n (List.mem_append.mpr (.inr (List.mem_flatMap.mpr ⟨s,hs,hn⟩)))
  exact ⟨(kp _ m.1 (hh _ (.head _))).trans (B.sat s hs).ob,(kp _ m.2 (hh _ (.tail _ (.head _)))).trans (B.sat s hs).nd⟩
 ·simp [pRefs]
 ·intro n hn
  simp only [pRefs,List.mem_cons,List.not_mem_nil,or_false] at hn
  lia -abstractProof
end
section
variable {ρ:RE} {H H₁:AH} {a:AV} {xs:List AV} {mt:Bool}
theorem Zft {r k:Nat} (hr:H[r]?=some (.lst xs)):itemAt H (.lref r) k=some xs[k]?:=by
 show (match H[r]? with | some (.lst xs)=>some xs[k]? | _=>none)=_
 rw [hr]
theorem ZmQ {elt it cond:DE} {r:Nat} {p:AV→Bool} {g:AV→AV} {o:Out AV} (h:it ρ H=.ok (.ref r) H₁) (hr:H₁[r]?=some (.lst xs)) (hl:xs.length≤1000000) (hT:∀ v∈xs,cond (ρ++[some v]) H₁=.ok (.bool (p v)) H₁) (hE:∀ v∈xs,p v=true→elt (ρ++[some v]) H₁=.ok (g v) H₁)
  (ho:newL mt ((xs.filter p).map g) H₁=o):compE false mt elt it cond ρ H=o:=by
 refine Zfh (fx:=id) (src:=.lref r) h ((ZbK hr).trans rfl) (fun k=>?_) rfl hl hT hE ho
 rw [List.map_id]
 exact Zft hr
end
section
variable {R:Nat→Bool→FT} {k:Nat} {hot:Bool} {H:AH} {b fd wd:Nat} {ps:List PR} {ss:List SR}
noncomputable def meet (r h:Int×Int):Bool:=decide (r.1<h.2) && decide (h.1<r.2)
theorem eq_nil {xs:List AV} {ds:List PyData} (h:denL (den 19 H) xs=some ds):cmpA H .Eq (.lst xs) (.lst [])=some xs.isEmpty:=by
 show ((denL (den 19 H) xs).map PyData.list).bind (fun x=>(some (PyData.list [])).map fun y=>PyData.eqv x y)=_
 rw [h]
 cases xs with
 | nil=>cases h; rfl
 | cons v r =>
  refine x1_2 (qOb h) fun d h1 h=>?_
  refine x1_2 (oms h) fun l h2 h=>?_
  cases h
  rfl
theorem ZmN {rs:List (Int×Int)}:denL (den 19 H) (rs.map stAV)=some (rs.map fun r=>.tuple [.int r.1,.int r.2]):=by
 induction rs with
 | nil=>rfl
 | cons r l ih=>show ((den 19 H (stAV r)).bind fun d=>(denL (den 19 H) (l.map stAV)).map (d::·))=_; rw [ih]; rfl
noncomputable def mayM (p:Pm) (s:Sm) (skill:Str):Bool:=decide (skill∈p.skills) && p.rests.all fun r=>!meet r s.hours
theorem Znd (C:BookR R) (D:MayR R) (B:BookAt H b fd wd ps ss) (hp:(ps.map (·.2.name)).Nodup) (hs:(ss.map (·.2.name)).Nodup) {p:PR} (mp:p∈ps) {s:SR} (ms:s∈ss) {skill:Str} (hr:p.2.rests.length≤1000000) :
  R (k+2) false 26 [.ref b,.str p.2.name,.str s.2.name,.str skill] H=.ok (.bool (mayM p.2 s.2 skill)) H:=by
 rw [D.may _ _ _ _ rfl]
 suffices q:Zcx (R (k+1)) false (rho0 [.ref b,.str p.2.name,.str s.2.name,.str skill] 6) H=.ret (.bool (mayM p.2 s.2 skill)) H by rw [q]; rfl
 have P:=B.pat p mp
 have S:=B.sat s ms
 refine Za5 (e_mo rfl B.book (i:=16) rfl (Zaa rfl) (Za8 C B hp mp)) ?_
 refine Za5 (Zas (e_mo rfl B.book (i:=17) rfl (Zaa rfl) (Zer C B hs ms)) S.ob rfl) ?_
 have nin:cmpA H .NotIn (.str skill) (.ref p.1.2.1)=some (!decide (skill∈p.2.skills)):=by
  show (inA H (.str skill) (.ref p.1.2.1)).map (!·)=_
  have:inA H (.str skill) (.ref p.1.2.1)=some (decide (skill∈p.2.skills)):=Zbs (Zc8 P.sk) (Zdw P.sk)
  rw [this]; rfl
 refine s_if (Zai rfl (Zas rfl P.ob rfl) nin) (fun h=>?_) fun h=>?_
 ·rw [Bool.not_eq_true'] at h
  unfold mayM
  rw [h]; rfl
 ·rw [Bool.not_eq_false'] at h
  have hm:mayM p.2 s.2 skill=p.2.rests.all fun r=>!meet r s.2.hours:=by unfold mayM; rw [h]; rfl
  rw [hm]
  refine Zbh (Zai (ZmQ (xs:=p.2.rests.map stAV) (p:=fun v=>match v with | .tup [.int x,.int y]=>meet (x,y) s.2.hours | _=>false) (g:=id) (Zas rfl P.ob rfl) P.aw (by simpa using hr) (fun v hv=>?_) (fun v hv _=>rfl) rfl) rfl ?_)
  ·refine x1_2 (qMm hv) fun r _ e2'=>?_; subst e2'
   exact Zac (ZaI rfl rfl) (ZjX D)
  ·rw [List.map_id]
   have e:(p.2.rests.map stAV).filter (fun v=>match v with | .tup [.int x,.int y]=>meet (x,y) s.2.hours | _=>false)=(p.2.rests.filter fun r=>meet r s.2.hours).map stAV:=by
    rw [List.filter_map]; rfl
   rw [e]
   refine (eq_nil ZmN).trans (congrArg some ?_)
   rw [Bool.eq_iff_iff]
   simp [List.filter_eq_nil_iff]
end
section
variable {R:Nat→Bool→FT} {k:Nat} {hot:Bool} {H:AH} {b fd wd:Nat} {ps:List PR} {ss:List SR}
noncomputable def stOK (st:Int×Int):Bool:=decide (0≤st.1) && (decide (st.1<st.2) && decide (st.2≤1000000))
noncomputable def restH (H:AH) (p:PR) (st:Int×Int):AH:=H.set p.1.2.2 (.lst ((p.2.rests++[st]).map stAV))
theorem ZfK (C:BookR R) (B:BookAt H b fd wd ps ss) (hn:(ps.map (·.2.name)).Nodup) {p:PR} (hp:p∈ps) {st:Int×Int} (hs:stOK st=true) (hl:p.2.rests.length≤1000000) :
  R (k+3) false 14 [.ref b,.str p.2.name,stAV st] H=.ok .none (restH H p st):=by
 rw [C.add_rest _ _ _ _ rfl]
 have P:=B.pat p hp
 suffices q:ZaL (R (k+2)) false (rho0 [.ref b,.str p.2.name,stAV st] 4) H=.next [some (.ref b),some (.str p.2.name),some (stAV st),some (.ref p.1.1)] (restH H p st) by rw [q]; rfl
 refine Za5 (e_mo rfl B.book (i:=16) rfl (Zaa rfl) (Za8 C B hn hp)) ?_
 refine Zau (e_nt (x:=true) (Zac (Zaa rfl) ((ZaY C).trans (by rw [show (decide (0≤st.1) && (decide (st.1<st.2) && decide (st.2≤1000000)))=true from hs])))) ?_
 refine ZdG (Zax (Zas rfl P.ob rfl) P.aw (Zaa rfl) P.aw (by simpa using hl)) ?_
 show OutS.next _ (H.set p.1.2.2 (.lst (p.2.rests.map stAV++[stAV st])))=_
 unfold restH
 rw [qMa]; rfl
theorem ZfJ (C:BookR R) (B:BookAt H b fd wd ps ss) (hn:(ps.map (·.2.name)).Nodup) {p:PR} (hp:p∈ps) {st:Int×Int} (hs:stOK st=false) :
  R (k+3) false 14 [.ref b,.str p.2.name,stAV st] H=.exc 2 H:=by
 rw [C.add_rest _ _ _ _ rfl]
 suffices q:ZaL (R (k+2)) false (rho0 [.ref b,.str p.2.name,stAV st] 4) H=.exc 2 [some (.ref b),some (.str p.2.name),some (stAV st),some (.ref p.1.1)] H by rw [q]; rfl
 refine Za5 (e_mo rfl B.book (i:=16) rfl (Zaa rfl) (Za8 C B hn hp)) ?_
 exact s_if (e_nt (x:=false) (Zac (Zaa rfl) ((ZaY C).trans (by rw [show (decide (0≤st.1) && (decide (st.1<st.2) && decide (st.2≤1000000)))=false from hs])))) (fun _=>rfl) fun q=>nomatch q
noncomputable def restP (p:PR) (st:Int×Int):PR:=(p.1,{ p.2 with rests:=p.2.rests++[st] })
theorem Zbj {α β:Type} {f:α→β} {l:List α} {i:Nat} {a a':α} (h:l[i]?=some a) (e:f a'=f a):(l.set i a').map f=l.map f:=by
 rw [List.map_set,e]
 refine List.ext_getElem? fun j=>?_
 rw [List.getElem?_set]
 split
 ·rename_i q
  subst q
  rw [qLm,qGm,h,if_pos (gsi h).1]; rfl
 ·rfl
theorem ZhG {α:Type} {f:α→List Nat}:∀ {l:List α},(l.flatMap f).Nodup→∀ a∈l,(f a).Nodup
 | [],_,a,h=>nomatch h
 | b::r,hn,a,h=>by
  rw [List.flatMap_cons,List.nodup_append] at hn
  cases h with
  | head=>exact hn.1
  | tail _ h=>exact ZhG hn.2.1 a h
theorem Zds {α:Type} {f:α→List Nat}:∀ {l:List α},(l.flatMap f).Nodup→∀ (i j:Nat) a b x,i<j→l[i]?=some a→l[j]?=some b→x∈f a→x∉f b
 | [],_,i,j,a,b,x,_,h,_=>nomatch h
 | c::r,hn,i,j,a,b,x,hl,h1,h2=>by
  rw [List.flatMap_cons,List.nodup_append] at hn
  cases j with
  | zero=>exact absurd hl (Nat.not_lt_zero _)
  | succ j =>
   cases i with
   | zero =>
    cases h1
    intro hx hy
    exact hn.2.2 x hx x (List.mem_flatMap.mpr ⟨b,qMo h2,hy⟩) rfl
   | succ i=>exact Zds hn.2.1 i j a b x (Nat.lt_of_succ_lt_succ hl) h1 h2
theorem BookAt.rest (B:BookAt H b fd wd ps ss) {i:Nat} {p:PR} (hi:ps[i]?=some p) {st:Int×Int}:BookAt (restH H p st) b fd wd (ps.set i (restP p st)) ss:=by
 have hp:=qMo hi
 have nd:=B.nodup
 have hlt:=B.lt _ (Ziw (b:=b) (fd:=fd) (wd:=wd) (ss:=ss) hp).2.2
 have e1:(ps.set i (restP p st)).map pRefs=ps.map pRefs:=Zbj hi rfl
 have er:bRefs b fd wd (ps.set i (restP p st)) ss=bRefs b fd wd ps ss:=by
  unfold bRefs
  rw [List.flatMap_def,e1,← List.flatMap_def]
 -- the list of rests is no other's
 have key:∀ j q,ps[j]?=some q→j≠i→∀ n∈pRefs q,n≠p.1.2.2:=by
  intro j q hj ne n hn e
  have h2:(ps.flatMap pRefs).Nodup:=by
   unfold bRefs at nd
   have:=(List.nodup_cons.mp (List.nodup_cons.mp (List.nodup_cons.mp nd).2).2).2
   rw [List.nodup_append] at this
   exact this.1
  have m2:p.1.2.2∈pRefs p:=.tail _ (.tail _ (.head _))
  rcases Nat.lt_or_gt_of_ne ne with l | l
  ·exact Zds h2 j i q p _ l hj hi (e▸hn) m2
  ·exact Zds h2 i j p q _ l hi hj m2 (e▸hn)
 have own:p.1.1≠p.1.2.2∧p.1.2.1≠p.1.2.2:=by
  unfold bRefs at nd
  have:=(List.nodup_cons.mp (List.nodup_cons.mp (List.nodup_cons.mp nd).2).2).2
  rw [List.nodup_append] at this
  have:=ZhG this.1 p hp
  simp only [pRefs,List.nodup_cons,List.mem_cons,List.not_mem_nil,or_false,not_or] at this
  exact ⟨this.1.2,this.2.1⟩
 have ho:∀ n,n≠p.1.2.2→(restH H p st)[n]?=H[n]?:=fun n h=>Zaf (Ne.symm h)
 have m:=(Ziw (b:=b) (fd:=fd) (wd:=wd) (ss:=ss) hp).2.2
 unfold bRefs at nd
 obtain ⟨n1,nd⟩:=List.nodup_cons.mp nd
 obtain ⟨n2,nd⟩:=List.nodup_cons.mp nd
 obtain ⟨n3,nd⟩:=List.nodup_cons.mp nd
 have inP:p.1.2.2∈ps.flatMap pRefs:=List.mem_flatMap.mpr ⟨p,hp,.tail _ (.tail _ (.head _))⟩
 have inA:p.1.2.2∈ps.flatMap pRefs++ss.flatMap sRefs:=List.mem_append.mpr (.inl inP)
 refine ⟨(ho b fun e=>n1 (e▸.tail _ (.tail _ inA))).trans B.book,?_,(ho wd fun e=>n3 (e▸inA)).trans B.work,fun q hq=>?_,fun s hs=>?_,er▸B.nodup,by rw [List.length_set]; exact B.few⟩
 ·rw [ho fd fun e=>n2 (e▸.tail _ inA),B.folk]
  exact congrArg (fun l=>some (AO.dict l)) (Zbj (f:=fun p:PR=>((Key.str p.2.name,AV.ref p.1.1):Key×AV)) (a':=restP p st) hi rfl).symm
 ·obtain ⟨j,hj⟩:=List.mem_iff_getElem?.mp hq
  rw [List.getElem?_set] at hj
  split at hj
  ·rename_i e
   subst e
   split at hj<;>cases hj
   have P:=B.pat p hp
   exact ⟨(ho _ own.1).trans P.ob,(ho _ own.2).trans P.sk,ZaB hlt⟩
  ·rename_i ne
   have P:=B.pat q (qMo hj)
   have kk:=key j q hj (Ne.symm ne)
   exact ⟨(ho _ (kk _ (.head _))).trans P.ob,(ho _ (kk _ (.tail _ (.head _)))).trans P.sk,(ho _ (kk _ (.tail _ (.tail _ (.head _))))).trans P.aw⟩
 ·have S:=B.sat s hs
  have dis:∀ n∈sRefs s,n≠p.1.2.2:=fun n hn e=>by
   rw [List.nodup_append] at nd
   exact nd.2.2 p.1.2.2 inP n (List.mem_flatMap.mpr ⟨s,hs,hn⟩) e.symm
  exact ⟨(ho _ (dis _ (.head _))).trans S.ob,(ho _ (dis _ (.tail _ (.head _)))).trans S.nd⟩
end
section
variable {R:Nat→Bool→FT} {k:Nat} {hot:Bool} {H:AH} {b fd wd:Nat} {ps:List PR} {ss:List SR}
noncomputable def dayOK (st:Int×Int):Bool:=decide (st.1 / 24=(st.2-1) / 24)
noncomputable def addS' (H:AH) (wd:Nat) (ss:List SR) (nm:Str) (h:Int×Int) (ns:List (Str×Int)):AH:=(H++[AO.lst ((ns.map (·.1)).map .str),AO.lst (ns.map needAV),AO.inst 1 (sfs h (H.length+1))]:AH).set wd (.dict (workD ss++[(.str nm,.ref (H.length+2))]))
theorem Zfa (C:BookR R) (B:BookAt H b fd wd ps ss) {nm:Str} {h:Int×Int} {ns:List (Str×Int)} (hn:nameOK nm=true) (hs:stOK h=true) (hd:dayOK h=true) (hns:NeedsOK ns) (hx:nm∉ss.map (·.2.name)) :
  R (k+3) false 15 [.ref b,.str nm,stAV h,.lst (ns.map needAV)] H=.ok .none (addS' H wd ss nm h ns):=by
 rw [C.add_shift _ _ _ _ rfl]
 have hin:((workD ss).any fun e=>decide (e.1=Key.str nm))=false:=by
  unfold workD; rw [Zdu]; exact decide_eq_false hx
 suffices q:Zav (R (k+2)) false (rho0 [.ref b,.str nm,stAV h,.lst (ns.map needAV)] 5) H=.next [some (.ref b),some (.str nm),some (stAV h),some (.lst (ns.map needAV)),some (.ref (H.length+1))] (addS' H wd ss nm h ns) by rw [q]; rfl
 have B1:BookAt (H++[.lst ((ns.map (·.1)).map .str),.lst (ns.map needAV)]) b fd wd ps ss:=B.grow
 have B2:BookAt ((H++[.lst ((ns.map (·.1)).map .str),.lst (ns.map needAV)])++[.inst 1 (sfs h (H.length+1))]) b fd wd ps ss:=B1.grow
 refine Zau (e_nt (x:=true) (Zac (Zaa rfl) ((Zaw C (ZaJ hn)).trans (by rw [hn])))) ?_
 refine Zau (Zeb (x:=false) (y:=false) (e_nt (x:=true) (Zac (Zaa rfl) ((ZaY C).trans (by rw [show (decide (0≤h.1) && (decide (h.1<h.2) && decide (h.2≤1000000)))=true from hs])))) (e_nt (x:=true) (Zac (Zaa rfl) ((ZbH C).trans (by rw [show decide (h.1 / 24=(h.2-1) / 24)=true from hd]))))) ?_
 refine Za5 (Zac (Zaa rfl) (Zga C hns)) ?_
 refine Zau (Zai rfl (Zas rfl B1.book rfl) (Zeh B1.work hin)) ?_
 refine Zkl (Zku C (ZaI rfl rfl)) (Zas rfl B2.book rfl) rfl (Zkr B2.work (by rw [Zif]; have:=B.few; lia) hin) ?_
 show OutS.next _ _=_
 unfold addS'
 rw [qAa,qLa]
 rfl
theorem Zgd {q:SR} (h:(bRefs b fd wd ps ss++sRefs q).Nodup):(bRefs b fd wd ps (ss++[q])).Nodup:=by
 unfold bRefs at h ⊢
 rw [List.flatMap_append,← qAa]
 show (b::fd::wd::(ps.flatMap pRefs++ss.flatMap sRefs++(sRefs q++[]))).Nodup
 rw [List.append_nil]
 exact h
theorem ZfH {nm:Str} {h:Int×Int} {ns:List (Str×Int)} {n:Nat} (hn:n<H.length) (hw:n≠wd):(addS' H wd ss nm h ns)[n]?=H[n]?:=by
 unfold addS'
 rw [Zaf (Ne.symm hw),Zmj hn]
theorem BookAt.addS (B:BookAt H b fd wd ps ss) {nm:Str} {h:Int×Int} {ns:List (Str×Int)} (hf:ps.length+ss.length<1000):BookAt (addS' H wd ss nm h ns) b fd wd ps (ss++[((H.length+2,H.length+1),⟨nm,h,ns⟩)]):=by
 have nd:=B.nodup
 have hwd:wd<H.length:=B.lt _ (.tail _ (.tail _ (.head _)))
 unfold bRefs at nd
 obtain ⟨n1,nd⟩:=List.nodup_cons.mp nd
 obtain ⟨n2,nd⟩:=List.nodup_cons.mp nd
 obtain ⟨n3,nd⟩:=List.nodup_cons.mp nd
 have kp:∀ n∈bRefs b fd wd ps ss,n≠wd→(addS' H wd ss nm h ns)[n]?=H[n]?:=fun n hn h=>ZfH (B.lt n hn) h
 have new:∀ (j:Nat) (o:AO),([AO.lst ((ns.map (·.1)).map .str),AO.lst (ns.map needAV),AO.inst 1 (sfs h (H.length+1))]:AH)[j]?=some o→(addS' H wd ss nm h ns)[H.length+j]?=some o:=fun j o e=>by
  unfold addS'
  rw [Zaf (by lia -abstractProof),List.getElem?_append_right (Nat.le_add_right _ _),Nat.add_sub_cancel_left]
  exact e
 refine ⟨(kp _ (.head _) fun e=>n1 (e▸.tail _ (.head _))).trans B.book,(kp _ (.tail _ (.head _)) fun e=>n2 (e▸.head _)).trans B.folk,?_,fun p hp=>?_,fun s hs=>?_,Zgd (ZeZ B.nodup B.lt ?_ ?_),by rw [qLa]; simp; lia -abstractProof⟩
 ·unfold addS'
  rw [ZaB (by rw [qLa]; exact Nat.lt_of_lt_of_le ‹_› (Nat.le_add_right _ _))]
  unfold workD
  rw [qMa]; rfl
 ·have m:=Ziw (b:=b) (fd:=fd) (wd:=wd) (ss:=ss) hp
  have hh:∀ n∈pRefs p,n≠wd:=fun n hn e=>n3 (e▸List.mem_append.mpr (.inl (List.mem_flatMap.mpr ⟨p,hp,hn⟩)))
  exact ⟨(kp _ m.1 (hh _ (.head _))).trans (B.pat p hp).ob,(kp _ m.2.1 (hh _ (.tail _ (.head _)))).trans (B.pat p hp).sk,(kp _ m.2.2 (hh _ (.tail _ (.tail _ (.head _))))).trans (B.pat p hp).aw⟩
 ·rcases qMp hs with hs | hs
  ·have m:=Znf (b:=b) (fd:=fd) (wd:=wd) (ps:=ps) hs
   have hh:∀ n∈sRefs s,n≠wd:=fun n hn e=>n3 (e▸List.mem_append.mpr (.inr (List.mem_flatMap.mpr ⟨s,hs,hn⟩)))
   exact ⟨(kp _ m.1 (hh _ (.head _))).trans (B.sat s hs).ob,(kp _ m.2 (hh _ (.tail _ (.head _)))).trans (B.sat s hs).nd⟩
  ·cases qMs hs
   exact ⟨new 2 _ rfl,new 1 _ rfl⟩
 ·simp [sRefs]
 ·intro n hn
  simp only [sRefs,List.mem_cons,List.not_mem_nil,or_false] at hn
  lia -abstractProof
theorem BookAt.new:BookAt (H++[.inst 2 (bfs (H.length+1) (H.length+2)),.dict [],.dict []]) H.length (H.length+1) (H.length+2) [] [] :=
 ⟨ZaV,Zf1,by simp [workD],(fun _ q=>nomatch q),(fun _ q=>nomatch q),by simp [bRefs],by simp⟩
end
theorem Ze7:∀ cs:List Nat,strsOf (cs.map one)=some (cs.map fun c=>(⟨#[c]⟩:Str))
 | []=>rfl
 | c::cs=>by
  show (strsOf (cs.map one)).map (_::·)=_
  rw [Ze7 cs]; rfl
theorem Zf0:∀ (cs:List Nat) (a:Array Nat),(cs.map fun c=>(⟨#[c]⟩:Str)).foldl (fun acc p=>acc++(Str.ofString "").cps++p.cps) a=a++cs.toArray
 | [],a=>by simp
 | c::cs,a=>by
  have e:(Str.ofString "").cps=#[]:=by decide
  rw [List.map_cons,List.foldl_cons,Zf0 cs,e]
  simp
theorem Zls (cs:List Nat):Txt.join (Str.ofString "") (cs.map fun c=>(⟨#[c]⟩:Str))=⟨cs.toArray⟩:=by
 unfold Txt.join Builtin.Str.glued
 congr 1
 cases cs with
 | nil=>decide
 | cons c cs =>
  show ((cs.map fun c=>(⟨#[c]⟩:Str)).foldl (fun acc p=>acc++(Str.ofString "").cps++p.cps) #[c])=_
  rw [Zf0]
  simp
theorem Zis {cs:List Nat} (h:cs.length≤100000):JoinOk (Str.ofString "") (cs.map fun c=>(⟨#[c]⟩:Str))=true:=by
 refine joinOk_of_weight ?_ (by decide)
 have:∀ cs:List Nat,((cs.map fun c=>(⟨#[c]⟩:Str)).map (·.length)).sum=cs.length:=by
  intro cs
  induction cs with
  | nil=>rfl
  | cons c cs ih=>rw [List.map_cons,List.map_cons,List.sum_cons,ih,List.length_cons]; show 1+_=_; exact Nat.add_comm _ _
 rw [this,qLm]; lia
theorem Zev {x y:Str} (h:x.cps.toList=y.cps.toList):x=y:=by
 cases x; cases y; congr 1; exact Array.toList_inj.mp h
theorem ZcM (x y:Str):(x++y).cps.toList=x.cps.toList++y.cps.toList:=by
 rw [Str.cps_append,Array.toList_append]
noncomputable def tlL (c:Int):List Nat:=(List.range (c%20).toNat).map fun (k:Nat)=>sgc (c / 20+5*k*(c%7))
noncomputable def nmL (p c:Int):List Nat:=tlL c++[sgc p]
noncomputable def nm (p c:Int):Str:=⟨(nmL p c).toArray⟩
theorem Zo0 (p c:Int):nameOK (nm p c)=true:=by
 unfold nameOK
 have h1:(nm p c).length=(c%20).toNat+1:=by
  show (nmL p c).toArray.size=_
  simp [nmL,tlL]
 have h2:(nm p c).cps.toList.all okc=true:=by
  show (nmL p c).all okc=true
  rw [List.all_eq_true]
  intro x hx
  unfold nmL tlL at hx
  simp only [List.mem_append,List.mem_map,List.mem_singleton] at hx
  rcases hx with ⟨k,_,rfl⟩ | rfl<;>exact Ze4 _
 rw [h1,h2]
 simp
 lia -abstractProof
section
variable {R:Nat→Bool→FT} {k:Nat} {H:AH} {ρ:RE}
theorem ZkM (C:BookR R) {c:Int} {i n:Nat} (hi:ρ[i]?=some (some (.int c))) (hn:ρ.length=n):compE false false (callE (R (k+1) false) 9 [(binE false .Add (binE false .FloorDiv (varE i) (cstE (.int 20))) (binE false .Mult (binE false .Mult (cstE (.int 5)) (varE n)) (binE false .Mod (varE i) (cstE (.int 7)))))]) (biE false .range [(binE false .Mod (varE i) (cstE (.int 20)))]) (cstE (.bool true)) ρ H=.ok (.lst ((tlL c).map one)) H:=by
 have hv:varE i ρ H=.ok (.int c) H:=by show (match ρ[i]? with | some (some a)=>Out.ok a H | _=>.bad)=_; rw [hi]
 refine ZgT (xs:=span 0 (c%20)) (g:=fun a=>match a with | .int k=>one (sgc (c / 20+5*k*(c%7))) | a=>a) (e_bi (Zaa (Zay hv rfl (ZdD (by decide)))) rfl) (Zan (by exact Int.emod_nonneg _ (by decide)) (by lia)) (by rw [Zae,Int.sub_zero]) (by rw [Zae]; lia) (fun v hm=>?_) ?_
 ·refine x1_3 (ZaU hm) fun j j0 j1 e3'=>?_; subst e3'
  have hi':(ρ++[some (.int j)])[i]?=some (some (.int c)):=by rw [qGl (gsi hi).1]; exact hi
  have v1:varE i (ρ++[some (.int j)]) H=.ok (.int c) H:=by show (match (ρ++[some (AV.int j)])[i]? with | some (some a)=>Out.ok a H | _=>.bad)=_; rw [hi']
  have v2:varE n (ρ++[some (.int j)]) H=.ok (.int j) H:=by show (match (ρ++[some (AV.int j)])[n]? with | some (some a)=>Out.ok a H | _=>.bad)=_; rw [← hn,List.getElem?_append_right (Nat.le_refl _),Nat.sub_self]; rfl
  exact Zac (Zaa (Zay (Zay v1 rfl (Zcq (by decide))) (Zay (Zay rfl v2 (mulI (.inl (by decide)))) (Zay v1 rfl (ZdD (by decide))) (mulI (.inr (by lia)))) addI)) (ZfC C)
 ·show Out.ok (AV.lst _) H=_
  unfold span tlL
  simp [List.map_map,Function.comp_def]
theorem Zmh {cs:List Nat} {e:DE} {es:List DE} {H₁ H₂:AH} (hl:cs.length≤100000) (h1:e ρ H=.ok (.str "") H₁) (h2:evL es ρ H₁=.ok [.lst (cs.map one)] H₂):mbE .join e es ρ H=.ok (AV.str ⟨cs.toArray⟩) H₂:=by
 unfold mbE
 rw [h1]
 show (evL es ρ H₁).bind _=_
 rw [h2]
 show (orBad ((some (cs.map one)).bind strsOf) fun ys=>if JoinOk "" ys then Out.ok (AV.str (Txt.join "" ys)) H₂ else .bad)=_
 rw [Option.bind_some,Ze7]
 show (if JoinOk "" (cs.map fun c=>(⟨#[c]⟩:Str))=true then _ else _)=_
 rw [if_pos (Zis hl),Zls]
theorem Zib (c:Int):(tlL c).length<20:=by unfold tlL; simp; lia
theorem Zot (p c:Int):(⟨(tlL c).toArray⟩:Str)++(⟨#[sgc p]⟩:Str)=nm p c:=by
 refine Zev ?_
 rw [ZcM]; rfl
end
section
variable {ρ:RE} {H H₁:AH} {a:AV} {xs:List AV} {mt:Bool}
theorem ZhT {B:AV→DS} {P:OutS→Prop} {r:Nat} (Inv:Nat→RE→AH→Prop) (hr:∀ k ρ H,Inv k ρ H→H[r]?=some (.lst xs))
  (step:∀ (k:Nat) v ρ H,xs[k]?=some v→Inv k ρ H→(∃ ρ' H',B v ρ H=.next ρ' H'∧Inv (k+1) ρ' H')∨(∃ a H',B v ρ H=.ret a H'∧P (.ret a H'))∨∃ c ρ' H',B v ρ H=.exc c ρ' H'∧P (.exc c ρ' H'))
  (fin:∀ ρ H,Inv xs.length ρ H→P (.next ρ H)):∀ (n k:Nat) (ρ:RE) (H:AH),n+k=xs.length→Inv k ρ H→P (loopS B (.lref r) n k ρ H):=Zg1 Inv (fun k ρ H i=>Zft (hr k ρ H i)) step fin
theorem ZmW {i r:Nat} {it:DE} {b:DS} (h:it ρ H=.ok (.ref r) H₁) (hr:H₁[r]?=some (.lst xs)):forS false (.one i) it b ρ H=loopS (fun v ρ H=>b (ρ.set i (some v)) H) (.lref r) xs.length 0 ρ H₁:=by
 unfold forS
 rw [h]
 have hs:srcOf H₁ (.ref r)=some (.lref r,xs.length,none):=by
  show (match H₁[r]? with | some (.lst xs)=>some (Src.lref r,xs.length,none) | some (.dict es)=>some (.seq (es.map fun e=>e.1.av),es.length,some r) | _=>none:Option (Src×Nat×Option Nat))=_
  rw [hr]
 show orBadS (srcOf H₁ (.ref r)) _=_
 rw [hs]
 exact ZcZ _
theorem ZcK {r:Nat} {i:Int} {v:AV} (hr:H[r]?=some (.lst xs)) (h0:0≤i) (h:xs[i.toNat]?=some v) (hl:xs.length≤1000000):subA (.ref r) (.int i) H=.ok v H:=by
 have hlt:=(gsi h).1
 obtain ⟨hs,hi⟩:=ZnE h0 hlt hl
 have ha:atA i xs=some v:=by
  unfold atA
  rw [hs,hi]
  exact h
 unfold subA
 rw [Zc8 hr]
 show orBad (lsOf H _) _=_
 rw [Zdw hr]
 show orBad (atA i xs) _=_
 rw [ha]; rfl
theorem Zi2 {l:Int} {n d:Nat} (h0:0≤l) (h1:l≤n):clip (some l) n d=l.toNat:=by
 show (if l<0 then _ else if l<n then l.toNat else n)=_
 rw [if_neg (Int.not_lt.mpr h0)]
 split
 ·rfl
 ·rename_i g
  rw [Int.le_antisymm h1 (Int.not_lt.mp g)]; rfl
theorem ZlY {l:Int} (h0:0≤l) (h1:l≤xs.length) (hl:xs.length≤1000):slcA false (.lst xs) (.int l) .none .none H=.ok (.lst (xs.drop l.toNat)) H:=by
 have s1:optI (.int l)=some (some l):=if_pos (ZeL h0 (Int.le_trans h1 (Int.ofNat_le.mpr (le_t hl rfl))))
 have hs:1000≤sizeLine:=by decide
 unfold slcA
 rw [s1]
 show (if xs.length≤sizeLine then newL false (cut xs (some l) none) H else .bad)=_
 rw [if_pos (le_t ‹_› rfl)]
 show Out.ok (AV.lst (cut xs (some l) none)) H=_
 unfold cut
 rw [Zi2 h0 h1]
 show Out.ok (AV.lst ((xs.drop l.toNat).take (xs.length-l.toNat))) H=_
 rw [List.take_of_length_le (by simp)]
theorem ZoJ {u:Int} (h0:0≤u) (h1:u≤xs.length) (hl:xs.length≤1000):slcA false (.lst xs) .none (.int u) .none H=.ok (.lst (xs.take u.toNat)) H:=by
 have s1:optI (.int u)=some (some u):=if_pos (ZeL h0 (Int.le_trans h1 (Int.ofNat_le.mpr (le_t hl rfl))))
 have hs:1000≤sizeLine:=by decide
 unfold slcA
 rw [s1]
 show (if xs.length≤sizeLine then newL false (cut xs none (some u)) H else .bad)=_
 rw [if_pos (le_t ‹_› rfl)]
 show Out.ok (AV.lst (cut xs none (some u))) H=_
 unfold cut
 rw [Zi2 h0 h1]
 rfl
end
def Up (N:Nat) (H H':AH):Prop:=H.length≤H'.length∧∀ n<N,H'[n]?=H[n]?
structure BookOf (N:Nat) (H:AH) (b:Nat) (ps:List Pm) (ss:List Sm):Prop where
 ex:∃ fd wd prs srs,BookAt H b fd wd prs srs∧prs.map (·.2)=ps∧srs.map (·.2)=ss∧∀ n∈bRefs b fd wd prs srs,N≤n
section
variable {R:Nat→Bool→FT} {k:Nat} {hot:Bool} {H H' H'':AH} {N N' b:Nat} {ps:List Pm} {ss:List Sm}
theorem Up.refl:Up N H H:=⟨Nat.le_refl _,fun _ _=>rfl⟩
theorem Up.trans (h:Up N H H') (h':Up N H' H''):Up N H H'':=⟨Nat.le_trans h.1 h'.1,fun n hn=>(h'.2 n hn).trans (h.2 n hn)⟩
theorem Up.mono (h:Up N H H') (hn:N'≤N):Up N' H H':=⟨h.1,fun n q=>h.2 n (Nat.lt_of_lt_of_le q hn)⟩
theorem Up.app {l:AH}:Up H.length H (H++l):=⟨by simp,fun n hn=>qGl hn⟩
theorem Up.get {n:Nat} {o:AO} (h:Up H.length H H') (e:H[n]?=some o):H'[n]?=some o:=(h.2 n (gsi e).1).trans e
theorem BookOf.le (B:BookOf N H b ps ss):N≤H.length:=by
 refine x4_4 (B.ex) fun fd wd prs srs B _ _ h=>?_
 have:=B.lt b (.head _)
 have:=h b (.head _)
 lia -abstractProof
theorem BookOf.up (B:BookOf N H b ps ss) (h:Up H.length H H'):BookOf N H' b ps ss:=by
 refine x4_4 (B.ex) fun fd wd prs srs B e1 e2 hN=>?_
 exact ⟨fd,wd,prs,srs,B.frame fun n hn=>h.2 n (B.lt n hn),e1,e2,hN⟩
theorem BookOf.at (B:BookOf N H b ps ss):∃ fs,H[b]?=some (.inst 2 fs):=by
 refine x4_2 (B.ex) fun fd wd prs srs B _=>?_
 exact ⟨_,B.book⟩
theorem BookOf.new:BookOf H.length (H++[.inst 2 (bfs (H.length+1) (H.length+2)),.dict [],.dict []]) H.length [] [] :=
 ⟨_,_,[],[],BookAt.new,rfl,rfl,fun n hn=>by simp [bRefs] at hn; lia⟩
end
def UpQ (Q:Nat→Prop) (H H':AH):Prop:=H.length≤H'.length∧∀ n<H.length,¬ Q n→H'[n]?=H[n]?
structure BookQ (Q:Nat→Prop) (H:AH) (b:Nat) (ps:List Pm) (ss:List Sm):Prop where
 ex:∃ fd wd prs srs,BookAt H b fd wd prs srs∧prs.map (·.2)=ps∧srs.map (·.2)=ss∧∀ n∈bRefs b fd wd prs srs,Q n
section
variable {R:Nat→Bool→FT} {k:Nat} {H H' H'':AH} {N b:Nat} {Q:Nat→Prop} {ps:List Pm} {ss:List Sm}
theorem UpQ.trans (h:UpQ Q H H') (h':UpQ Q H' H''):UpQ Q H H'':=⟨Nat.le_trans h.1 h'.1,fun n hn q=>(h'.2 n (Nat.lt_of_lt_of_le hn h.1) q).trans (h.2 n hn q)⟩
theorem UpQ.refl:UpQ Q H H:=⟨Nat.le_refl _,fun _ _ _=>rfl⟩
theorem UpQ.up (h:UpQ Q H H') (hN:N≤H.length) (hQ:∀ n<N,¬ Q n):Up N H H':=⟨h.1,fun n hn=>h.2 n (Nat.lt_of_lt_of_le hn hN) (hQ n hn)⟩
theorem BookQ.of (B:BookQ Q H b ps ss) (hQ:∀ n,Q n→N≤n):BookOf N H b ps ss:=by
 refine x4_4 (B.ex) fun fd wd prs srs A e1 e2 h=>?_
 exact ⟨fd,wd,prs,srs,A,e1,e2,fun n hn=>hQ n (h n hn)⟩
theorem BookQ.up (B:BookQ Q H b ps ss) (h:Up H.length H H'):BookQ Q H' b ps ss:=by
 refine x4_4 (B.ex) fun fd wd prs srs A e1 e2 hN=>?_
 exact ⟨fd,wd,prs,srs,A.frame fun n hn=>h.2 n (A.lt n hn),e1,e2,hN⟩
theorem BookQ.frame (B:BookQ Q H b ps ss) (h:∀ n,Q n→n<H.length→H'[n]?=H[n]?):BookQ Q H' b ps ss:=by
 refine x4_4 (B.ex) fun fd wd prs srs A e1 e2 hN=>?_
 exact ⟨fd,wd,prs,srs,A.frame fun n hn=>h n (hN n hn) (A.lt n hn),e1,e2,hN⟩
theorem BookOf.toQ (B:BookOf N H b ps ss) (hQ:∀ n,N≤n→n<H.length→Q n):BookQ Q H b ps ss:=by
 refine x4_4 (B.ex) fun fd wd prs srs A e1 e2 h=>?_
 exact ⟨fd,wd,prs,srs,A,e1,e2,fun n hn=>hQ n (h n hn) (A.lt n hn)⟩
theorem BookQ.at (B:BookQ Q H b ps ss):∃ fs,H[b]?=some (.inst 2 fs):=by
 refine x4_2 (B.ex) fun fd wd prs srs B _=>?_
 exact ⟨_,B.book⟩
theorem ZfI (C:BookR R) (B:BookQ Q H b ps ss) (hQ:∀ n,H.length≤n→Q n) {nm:Str} {sk:List Str} {lim:Int} (hn:nameOK nm=true) (hs:SkillsOK sk) (hl:1≤lim∧lim≤31) (hx:nm∉ps.map (·.name)) (hf:ps.length+ss.length<1000) :
  ∃ H',R (k+3) false 13 [.ref b,.str nm,.lst (sk.map .str),.int lim] H=.ok .none H'∧BookQ Q H' b (ps++[⟨nm,sk,lim,[]⟩]) ss∧UpQ Q H H':=by
 refine x4_4 (B.ex) fun fd wd prs srs A e5' e6' hN=>?_; subst e5'; subst e6'
 refine ⟨_,Zez C A hn hs hl (by simpa [Function.comp_def] using hx),⟨fd,wd,_,srs,A.addP (by simpa using hf),by simp,rfl,?_⟩,?_,?_⟩
 ·intro n hn
  simp only [bRefs,List.flatMap_append,List.mem_cons,List.mem_append,List.flatMap_cons,List.flatMap_nil,List.append_nil,pRefs,List.not_mem_nil,or_false] at hn
  have hh:n∈bRefs b fd wd prs srs∨n=H.length+1∨n=H.length∨n=H.length+2:=by
   simp only [bRefs,List.mem_cons,List.mem_append]
   grind
  rcases hh with q | q | q | q
  ·exact hN n q
  all_goals exact hQ n (by lia)
 ·unfold addP; simp
 ·intro n hn q
  exact ZfG hn fun e=>q (e▸hN fd (.tail _ (.head _)))
theorem ZgE (C:BookR R) (B:BookQ Q H b ps ss) (hQ:∀ n,H.length≤n→Q n) {nm:Str} {h:Int×Int} {ns:List (Str×Int)} (hn:nameOK nm=true) (hs:stOK h=true) (hd:dayOK h=true) (hns:NeedsOK ns) (hx:nm∉ss.map (·.name)) (hf:ps.length+ss.length<1000) :
  ∃ H',R (k+3) false 15 [.ref b,.str nm,stAV h,.lst (ns.map needAV)] H=.ok .none H'∧BookQ Q H' b ps (ss++[⟨nm,h,ns⟩])∧UpQ Q H H':=by
 refine x4_4 (B.ex) fun fd wd prs srs A e5' e6' hN=>?_; subst e5'; subst e6'
 refine ⟨_,Zfa C A hn hs hd hns (by simpa [Function.comp_def] using hx),⟨fd,wd,prs,_,A.addS (by simpa using hf),rfl,by simp,?_⟩,?_,?_⟩
 ·intro n hn
  simp only [bRefs,List.flatMap_append,List.mem_cons,List.mem_append,List.flatMap_cons,List.flatMap_nil,List.append_nil,sRefs,List.not_mem_nil,or_false] at hn
  have hh:n∈bRefs b fd wd prs srs∨n=H.length+2∨n=H.length+1:=by
   simp only [bRefs,List.mem_cons,List.mem_append]
   grind
  rcases hh with q | q | q
  ·exact hN n q
  all_goals exact hQ n (by lia)
 ·unfold addS'; simp
 ·intro n hn q
  exact ZfH hn fun e=>q (e▸hN wd (.tail _ (.tail _ (.head _))))
theorem Zig (C:BookR R) (B:BookQ Q H b ps ss) (hnd:(ps.map (·.name)).Nodup) {i:Nat} {p:Pm} (hi:ps[i]?=some p) {st:Int×Int} (hs:stOK st=true) (hl:p.rests.length≤1000000) :
  ∃ H',R (k+3) false 14 [.ref b,.str p.name,stAV st] H=.ok .none H'∧BookQ Q H' b (ps.set i { p with rests:=p.rests++[st] }) ss∧UpQ Q H H'∧H'.length=H.length:=by
 refine x4_4 (B.ex) fun fd wd prs srs A e5' e6' hN=>?_; subst e5'; subst e6'
 rw [qGm] at hi
 refine x1_2 (oms hi) fun q hq e2'=>?_; subst e2'
 have hm:=qMo hq
 refine ⟨_,ZfK C A (by simpa [Function.comp_def] using hnd) hm hs hl,⟨fd,wd,_,srs,A.rest hq,?_,rfl,?_⟩,⟨?_,?_⟩,?_⟩
 ·rw [List.map_set]; rfl
 ·intro n hn
  refine hN n ?_
  unfold bRefs at hn ⊢
  rw [List.flatMap_def,List.flatMap_def,Zbj (f:=pRefs) (a':=restP q st) hq rfl] at hn
  rw [List.flatMap_def,List.flatMap_def]
  exact hn
 ·unfold restH; simp
 ·intro n hn z
  exact Zaf fun e=>z (e▸hN _ (Ziw (b:=b) (fd:=fd) (wd:=wd) (ss:=srs) hm).2.2)
 ·unfold restH; simp
theorem ZcL (C:BookR R) (B:BookOf N H b ps ss) {nm:Str} {sk:List Str} {lim:Int} (hn:nameOK nm=true) (hs:SkillsOK sk) (hl:1≤lim∧lim≤31) (hx:nm∉ps.map (·.name)) (hf:ps.length+ss.length<1000) :
  ∃ H',R (k+3) false 13 [.ref b,.str nm,.lst (sk.map .str),.int lim] H=.ok .none H'∧BookOf N H' b (ps++[⟨nm,sk,lim,[]⟩]) ss∧Up N H H':=by
 obtain ⟨H',e,B',u⟩:=ZfI (Q:=fun n=>N≤n) (k:=k) C (B.toQ fun n h _=>h) (fun n h=>Nat.le_trans B.le h) hn hs hl hx hf
 exact ⟨H',e,B'.of fun n h=>h,u.up B.le fun n hn h=>absurd h (Nat.not_le.mpr hn)⟩
theorem Zdz (C:BookR R) (B:BookOf N H b ps ss) {nm:Str} {h:Int×Int} {ns:List (Str×Int)} (hn:nameOK nm=true) (hs:stOK h=true) (hd:dayOK h=true) (hns:NeedsOK ns) (hx:nm∉ss.map (·.name)) (hf:ps.length+ss.length<1000) :
  ∃ H',R (k+3) false 15 [.ref b,.str nm,stAV h,.lst (ns.map needAV)] H=.ok .none H'∧BookOf N H' b ps (ss++[⟨nm,h,ns⟩])∧Up N H H':=by
 obtain ⟨H',e,B',u⟩:=ZgE (Q:=fun n=>N≤n) (k:=k) C (B.toQ fun n h _=>h) (fun n h=>Nat.le_trans B.le h) hn hs hd hns hx hf
 exact ⟨H',e,B'.of fun n h=>h,u.up B.le fun n hn h=>absurd h (Nat.not_le.mpr hn)⟩
end
inductive Ex2 {A B:Type} (P:A→B→Prop):Prop
 | mk (a:A) (b:B) (p:P a b):Ex2 P
inductive Ex3 {A B C:Type} (P:A→B→C→Prop):Prop
 | mk (a:A) (b:B) (c:C) (p:P a b c):Ex3 P
inductive Ex4 {A B C D:Type} (P:A→B→C→D→Prop):Prop
 | mk (a:A) (b:B) (c:C) (d:D) (p:P a b c d):Ex4 P
inductive Ex5 {A B C D E:Type} (P:A→B→C→D→E→Prop):Prop
 | mk (a:A) (b:B) (c:C) (d:D) (e:E) (p:P a b c d e):Ex5 P
inductive Ex6 {A B C D E F:Type} (P:A→B→C→D→E→F→Prop):Prop
 | mk (a:A) (b:B) (c:C) (d:D) (e:E) (f:F) (p:P a b c d e f):Ex6 P
inductive Ex7 {A B C D E F G:Type} (P:A→B→C→D→E→F→G→Prop):Prop
 | mk (a:A) (b:B) (c:C) (d:D) (e:E) (f:F) (g:G) (p:P a b c d e f g):Ex7 P
inductive Ex8 {A B C D E F G H:Type} (P:A→B→C→D→E→F→G→H→Prop):Prop
 | mk (a:A) (b:B) (c:C) (d:D) (e:E) (f:F) (g:G) (h:H) (p:P a b c d e f g h):Ex8 P
structure A2 (p1 p2:Prop):Prop where
 h1:p1
 h2:p2
structure A3 (p1 p2 p3:Prop):Prop where
 h1:p1
 h2:p2
 h3:p3
inductive A4 (p1 p2 p3 p4:Prop):Prop
 | mk:p1→p2→p3→p4→A4 p1 p2 p3 p4
inductive A5 (p1 p2 p3 p4 p5:Prop):Prop
 | mk:p1→p2→p3→p4→p5→A5 p1 p2 p3 p4 p5
inductive A7 (p1 p2 p3 p4 p5 p6 p7:Prop):Prop
 | mk:p1→p2→p3→p4→p5→p6→p7→A7 p1 p2 p3 p4 p5 p6 p7
inductive A8 (p1 p2 p3 p4 p5 p6 p7 p8:Prop):Prop
 | mk:p1→p2→p3→p4→p5→p6→p7→p8→A8 p1 p2 p3 p4 p5 p6 p7 p8
section
variable {P:OutS→Prop} {ρ ρ':RE} {H H₁ H₂ H₃ H₄:AH} {a:AV} {e t:DE} {r bs:List DS} {s b c:DS} {hot:Bool} {xs:List AV}
theorem Zal {i:Nat} (h:e ρ H=.ok a H₁) (q:P (seqS r (ρ.set i (some a)) H₁)):P (seqS (assignS hot (.one i) e::r) ρ H):=by rw [Za5 h rfl]; exact q
theorem ZaA (h:e ρ H=.ok a H₁) (q:P (seqS r ρ H₁)):P (seqS (exprS e::r) ρ H):=by rw [ZdG h rfl]; exact q
theorem ZaZ (h:e ρ H=.ok a H₁) (q:P (.ret a H₁)):P (seqS (retS e::r) ρ H):=by rw [Zbh h]; exact q
theorem Zno (q:P (.next ρ H)):P (seqS [] ρ H):=q
def Th (r:List DS) (P:OutS→Prop) (o:OutS):Prop:=P (o.then (seqS r))
theorem ZdH (q:P (seqS r ρ H)):Th r P (seqS [] ρ H):=q
theorem p_if {x:Bool} (h:t ρ H=.ok (.bool x) H₁) (q1:x=true→Th r P (b ρ H₁)) (q2:x=false→Th r P (c ρ H₁)):P (seqS (ifS t b c::r) ρ H):=by
 show P ((ifS t b c ρ H).then _); unfold ifS; rw [h]
 cases x with
 | true=>exact q1 rfl
 | false=>exact q2 rfl
theorem ZaK (h:t ρ H=.ok (.bool false) H₁) (q:P (seqS r ρ H₁)):P (seqS (ifS t b (seqS [])::r) ρ H):=by rw [Zau h rfl]; exact q
theorem Zoz (h:s ρ H=.next ρ' H₁) (q:P (seqS r ρ' H₁)):P (seqS (s::r) ρ H):=by rw [ZoG h rfl]; exact q
noncomputable def Nx (I:RE→AH→Prop) (P:OutS→Prop):OutS→Prop
 | .next ρ H=>I ρ H
 | .ret a H=>P (.ret a H)
 | .exc c ρ H=>P (.exc c ρ H)
 | .bad=>False
theorem Zam {I:RE→AH→Prop} (h:I ρ H):Nx I P (seqS [] ρ H):=h
theorem ZaG {I:RE→AH→Prop} (h:I ρ H):Th [] (Nx I P) (seqS [] ρ H):=h
theorem ZdP {I:RE→AH→Prop} {o:OutS} (h:Nx I P o):(∃ ρ' H',o=.next ρ' H'∧I ρ' H')∨(∃ a H',o=.ret a H'∧P (.ret a H'))∨∃ c ρ' H',o=.exc c ρ' H'∧P (.exc c ρ' H'):=by
 cases o with
 | next ρ H=>exact .inl ⟨_,_,rfl,h⟩
 | ret a H=>exact .inr (.inl ⟨_,_,rfl,h⟩)
 | exc c ρ H=>exact .inr (.inr ⟨_,_,_,rfl,h⟩)
 | bad=>exact h.elim
theorem Zbt {i n:Nat} {it:DE} (h:it ρ H=.ok a H₁) (hs:srcOf H₁ a=some (.seq xs,n,none)) (hn:n=xs.length) (Inv:Nat→RE→AH→Prop) (i0:Inv 0 ρ H₁)
  (step:∀ (J:RE→AH→Prop) (j:Nat) v ρ H,xs[j]?=some v→Inv j ρ H→(∀ ρ' H',Inv (j+1) ρ' H'→J ρ' H')→Nx J P (b (ρ.set i (some v)) H)) (fin:∀ ρ H,Inv xs.length ρ H→P (seqS r ρ H)):P (seqS (forS false (.one i) it b::r) ρ H):=by
 show P ((forS false (.one i) it b ρ H).then _)
 rw [Zfl h hs]
 refine Zce (P:=fun o=>P (o.then (seqS r))) Inv (fun j v ρ H e q=>?_) fin n 0 ρ H₁ (by omega) i0
 exact ZdP (step (Inv (j+1)) j v ρ H e q fun _ _ h=>h)
theorem Zoy {i m:Nat} {it:DE} (h:it ρ H=.ok (.ref m) H₁) (hr:H₁[m]?=some (.lst xs)) (Inv:Nat→RE→AH→Prop) (i0:Inv 0 ρ H₁) (hm:∀ j ρ H,Inv j ρ H→H[m]?=some (.lst xs))
  (step:∀ (J:RE→AH→Prop) (j:Nat) v ρ H,xs[j]?=some v→Inv j ρ H→(∀ ρ' H',Inv (j+1) ρ' H'→J ρ' H')→Nx J P (b (ρ.set i (some v)) H)) (fin:∀ ρ H,Inv xs.length ρ H→P (seqS r ρ H)):P (seqS (forS false (.one i) it b::r) ρ H):=by
 show P ((forS false (.one i) it b ρ H).then _)
 rw [ZmW h hr]
 refine ZhT (P:=fun o=>P (o.then (seqS r))) Inv hm (fun j v ρ H e q=>?_) fin _ 0 ρ H₁ (by lia) i0
 exact ZdP (step (Inv (j+1)) j v ρ H e q fun _ _ h=>h)
theorem Ze2 {e' e'':DE} {v k:AV} (h1:e'' ρ H=.ok v H₁) (h2:e ρ H₁=.ok a H₂) (h3:e' ρ H₂=.ok k H₃) (h4:setItemA a k v H₃=some H₄) (q:P (seqS r ρ H₄)):P (seqS (setItemS e e' e''::r) ρ H):=by rw [Zkl h1 h2 h3 h4 rfl]; exact q
end
structure PartsR (R:Nat→Bool→FT):Prop where
 tail:RunAt R 34 1 1 Zd9
 name_by:RunAt R 35 2 2 ZbW
 called:RunAt R 36 3 9 Zcz
 person:RunAt R 37 4 9 ZcA
 shift:RunAt R 38 4 8 Zdq
 tight:RunAt R 39 3 15 Zdr
 parts:RunAt R 40 1 10 Zdo
 rested:RunAt R 41 2 3 ZbE
 refused:RunAt R 42 4 4 ZaX
 book_of:RunAt R 43 3 8 ZbS
section
variable {ρ:RE} {H H₁:AH} {e:DE} {a:AV}
theorem ZeJ {i:Nat} (h:ρ[i]?=some (some a)):varE i ρ H=.ok a H:=by
 show (match ρ[i]? with | some (some a)=>Out.ok a H | _=>.bad)=_; rw [h]
theorem Zak {i:Nat} {a v:AV} (h:ρ[i]?=some (some a)):varE i (ρ++[some v]) H=.ok a H:=ZeJ (by rw [qGl (gsi h).1,h])
theorem Zag {n:Nat} {v:AV} (hn:ρ.length=n):varE n (ρ++[some v]) H=.ok v H:=ZeJ (by rw [← hn,List.getElem?_append_right (Nat.le_refl _),Nat.sub_self]; rfl)
theorem ZoU:cstE a ρ H=.ok a H:=rfl
theorem ZlB {mt:Bool} {i:Int} {n:Nat} (h1:Nat.ble 1 n=true) (h2:Nat.ble n 1000000=true):binA mt .Mod (.int i) (.int (OfNat.ofNat n)) H=.ok (.int (i%OfNat.ofNat n)) H:=by
 have h1:=Nat.le_of_ble_eq_true h1
 have h2:=Nat.le_of_ble_eq_true h2
 refine ZdD ?_
 show 0<(n:Int)∧(n:Int)<_
 lia -abstractProof
theorem Zla {mt:Bool} {i:Int} {n:Nat} (h1:Nat.ble 1 n=true) (h2:Nat.ble n 1000000=true):binA mt .FloorDiv (.int i) (.int (OfNat.ofNat n)) H=.ok (.int (i / OfNat.ofNat n)) H:=by
 have h1:=Nat.le_of_ble_eq_true h1
 have h2:=Nat.le_of_ble_eq_true h2
 refine Zcq ?_
 show 0<(n:Int)∧(n:Int)<_
 lia
theorem ZoZ {mt:Bool} {j:Int} {n:Nat} (h2:Nat.ble n 1000000=true):binA mt .Mult (.int (OfNat.ofNat n)) (.int j) H=.ok (.int (OfNat.ofNat n*j)) H:=by
 have h2:=Nat.le_of_ble_eq_true h2
 refine mulI (.inl ?_)
 show -(2^64)<(n:Int)∧(n:Int)<2^64
 lia
theorem Zi0 {R:Nat→Bool→FT} {k:Nat} {hot:Bool} (C:BookR R) {xs:List Int} (hx:xs.length≤63) {n:Nat} (h:Nat.ble n 999=true):R (k+1) hot 8 [.lst (xs.map .int),.int (OfNat.ofNat n)] H=.ok (.int (cell xs (OfNat.ofNat n))) H:=by
 have h:=Nat.le_of_ble_eq_true h
 refine Zhy C ?_ ?_ hx
 ·show 0≤(n:Int)
  exact Int.natCast_nonneg _
 ·show (n:Int)<_
  lia
theorem subI {mt:Bool} {i j:Int}:binA mt .Sub (.int i) (.int j) H=.ok (.int (i-j)) H:=rfl
theorem Zjk {i:Int} (h:e ρ H=.ok (.int i) H₁):negE e ρ H=.ok (.int (-i)) H₁:=by unfold negE; rw [h]; rfl
theorem Zmd {xs:List AV} {hot:Bool} (h:xs.length<2^62):biA hot .len [.lst xs] H=.ok (.int xs.length) H:=by
 show (if xs.length<2^62 then Out.ok (AV.int (xs.length:Nat)) H else .bad)=_; exact if_pos h
theorem ZmE {x:Str} {hot:Bool} (h:x.length<2^62):biA hot .len [.str x] H=.ok (.int x.length) H:=by
 show (if x.length<2^62 then Out.ok (AV.int (x.length:Nat)) H else .bad)=_; exact if_pos h
theorem Zn2 {hot c:Bool}:biA hot .int [.bool c] H=.ok (.int (if c then 1 else 0)) H:=rfl
theorem Zhd {x:Str} {u:Int} (h0:0≤u) (hu:u<1000) (hl:x.length≤1000):slcA false (.str x) .none (.int u) .none H=.ok (.str ⟨(x.cps.toList.take u.toNat).toArray⟩) H:=by
 have s1:optI (.int u)=some (some u):=if_pos (ZeL h0 (Int.le_of_lt (i_ll hu rfl)))
 have hs:1000≤sizeLine:=by decide
 unfold slcA
 rw [s1]
 show (if x.length≤sizeLine then Out.ok (AV.str ⟨(cut x.cps.toList none (some u)).toArray⟩) H else .bad)=_
 rw [if_pos (le_t ‹_› rfl)]
 congr 4
 have hl':x.cps.toList.length≤1000:=hl
 unfold cut
 show ((x.cps.toList.drop 0).take ((if u<0 then _ else if u<x.cps.toList.length then u.toNat else x.cps.toList.length)-0))=_
 rw [if_neg (Int.not_lt.mpr h0),List.drop_zero,Nat.sub_zero]
 split
 ·rfl
 ·rename_i g
  rw [List.take_of_length_le (Nat.le_refl _),List.take_of_length_le ((Int.le_toNat h0).mpr (Int.not_lt.mp g))]
theorem Zgn {x:Str} {u:Int} (h0:0≤u) (hu:u<1000) (hl:x.length≤1000):slcA false (.str x) (.int u) .none .none H=.ok (.str ⟨(x.cps.toList.drop u.toNat).toArray⟩) H:=by
 have s1:optI (.int u)=some (some u):=if_pos (ZeL h0 (Int.le_of_lt (i_ll hu rfl)))
 have hs:1000≤sizeLine:=by decide
 unfold slcA
 rw [s1]
 show (if x.length≤sizeLine then Out.ok (AV.str ⟨(cut x.cps.toList (some u) none).toArray⟩) H else .bad)=_
 rw [if_pos (le_t ‹_› rfl)]
 congr 4
 have hl':x.cps.toList.length≤1000:=hl
 unfold cut
 show ((x.cps.toList.drop (if u<0 then _ else if u<x.cps.toList.length then u.toNat else x.cps.toList.length)).take (x.cps.toList.length-(if u<0 then _ else if u<x.cps.toList.length then u.toNat else x.cps.toList.length)))=_
 rw [if_neg (Int.not_lt.mpr h0)]
 split
 ·rw [List.take_of_length_le (by simp)]
 ·rename_i g
  rw [List.take_of_length_le (by simp),List.drop_eq_nil_of_le (Nat.le_refl _),List.drop_eq_nil_of_le ((Int.le_toNat h0).mpr (Int.not_lt.mp g))]
end
theorem ZoH {a b:Nat} (h:(if a<4 then a+33 else a+34)=(if b<4 then b+33 else b+34)):a=b:=by
 split at h<;>split at h<;>lia
theorem ZdS {i j:Int} (hi:0≤i∧i<93) (hj:0≤j∧j<93) (h:sgc i=sgc j):i=j:=by
 have:=ZoH h
 rw [Int.emod_eq_of_lt hi.1 hi.2,Int.emod_eq_of_lt hj.1 hj.2] at this
 rw [← Int.toNat_of_nonneg hi.1,← Int.toNat_of_nonneg hj.1,this]
theorem Zou {p q c d:Int} (hp:0≤p∧p<93) (hq:0≤q∧q<93) (h:p≠q):nm p c≠nm q d:=fun e=>by
 have l:∀ p c:Int,(nm p c).cps.toList.getLast?=some (sgc p):=fun p c=>by
  show (nmL p c).getLast?=_
  unfold nmL; simp
 have:=congrArg (fun x:Str=>x.cps.toList.getLast?) e
 simp only [l,Option.some.injEq] at this
 exact h (ZdS hp hq this)
noncomputable def baseL (o:Int):List Nat:=(List.range 20).map fun (j:Nat)=>sgc (54+(o+3*j)%34)
noncomputable def caCell (xs:List Int) (k:Int):Int:=if cell xs 1 / 64%2=0 then cell xs (2+k%16) else cell xs 1
noncomputable def caTail (xs:List Int) (s k:Int):List Nat:=tlL (if 0<s∧cell xs 1%8≠1 then caCell xs k / 3+s else caCell xs k)
noncomputable def caAt (o:Int) (n:Nat):Nat:=if o / 64%2=1 then (o / 256%(n+1)).toNat else if o / 256%2=0 then 0 else n
noncomputable def caSign (o k:Int):Nat:=sgc (k / 2+32*(k%2)+(if o / 1024%4=0 then 0 else if o / 1024%4=1 then 31 else if o / 1024%4=2 then 40 else o / 4096%43))
noncomputable def calledL (xs:List Int) (s k:Int):List Nat :=
 if cell xs 1 / 64%4=3 then
  if k<20 then (if cell xs 1 / 256%2=0 then (baseL (cell xs 1)).take (k+1).toNat else (baseL (cell xs 1)).drop (19-k).toNat)
  else (baseL (cell xs 1)).take 18++[sgc (k-20)]++[sgc k]
 else (caTail xs s k).take (caAt (cell xs 1) (caTail xs s k).length)++[caSign (cell xs 1) k]++(caTail xs s k).drop (caAt (cell xs 1) (caTail xs s k).length)
noncomputable def called (xs:List Int) (s k:Int):Str:=⟨(calledL xs s k).toArray⟩
theorem Zbi (o:Int):(baseL o).length=20:=by unfold baseL; simp
theorem ZgG (o:Int):∀ c∈baseL o,okc c=true:=fun c h=>by
 unfold baseL at h
 refine x1_2 (qMm h) fun j _ e2'=>?_; subst e2'
 exact Ze4 _
theorem ZoS (c:Int):∀ x∈tlL c,okc x=true:=fun x h=>by
 unfold tlL at h
 refine x1_2 (qMm h) fun j _ e2'=>?_; subst e2'
 exact Ze4 _
theorem Zbw {xs:List Int} {s k:Int} (h0:0≤k):nameOK (called xs s k)=true:=by
 have hall:∀ c∈calledL xs s k,okc c=true:=by
  intro c hc
  unfold calledL at hc
  split at hc
  ·split at hc
   ·split at hc
    ·exact ZgG _ c (List.mem_of_mem_take hc)
    ·exact ZgG _ c (List.mem_of_mem_drop hc)
   ·simp only [List.mem_append,List.mem_singleton] at hc
    rcases hc with (hc | rfl) | rfl
    ·exact ZgG _ c (List.mem_of_mem_take hc)
    ·exact Ze4 _
    ·exact Ze4 _
  ·simp only [List.mem_append,List.mem_singleton] at hc
   rcases hc with (hc | rfl) | hc
   ·exact ZoS _ c (List.mem_of_mem_take hc)
   ·exact Ze4 _
   ·exact ZoS _ c (List.mem_of_mem_drop hc)
 have hlen:1≤(calledL xs s k).length∧(calledL xs s k).length≤20:=by
  unfold calledL
  split
  ·split
   ·split
    ·rw [qLt,Zbi]; exact ⟨Nat.le_min.mpr ⟨by lia,by decide⟩,Nat.min_le_right _ _⟩
    ·rw [List.length_drop,Zbi]
     have:(19-k).toNat≤19:=Int.toNat_le.mpr (by lia)
     exact ⟨Nat.le_sub_of_add_le (Nat.add_le_add_left this 1),Nat.sub_le _ _⟩
   ·simp only [qLa,qLt,Zbi,List.length_singleton]; decide
  ·have:=Zib (if 0<s∧cell xs 1%8≠1 then caCell xs k / 3+s else caCell xs k)
   have e:(caTail xs s k).length<20:=this
   have e2:((caTail xs s k).take (caAt (cell xs 1) (caTail xs s k).length)).length+((caTail xs s k).drop (caAt (cell xs 1) (caTail xs s k).length)).length=(caTail xs s k).length:=by rw [← qLa,List.take_append_drop]
   simp only [qLa,List.length_singleton]
   generalize ((caTail xs s k).take (caAt (cell xs 1) (caTail xs s k).length)).length=x at e2 ⊢
   generalize ((caTail xs s k).drop (caAt (cell xs 1) (caTail xs s k).length)).length=y at e2 ⊢
   lia
 unfold nameOK
 have h1:(called xs s k).length=(calledL xs s k).length:=by show (calledL xs s k).toArray.size=_; simp
 have h2:(called xs s k).cps.toList.all okc=true:=by
  show (calledL xs s k).all okc=true
  exact List.all_eq_true.mpr hall
 rw [h1,h2]
 simp [hlen]
theorem ZfB {o k k':Int} (h:0≤k∧k<36) (h':0≤k'∧k'<36) (e:caSign o k=caSign o k'):k=k':=by
 unfold caSign at e
 generalize hx:(if o / 1024%4=0 then (0:Int) else if o / 1024%4=1 then 31 else if o / 1024%4=2 then 40 else o / 4096%43)=x at e
 have hb:0≤x∧x<43:=by
  rw [← hx]
  split
  ·decide
  ·split
   ·decide
   ·split
    ·decide
    ·exact md rfl
 clear hx
 have bd:∀ {k:Int},0≤k∧k<36→0≤k / 2+32*(k%2)+x∧k / 2+32*(k%2)+x<93:=fun {k} h=>by
  have a:k / 2≤17:=Int.le_of_lt_add_one (Int.ediv_lt_of_lt_mul (by decide) h.2)
  have b:k%2≤1:=Int.le_of_lt_add_one (Int.emod_lt_of_pos k (by decide))
  exact ⟨Int.add_nonneg (Int.add_nonneg (Int.ediv_nonneg h.1 (by decide)) (Int.mul_nonneg (by decide) (Int.emod_nonneg k (by decide)))) hb.1,Int.lt_of_le_of_lt (Int.add_le_add (Int.add_le_add a (Int.mul_le_mul_of_nonneg_left b (by decide))) (show x≤42 from Int.le_of_lt_add_one hb.2)) (by decide)⟩
 have e:=(Int.add_left_inj x).mp (ZdS (bd h) (bd h') e)
 have md2:∀ {k:Int},0≤k∧k<36→(k / 2+32*(k%2))%32=k / 2:=fun {k} h=>by
  rw [Int.add_mul_emod_self_left]
  exact Int.emod_eq_of_lt (Int.ediv_nonneg h.1 (by decide)) (Int.ediv_lt_of_lt_mul (by decide) (Int.lt_trans h.2 (by decide)))
 have e1:k / 2=k' / 2:=(md2 h).symm.trans ((congrArg (·%32) e).trans (md2 h'))
 rw [e1] at e
 have e2:=Int.eq_of_mul_eq_mul_left (by decide) ((Int.add_right_inj _).mp e)
 rw [← Int.mul_ediv_add_emod k 2,← Int.mul_ediv_add_emod k' 2,e1,e2]
theorem Zcb {xs:List Int} {s k k':Int} (h:0≤k∧k<36) (h':0≤k'∧k'<36) (e:called xs s k=called xs s k'):k=k':=by
 have e1:calledL xs s k=calledL xs s k':=by
  have:=congrArg (fun x:Str=>x.cps.toList) e
  simpa [called] using this
 unfold calledL at e1
 have bl:=Zbi (cell xs 1)
 by_cases c3:cell xs 1 / 64%4=3
 ·simp only [c3,if_true] at e1
  have tk:∀ k:Int,0≤k→k<20→∀ k':Int,20≤k'→k'<36→(if cell xs 1 / 256%2=0 then (baseL (cell xs 1)).take (k+1).toNat else (baseL (cell xs 1)).drop (19-k).toNat)≠(baseL (cell xs 1)).take 18++[sgc (k'-20)]++[sgc k']:=by
   intro k a1 a2 k' b1 b2 q
   have hlen:=congrArg List.length q
   have:(k+1).toNat=20∧(19-k).toNat=0:=by
    have a3:min 18 20+1+1=20:=rfl
    suffices e:k=19 by subst e; exact ⟨rfl,rfl⟩
    refine Int.le_antisymm (Int.le_of_lt_add_one a2) ?_
    split at hlen
    ·simp only [qLa,qLt,bl,List.length_singleton,a3] at hlen
     have h20:20≤(k+1).toNat:=by rw [← hlen]; exact Nat.min_le_left _ _
     exact Int.le_of_add_le_add_right ((Int.le_toNat (Int.le_trans a1 (Int.le_add_of_nonneg_right (by decide)))).mp h20)
    ·simp only [qLa,qLt,List.length_drop,bl,List.length_singleton,a3] at hlen
     refine Int.le_of_sub_nonpos (Int.toNat_eq_zero.mp (Decidable.byContradiction fun z=>?_))
     have:=Nat.sub_lt (show 0<20 by decide) (Nat.pos_of_ne_zero z)
     rw [hlen] at this
     exact Nat.lt_irrefl _ this
   rw [this.1,this.2,List.drop_zero,List.take_of_length_le (by lia),ite_self] at q
   have q2:=congrArg (fun l:List Nat=>l[18]?) q
   have l18:(List.take 18 (baseL (cell xs 1))).length=18:=by rw [qLt,bl]; rfl
   simp only [qAa] at q2
   rw [List.getElem?_append_right (by lia),l18] at q2
   have q3:(baseL (cell xs 1))[18]?=some (sgc (54+(cell xs 1+3*(18:Nat))%34)):=by unfold baseL; simp
   rw [q3] at q2
   have q4:sgc (54+(cell xs 1+3*(18:Nat))%34)=sgc (k'-20):=by simpa using q2
   have h0:=ZdS ⟨Int.add_nonneg (by decide) (md rfl).1,Int.lt_trans (Int.add_lt_add_left (md rfl).2 54) (by decide)⟩ ⟨Int.sub_nonneg_of_le b1,Int.lt_of_le_of_lt (Int.sub_le_self _ (by decide)) (Int.lt_trans b2 (by decide))⟩ q4
   have:54≤k'-20:=h0▸Int.le_add_of_nonneg_right (md rfl).1
   clear q q2 q3 q4 h0
   lia
  by_cases a:k<20<;>by_cases b:k'<20
  ·simp only [a,b,if_true] at e1
   have:=congrArg List.length e1
   split at this
   ·rw [qLt,qLt,bl,Nat.min_eq_left (Int.toNat_le.mpr a),Nat.min_eq_left (Int.toNat_le.mpr b)] at this
    exact (Int.add_left_inj 1).mp (tinj (Int.add_nonneg h.1 (by decide)) (Int.add_nonneg h'.1 (by decide)) this)
   ·rw [List.length_drop,List.length_drop,bl] at this
    have n1:=Int.sub_nonneg_of_le (Int.le_of_lt_add_one (show k<19+1 from a))
    have n2:=Int.sub_nonneg_of_le (Int.le_of_lt_add_one (show k'<19+1 from b))
    have t1:(19-k).toNat≤20:=Int.toNat_le.mpr (Int.le_trans (Int.sub_le_self _ h.1) (by decide))
    have t2:(19-k').toNat≤20:=Int.toNat_le.mpr (Int.le_trans (Int.sub_le_self _ h'.1) (by decide))
    have:=tinj n1 n2 (by rw [← Nat.sub_sub_self t1,this,Nat.sub_sub_self t2])
    clear e1 bl c3 tk n1 n2 t1 t2
    lia
  ·simp only [a,b,if_true,if_false] at e1
   exact absurd e1 (tk k h.1 a k' (by exact Int.not_lt.mp ‹_›) h'.2)
  ·simp only [a,b,if_true,if_false] at e1
   exact absurd e1.symm (tk k' h'.1 b k (by exact Int.not_lt.mp ‹_›) h.2)
  ·simp only [a,b,if_false] at e1
   have:=congrArg List.getLast? e1
   simp only [List.getLast?_append,List.getLast?_singleton,Option.some_or,Option.some.injEq] at this
   exact ZdS (by lia) (by lia) this
 ·simp only [c3,if_false] at e1
  by_cases c1:cell xs 1 / 64%2=1
  ·have ht:caTail xs s k=caTail xs s k':=by
    unfold caTail caCell
    rw [if_neg (show ¬ cell xs 1 / 64%2=0 by lia),if_neg (show ¬ cell xs 1 / 64%2=0 by lia)]
   rw [ht,qAa,qAa] at e1
   have:=List.append_cancel_left e1
   simp only [List.singleton_append,List.cons.injEq] at this
   exact ZfB h h' this.1
  ·unfold caAt at e1
   simp only [c1,if_false] at e1
   by_cases c2:cell xs 1 / 256%2=0
   ·simp only [c2,if_true,List.take_zero,List.nil_append,List.singleton_append,List.cons.injEq] at e1
    exact ZfB h h' e1.1
   ·simp only [c2,if_false,List.take_length,List.drop_length,List.append_nil] at e1
    have:=congrArg List.getLast? e1
    simp only [List.getLast?_append,List.getLast?_singleton,Option.some_or,Option.some.injEq] at this
    exact ZfB h h' this
set_option compiler.extract_closed false
set_option maxHeartbeats 2000000
section
variable {H:AH}
theorem pick2I {a b c:Int}:subA (.lst [.int a,.int b]) (.int (c%2)) H=.ok (.int (if c%2=0 then a else b)) H:=by
 have h:c%2=0∨c%2=1:=by lia
 rcases h with h | h<;>rw [h]<;>rfl
theorem pick2S {a b:Str} {c:Int}:subA (.lst [.str a,.str b]) (.int (c%2)) H=.ok (.str (if c%2=0 then a else b)) H:=by
 have h:c%2=0∨c%2=1:=by lia
 rcases h with h | h<;>rw [h]<;>rfl
theorem pick4I {a b c d i:Int}:subA (.lst [.int a,.int b,.int c,.int d]) (.int (i%4)) H=.ok (.int (if i%4=0 then a else if i%4=1 then b else if i%4=2 then c else d)) H:=by
 have h:i%4=0∨i%4=1∨i%4=2∨i%4=3:=by lia
 rcases h with h | h | h | h<;>rw [h]<;>rfl
theorem pickBI {a b:Int} {c:Bool}:subA (.lst [.int a,.int b]) (.int (if c then 1 else 0)) H=.ok (.int (if c then b else a)) H:=by cases c<;>rfl
theorem Zi1 {i j:Int}:cmpA H .Gt (.int i) (.int j)=some (decide (j<i)):=rfl
theorem ZgJ {i j:Int}:cmpA H .Lt (.int i) (.int j)=some (decide (i<j)):=rfl
theorem Zi4 {i j:Int}:cmpA H .NotEq (.int i) (.int j)=some (!decide (i=j)):=rfl
theorem Zoq {as:List AV}:newL false as H=.ok (.lst as) H:=rfl
theorem Zor {as:List AV}:newL true as H=.ok (.ref H.length) (H++[.lst as]):=rfl
end
set_option hygiene false in
local macro_rules
 | `(tactic| trivial)=>`(tactic| first
  | with_reducible assumption
  | (with_reducible show binE _ _ _ _ _ _=_); exact rfl
  | ((with_reducible apply ZeJ); exact rfl)
  | (with_reducible first | apply Zay | apply Zab | apply Zec | apply ZeI | apply ZcC | apply Zac | apply e_bi | apply e_nt | apply Zjk | apply Zjj | apply Zeb | apply Zai | apply ZeU)<;>trivial
  | with_reducible first | exact ZoU | exact Zek | exact Zoq | exact Zor | exact addI | exact subI
  | (with_reducible first | apply ZlB | apply Zla | apply ZoZ)<;>exact rfl
  | with_reducible first | exact ZdD (by first | assumption | lia) | exact Zcq (by first | assumption | lia) | exact mulI (.inl (by lia)) | exact mulI (.inr (by lia)) | exact Zfc | exact Zi1 | exact ZgJ | exact Zi4 | exact Zn2 | exact pick2I | exact pick2S | exact pick4I | exact pickBI
  | ((with_reducible apply Zi0)<;>first | assumption | exact rfl)
  | with_reducible first | exact Zhy (by assumption) (by lia) (by lia) (by assumption) | exact ZfC (by assumption)
  | (simp only [List.length_cons,List.length_nil]; lia))
section
variable {R:Nat→Bool→FT} {k:Nat} {H:AH}
theorem Zh9 (C:BookR R) (P:PartsR R) {c:Int}:R (k+2) false 34 [.int c] H=.ok (.str ⟨(tlL c).toArray⟩) H:=by
 rw [P.tail _ _ _ _ rfl]
 suffices q:Zd9 (R (k+1)) false (rho0 [.int c] 1) H=.ret (.str ⟨(tlL c).toArray⟩) H by rw [q]; rfl
 exact Zbh (Zmh (by have:=Zib c; lia) rfl (Zaa (ZkM C rfl rfl)))
theorem Zg5 (C:BookR R) (P:PartsR R) {p c:Int}:R (k+3) false 35 [.int p,.int c] H=.ok (.str (nm p c)) H:=by
 rw [P.name_by _ _ _ _ rfl]
 suffices q:ZbW (R (k+2)) false (rho0 [.int p,.int c] 2) H=.ret (.str (nm p c)) H by rw [q]; rfl
 have hs:1000≤sizeLine:=by decide
 have hl:=Zib c
 exact Zbh ((Zay (Zac (Zaa rfl) (Zh9 C P)) (Zac (Zaa rfl) (ZfC C)) (addS (by
  show (tlL c).toArray.size+1≤_
  simp; lia))).trans (by rw [Zot]))
theorem ZiU (C:BookR R) {o:Int} {ρ:RE} (h3:ρ[3]?=some (some (.int o))) (hn:ρ.length=9):compE false false (callE (R (k+1) false) 9 [(binE false .Add (cstE (.int 54)) (binE false .Mod (binE false .Add (varE 3) (binE false .Mult (cstE (.int 3)) (varE 9))) (cstE (.int 34))))]) (biE false .range [(cstE (.int 20))]) (cstE (.bool true)) ρ H=.ok (.lst ((baseL o).map one)) H:=by
 refine ZgT (xs:=span 0 20) (g:=fun a=>match a with | .int j=>one (sgc (54+(o+3*j)%34)) | a=>a) (e_bi (Zaa rfl) rfl) (Zan (by decide) (by decide)) rfl (by rw [Zae]; decide) (fun v hm=>?_) ?_
 ·refine x1_3 (ZaU hm) fun j j0 j1 e3'=>?_; subst e3'
  have v3:varE 3 (ρ++[some (.int j)]) H=.ok (.int o) H:=Zak h3
  have v9:varE 9 (ρ++[some (.int j)]) H=.ok (.int j) H:=Zag hn
  trivial
 ·show Out.ok (AV.lst _) H=_
  unfold span baseL
  simp [List.map_map,Function.comp_def]
theorem Za6 (C:BookR R) (P:PartsR R) {xs:List Int} (hx:xs.length≤63) {s i:Int} (hs:0≤s∧s<3) (hi:0≤i∧i<100):R (k+3) false 36 [.lst (xs.map .int),.int s,.int i] H=.ok (.str (called xs s i)) H:=by
 rw [P.called _ _ _ _ rfl]
 suffices q:Zcz (R (k+2)) false (rho0 [.lst (xs.map .int),.int s,.int i] 9) H=.ret (.str (called xs s i)) H by rw [q]; rfl
 have hz:1000≤sizeLine:=by decide
 have bl:(⟨(baseL (cell xs 1)).toArray⟩:Str).length=20:=by
  show (baseL (cell xs 1)).toArray.size=_
  simp [Zbi]
 refine Za5 (a:=.int (cell xs 1)) (H₁:=H) (by trivial) ?_
 refine Za5 (a:=.int (caCell xs i)) (H₁:=H) (by unfold caCell; trivial) ?_
 refine Za5 (a:=.str ⟨(baseL (cell xs 1)).toArray⟩) (H₁:=H) (Zmh (by rw [Zbi]; decide) rfl (Zaa (ZiU C rfl rfl))) ?_
 have hcal:called xs s i=⟨(calledL xs s i).toArray⟩:=rfl
 unfold calledL at hcal
 generalize ho:cell xs 1=o at hcal bl
 refine s_if (x:=decide (o / 64%4=3) && decide (i<20)) (H₁:=H) (by trivial) (fun q=>?_) fun q=>?_
 ·simp only [qBt,decide_eq_true_eq] at q
  rw [if_pos q.1,if_pos q.2] at hcal
  have t1:slcA false (.str ⟨(baseL o).toArray⟩) .none (.int (i+1)) .none H=.ok (.str ⟨((baseL o).take (i+1).toNat).toArray⟩) H:=Zhd (by lia) (by lia) (by lia)
  have t2:slcA false (.str ⟨(baseL o).toArray⟩) (.int (19-i)) .none .none H=.ok (.str ⟨((baseL o).drop (19-i).toNat).toArray⟩) H:=Zgn (by lia) (by lia) (by lia)
  refine Zkm (Zbh (Eq.trans (b:=Out.ok (AV.str (if o / 256%2=0 then ⟨((baseL o).take (i+1).toNat).toArray⟩ else ⟨((baseL o).drop (19-i).toNat).toArray⟩)) H) (by trivial) ?_))
  rw [hcal]
  split<;>rfl
 ·show seqS _ _ H=_
  refine s_if (x:=decide (o / 64%4=3)) (H₁:=H) (by trivial) (fun q'=>?_) fun q'=>?_
  ·simp only [decide_eq_true_eq] at q'
   have hi20:¬ i<20:=by simpa [q'] using q
   rw [if_pos q',if_neg hi20] at hcal
   have t1:slcA false (.str ⟨(baseL o).toArray⟩) .none (.int 18) .none H=.ok (.str ⟨((baseL o).take 18).toArray⟩) H:=Zhd (by decide) (by decide) (by lia)
   have t2:∀ c,binA false .Add (.str ⟨((baseL o).take 18).toArray⟩) (one c) H=.ok (.str ⟨((baseL o).take 18++[c]).toArray⟩) H:=fun c=>(addS (by
    show ((baseL o).take 18).toArray.size+1≤_
    simp [Zbi]<;>lia)).trans (by congr 2<;>exact Zev (by rw [ZcM]<;>rfl))
   have t3:∀ c d,binA false .Add (.str ⟨((baseL o).take 18++[c]).toArray⟩) (one d) H=.ok (.str ⟨((baseL o).take 18++[c]++[d]).toArray⟩) H:=fun c d=>(addS (by
    show ((baseL o).take 18++[c]).toArray.size+1≤_
    simp [Zbi]<;>lia)).trans (by congr 2<;>exact Zev (by rw [ZcM]<;>rfl))
   rw [hcal]
   exact Zkm (Zbh (Zay (Zay (by trivial) (by trivial) (t2 _)) (by trivial) (t3 _ _)))
  ·simp only [decide_eq_false_iff_not] at q'
   rw [if_neg q'] at hcal
   show seqS _ _ H=_
   refine Za5 (a:=.str ⟨(caTail xs s i).toArray⟩) (H₁:=H) ?_ ?_
   ·refine Zac (Zaa (Eq.trans (b:=Out.ok (AV.int (if (decide (0<s) && !decide (o%8=1)) then caCell xs i / 3+s else caCell xs i)) H) (by trivial) rfl)) ((Zh9 C P).trans ?_)
    unfold caTail
    rw [ho]
    congr 5
    simp
   have tlen:(⟨(caTail xs s i).toArray⟩:Str).length=(caTail xs s i).length:=by show (caTail xs s i).toArray.size=_; simp
   have tl20:(caTail xs s i).length<20:=Zib _
   generalize caTail xs s i=tl at hcal tlen tl20
   have L1:biA false .len [.str ⟨tl.toArray⟩] H=.ok (.int tl.length) H:=(ZmE (by lia)).trans (by rw [tlen])
   have goal2:∀ at':Int,at'=caAt o tl.length→∀ a8,seqS [assignS false (.one 8) (callE (R (k+2) false) 9 [(binE false .Add (binE false .Add (binE false .FloorDiv (varE 2) (cstE (.int 2))) (binE false .Mult (cstE (.int 32)) (binE false .Mod (varE 2) (cstE (.int 2))))) (subE (lstE false [(cstE (.int 0)),(cstE (.int 31)),(cstE (.int 40)),(binE false .Mod (binE false .FloorDiv (varE 3) (cstE (.int 4096))) (cstE (.int 43)))]) (binE false .Mod (binE false .FloorDiv (varE 3) (cstE (.int 1024))) (cstE (.int 4)))))]),retS (binE false .Add (binE false .Add (slcE false (varE 6) (cstE .none) (varE 7) (cstE .none)) (varE 8)) (slcE false (varE 6) (varE 7) (cstE .none) (cstE .none)))]
     [some (.lst (xs.map .int)),some (.int s),some (.int i),some (.int o),some (.int (caCell xs i)),some (.str ⟨(baseL o).toArray⟩),some (.str ⟨tl.toArray⟩),some (.int at'),a8] H=.ret (.str (called xs s i)) H:=by
    intro at' hat a8
    have h0:0≤at':=hat▸Int.natCast_nonneg _
    have h1:at'.toNat=caAt o tl.length:=by rw [hat,Int.toNat_natCast]
    have hle:caAt o tl.length≤tl.length:=by
     unfold caAt
     split
     ·exact Int.toNat_le.mpr (Int.le_of_lt_add_one (Int.emod_lt_of_pos _ Zly))
     ·split
      ·exact Nat.zero_le _
      ·exact Nat.le_refl _
    refine Za5 (a:=one (caSign o i)) (H₁:=H) (by unfold caSign; trivial) ?_
    have t1:slcA false (.str ⟨tl.toArray⟩) .none (.int at') .none H=.ok (.str ⟨(tl.take at'.toNat).toArray⟩) H:=Zhd h0 (by lia) (by lia)
    have t2:slcA false (.str ⟨tl.toArray⟩) (.int at') .none .none H=.ok (.str ⟨(tl.drop at'.toNat).toArray⟩) H:=Zgn h0 (by lia) (by lia)
    have t3:∀ (x:List Nat) c,x.length≤100→binA false .Add (.str ⟨x.toArray⟩) (one c) H=.ok (.str ⟨(x++[c]).toArray⟩) H:=fun x c hl=>(addS (by
     show x.toArray.size+1≤_
     simp; lia)).trans (by congr 2<;>exact Zev (by rw [ZcM]<;>rfl))
    have t4:∀ x y:List Nat,x.length≤100→y.length≤100→binA false .Add (.str ⟨x.toArray⟩) (.str ⟨y.toArray⟩) H=.ok (.str ⟨(x++y).toArray⟩) H:=fun x y hl hl'=>(addS (by
     show x.toArray.size+y.toArray.size≤_
     simp; lia)).trans (by congr 2<;>exact Zev (by rw [ZcM]<;>rfl))
    rw [hcal,← h1]
    exact Zbh (Zay (Zay (by trivial) (by trivial) (t3 _ _ (by simp; lia))) (by trivial) (t4 _ _ (by simp; lia) (by simp; lia)))
   refine Za5 (a:=.int (if o / 256%2=0 then 0 else tl.length)) (H₁:=H) (by trivial) ?_
   refine s_if (x:=decide (o / 64%2=1)) (H₁:=H) (by trivial) (fun q''=>?_) fun q''=>?_
   ·simp only [decide_eq_true_eq] at q''
    refine Eq.trans (congrArg (fun o=>OutS.then o _) (Za5 (a:=.int (o / 256%((tl.length:Int)+1))) (H₁:=H) (by trivial) rfl)) ?_
    refine goal2 _ ?_ _
    unfold caAt
    rw [if_pos q'']
    exact (Int.toNat_of_nonneg (Int.emod_nonneg _ (Int.ne_of_gt Zly))).symm
   ·simp only [decide_eq_false_iff_not] at q''
    refine goal2 _ ?_ _
    unfold caAt
    rw [if_neg q'']
    split<;>rfl
end
noncomputable def SV (s:Sm):AV:=.tup [.str s.name,stAV s.hours,.lst (s.needs.map needAV)]
structure SmOK (s:Sm):Prop where
 name:nameOK s.name=true
 hours:stOK s.hours=true
 day:dayOK s.hours=true
 needs:NeedsOK s.needs
structure PmOK (p:Pm):Prop where
 name:nameOK p.name=true
 skills:SkillsOK p.skills
 limit:1≤p.limit∧p.limit≤31
 rests:∀ r∈p.rests,stOK r=true
 few:p.rests.length≤3
structure SksOK (sks:List Str):Prop where
 len:sks.length=6
 names:∀ x∈sks,nameOK x=true
 nodup:sks.Nodup
theorem Zat {α β:Type} {l:List α} {f:α→β} (h:∀ a∈l,∀ b∈l,f a=f b→a=b) (hl:l.Nodup):(l.map f).Nodup:=List.pairwise_map.mpr (hl.imp_of_mem fun ha hb q e=>q (h _ ha _ hb e))
section
variable {H:AH}
theorem ZlF {a:AV} {x:Str} {xs:List Str} (hd:dcOf H a=none) (h:lsOf H a=some (xs.map .str)):cmpA H .NotIn (.str x) a=some (!decide (x∈xs)):=by
 show (inA H (.str x) a).map (!·)=_
 rw [show inA H (.str x) a=_ from Zbs hd h]; rfl
theorem Zhj {xs:List Str} {f:Str→Bool}:(xs.map AV.str).filter (fun a=>match a with | .str x=>f x | _=>false)=(xs.filter f).map AV.str:=by
 induction xs with
 | nil=>rfl
 | cons x r ih =>
  rw [List.map_cons,List.filter_cons,List.filter_cons,ih]
  show (if f x=true then _ else _)=_
  cases f x<;>rfl
theorem Zgm {sks:List Str} (h:sks.length=6) {j:Int} (h0:0≤j) (h1:j<6):subA (.lst (sks.map .str)) (.int j) H=.ok (.str (sks.getD j.toNat "")) H:=by
 refine subL h0 ?_ (by simp; lia)
 rw [qGm,qGg (by lia),List.getD_eq_getElem?_getD,qGg (by lia)]
 rfl
theorem pick6I {a b c d e f i:Int} (h0:0≤i) (h1:i<6):subA (.lst [.int a,.int b,.int c,.int d,.int e,.int f]) (.int i) H=.ok (.int (([a,b,c,d,e,f]:List Int).getD i.toNat 0)) H:=by
 have h:i=0∨i=1∨i=2∨i=3∨i=4∨i=5:=by lia
 rcases h with rfl | rfl | rfl | rfl | rfl | rfl<;>rfl
end
section
variable {R:Nat→Bool→FT} {k:Nat} {H:AH}
noncomputable def wild (c:Int):List Str:=(List.range (if c / 32%4=0 then (0:Int) else if c / 32%4=1 then 0 else if c / 32%4=2 then 0 else 9).toNat).map fun (j:Nat)=>nm (40+j) c
noncomputable def pOwn (c:Int) (sks:List Str):List Str:=(wild c).filter (fun x=>!decide (x∈sks))++(((List.range 6).map fun (j:Nat)=>(j:Int)).filter fun j=>decide (c / ([1,2,4,8,3,5]:List Int).getD j.toNat 0%2=1)).map fun j=>sks.getD j.toNat ""
theorem ZkW (C:BookR R) (P:PartsR R) {c:Int} {ρ:RE} (h1:ρ[1]?=some (some (.int c))) (hn:ρ.length=9) :
  compE false false (callE (R (k+3) false) 35 [(binE false .Add (cstE (.int 40)) (varE 9)),(varE 1)]) (biE false .range [(subE (lstE false [(cstE (.int 0)),(cstE (.int 0)),(cstE (.int 0)),(cstE (.int 9))]) (binE false .Mod (binE false .FloorDiv (varE 1) (cstE (.int 32))) (cstE (.int 4))))]) (cstE (.bool true)) ρ H=.ok (.lst ((wild c).map .str)) H:=by
 have v1:varE 1 ρ H=.ok (.int c) H:=ZeJ h1
 unfold wild
 generalize hm:(if c / 32%4=0 then (0:Int) else if c / 32%4=1 then 0 else if c / 32%4=2 then 0 else 9)=m
 have hm0:0≤m∧m≤9:=by
  rw [← hm]
  repeat' split
  all_goals lia
 refine ZgT (a:=.rng 0 m) (H₁:=H) (xs:=span 0 m) (g:=fun a=>match a with | .int j=>.str (nm (40+j) c) | a=>a) (e_bi (Zaa (a:=.int m) (by rw [← hm]; trivial)) rfl) (Zan (by lia) (by lia)) (by rw [Zae,Int.sub_zero]) (by rw [Zae]; lia) (fun v hv=>?_) ?_
 ·refine x1_3 (ZaU hv) fun j j0 j1 e3'=>?_; subst e3'
  exact Zac (ZaI (Zay rfl (Zag hn) addI) (Zak h1)) (Zg5 C P)
 ·show Out.ok (AV.lst _) H=_
  unfold span
  simp [List.map_map,Function.comp_def]
theorem Zj5 {c:Int} {sks:List Str} (h:SksOK sks):SkillsOK (pOwn c sks):=by
 have hw:∀ x∈wild c,nameOK x=true:=fun x hx=>by
  unfold wild at hx
  refine x1_2 (qMm hx) fun j _ e2'=>?_; subst e2'
  exact Zo0 _ _
 have hs:∀ x∈(((List.range 6).map fun (j:Nat)=>(j:Int)).filter fun j=>decide (c / ([1,2,4,8,3,5]:List Int).getD j.toNat 0%2=1)).map (fun j=>sks.getD j.toNat ""),x∈sks:=fun x hx=>by
  refine x1_2 (qMm hx) fun j hj e2'=>?_; subst e2'
  refine x1_2 (qMm (List.mem_filter.mp hj).1) fun i hi e2'=>?_; subst e2'
  have:=List.mem_range.mp hi
  rw [List.getD_eq_getElem?_getD,qGg (by rw [h.len]; simpa using this)]
  exact List.getElem_mem _
 refine ⟨fun x hx=>?_,?_,?_⟩
 ·rcases qMp hx with hx | hx
  ·exact hw x (List.mem_filter.mp hx).1
  ·exact h.names x (hs x hx)
 ·unfold pOwn
  rw [List.nodup_append]
  refine ⟨List.Nodup.sublist List.filter_sublist ?_,?_,?_⟩
  ·unfold wild
   refine Zat (fun a ha b hb e=>?_) List.nodup_range
   have ha:=List.mem_range.mp ha
   have hb:=List.mem_range.mp hb
   have hm:(if c / 32%4=0 then (0:Int) else if c / 32%4=1 then 0 else if c / 32%4=2 then 0 else 9).toNat≤9:=by
    repeat' split
    all_goals decide
   have q:(40:Int)+a=40+b:=Decidable.byContradiction fun q=>Zou (by lia) (by lia) q e
   lia
  ·refine Zat (fun a ha b hb e=>?_) (List.Nodup.sublist List.filter_sublist (Zat (fun a _ b _ e=>by lia) List.nodup_range))
   refine x1_2 (qMm (List.mem_filter.mp ha).1) fun i hi e2'=>?_; subst e2'
   refine x1_2 (qMm (List.mem_filter.mp hb).1) fun j hj e2'=>?_; subst e2'
   have hi:=List.mem_range.mp hi
   have hj:=List.mem_range.mp hj
   have li:i<sks.length:=by rw [h.len]; exact hi
   have lj:j<sks.length:=by rw [h.len]; exact hj
   simp only [Int.toNat_natCast,List.getD_eq_getElem?_getD,qGg li,qGg lj,Option.getD_some] at e
   have:=(List.getElem_inj h.nodup).mp e
   lia
  ·intro a ha b hb e
   subst e
   have:=(List.mem_filter.mp ha).2
   simp only [Bool.not_eq_true',decide_eq_false_iff_not] at this
   exact this (hs _ hb)
 ·unfold pOwn wild
  have hm:(if c / 32%4=0 then (0:Int) else if c / 32%4=1 then 0 else if c / 32%4=2 then 0 else 9).toNat≤9:=by
   repeat' split
   all_goals decide
  rw [qLa,qLm]
  refine Nat.le_trans (Nat.add_le_add (List.length_filter_le _ _) (List.length_filter_le _ _)) ?_
  rw [qLm,qLm,List.length_range,List.length_range]
  lia
end
section
variable {R:Nat→Bool→FT} {k:Nat} {H:AH}
noncomputable def pSel (c:Int) (sks:List Str):List Str:=(((List.range 6).map fun (j:Nat)=>(j:Int)).filter fun j=>decide (c / ([1,2,4,8,3,5]:List Int).getD j.toNat 0%2=1)).map fun j=>sks.getD j.toNat ""
theorem ZcE {xs:List Int} {f:Int→Bool} {g:Int→AV}:((xs.map AV.int).filter (fun a=>match a with | .int x=>f x | _=>false)).map (fun a=>match a with | .int x=>g x | a=>a)=(xs.filter f).map g:=by
 induction xs with
 | nil=>rfl
 | cons x r ih =>
  rw [List.map_cons,List.filter_cons,List.filter_cons]
  show (if f x=true then _ else _:List AV).map _=_
  cases f x
  ·exact ih
  ·exact congrArg (g x::·) ih
theorem ZlV {c:Int} {sks:List Str} (hk:SksOK sks) {ρ:RE} (h1:ρ[1]?=some (some (.int c))) (h2:ρ[2]?=some (some (.lst (sks.map .str)))) (hn:ρ.length=9) :
  compE false false (subE (varE 2) (varE 9)) (biE false .range [(cstE (.int 6))]) (cmpE (binE false .Mod (binE false .FloorDiv (varE 1) (subE (lstE false [(cstE (.int 1)),(cstE (.int 2)),(cstE (.int 4)),(cstE (.int 8)),(cstE (.int 3)),(cstE (.int 5))]) (varE 9))) (cstE (.int 2))) [.Eq] [(cstE (.int 1))]) ρ H=.ok (.lst ((pSel c sks).map .str)) H:=by
 refine ZfX (xs:=span 0 6) (p:=fun a=>match a with | .int j=>decide (c / ([1,2,4,8,3,5]:List Int).getD j.toNat 0%2=1) | _=>false) (g:=fun a=>match a with | .int j=>.str (sks.getD j.toNat "") | a=>a) (e_bi (Zaa rfl) rfl) (Zan (by decide) (by decide)) rfl (by rw [Zae]; decide) (fun v hm=>?_) (fun v hm _=>?_) ?_
 ·refine x1_3 (ZaU hm) fun j j0 j1 e3'=>?_; subst e3'
  have v1:varE 1 (ρ++[some (.int j)]) H=.ok (.int c) H:=Zak h1
  have v9:varE 9 (ρ++[some (.int j)]) H=.ok (.int j) H:=Zag hn
  have hsub:=pick6I (H:=H) (a:=1) (b:=2) (c:=4) (d:=8) (e:=3) (f:=5) j0 j1
  have hpos:0<([1,2,4,8,3,5]:List Int).getD j.toNat 0∧([1,2,4,8,3,5]:List Int).getD j.toNat 0<1073741824:=by
   have hj:j=0∨j=1∨j=2∨j=3∨j=4∨j=5:=by lia
   rcases hj with rfl | rfl | rfl | rfl | rfl | rfl<;>decide
  exact Zai (Zay (Zay v1 (by trivial) (Zcq hpos)) rfl (ZdD (by decide))) rfl Zfc
 ·refine x1_3 (ZaU hm) fun j j0 j1 e3'=>?_; subst e3'
  exact Zab (Zak h2) (Zag hn) (Zgm hk.len j0 j1)
 ·show Out.ok (AV.lst _) H=_
  rw [show span 0 6=((List.range 6).map fun (j:Nat)=>(j:Int)).map AV.int from rfl,ZcE]
  unfold pSel
  rw [List.map_map]; rfl
theorem ZlJ (C:BookR R) (P':PartsR R) {name:Str} {c g:Int} {sks:List Str} (hk:SksOK sks) (hg:1≤g∧g≤40) {PG:OutS→Prop}
  (h:∀ (lim:Int) (rs:List (Int×Int)),(1≤lim∧lim≤31)→(∀ r∈rs,stOK r=true)→rs.length≤3→PG (.ret (.tup [.str name,.lst ((pOwn c sks).map .str),.int lim,.ref H.length]) (H++[.lst (rs.map stAV)]))) :
  PG (ZcA (R (k+3)) false (rho0 [.str name,.int c,.lst (sks.map .str),.int g] 9) H):=by
 have hz:1000≤sizeLine:=by decide
 refine Zal (ZkW C P' rfl rfl) ?_
 refine Zal (a:=.lst (((wild c).filter fun x=>!decide (x∈sks)).map .str)) (H₁:=H) (ZfX (xs:=(wild c).map .str) (p:=fun a=>match a with | .str x=>!decide (x∈sks) | _=>false) (g:=id) rfl rfl rfl ?_ (fun v hv=>?_) (fun v hv _=>?_) ?_) ?_
 ·unfold wild
  simp only [qLm,List.length_range]
  repeat' split
  all_goals decide
 ·refine x1_2 (qMm hv) fun x _ e2'=>?_; subst e2'
  exact Zai (Zag rfl) (Zak rfl) (ZlF rfl rfl)
 ·exact Zag rfl
 ·show Out.ok (AV.lst _) H=_
  rw [List.map_id]
  exact congrArg (fun l=>Out.ok (AV.lst l) H) (Zhj (f:=fun x=>!decide (x∈sks)))
 refine Zal (a:=.lst ((pOwn c sks).map .str)) (H₁:=H) (Zay rfl (ZlV hk rfl rfl rfl) ((addL ?_).trans ?_)) ?_
 ·have:=(Zj5 (c:=c) hk).few
  unfold pOwn at this
  rw [qLa] at this
  rw [qLm,qLm]
  unfold pSel
  exact Nat.le_trans ‹_› (le_t ‹_› rfl)
 ·show Out.ok (AV.lst _) H=_
  unfold pOwn pSel
  rw [qMa]
 refine Zal (a:=.ref H.length) (H₁:=H++[AO.lst []]) (by trivial) ?_
 generalize hm:(if c / 64%4=0 then (0:Int) else if c / 64%4=1 then 1 else if c / 64%4=2 then 3 else 2)=m
 have hm0:0≤m∧m≤3:=by
  rw [← hm]
  repeat' split
  all_goals decide
 refine Zbt (a:=.rng 0 m) (H₁:=H++[AO.lst []]) (xs:=span 0 m) (e_bi (Zaa (a:=.int m) (by rw [← hm]; trivial)) rfl) (Zan (by lia) (by lia)) (by rw [Zae,Int.sub_zero])
  (fun j ρ H'=>∃ rs:List (Int×Int),A4 (rs.length=j) ((∀ r∈rs,stOK r=true)) (H'=H++[AO.lst (rs.map stAV)]) (Ex2 fun a7 a8=>ρ=[some (.str name),some (.int c),some (.lst (sks.map .str)),some (.int g),some (.lst ((wild c).map .str)),some (.lst ((pOwn c sks).map .str)),some (.ref H.length),a7,a8]))
  ⟨[],rfl,(fun _ q=>nomatch q),rfl,_,_,rfl⟩ ?_ ?_
 ·rintro J j v ρ H' hv hI hJ
  obtain ⟨rs,hl,hok,rfl,a7,a8,rfl⟩:=hI
  refine x1_3 (ZaU (qMo hv)) fun i i0 i1 e3'=>?_; subst e3'
  have hj3:=(gsi hv).1
  rw [Zae] at hj3
  refine Zal (a:=.int (24*g*((c / 256+i)%3)+c / 768%24)) (H₁:=H++[AO.lst (rs.map stAV)]) (by trivial) ?_
  generalize hb:24*g*((c / 256+i)%3)+c / 768%24=bgn
  have hb0:0≤bgn∧bgn≤2000:=by
   have e3:(c / 256+i)%3=0∨(c / 256+i)%3=1∨(c / 256+i)%3=2:=m3
   rw [← hb]
   have hz:=md (a:=c / 768) (n:=24) rfl
   generalize c / 768%24=z at hz
   rcases e3 with e | e | e<;>rw [e]<;>(clear e hb; lia)
  clear hb
  refine ZaA (a:=.none) (H₁:=H++[AO.lst ((rs++[(bgn,bgn+1+(c / 18432+7*i)%30)]).map stAV)]) ((Zax rfl Zaj (Zaa (by trivial)) Zaj (by simp; lia)).trans (by rw [Zdf,qMa]; rfl)) ?_
  refine hJ _ _ ⟨_,by rw [qLa,hl]; rfl,fun r hr=>?_,rfl,_,_,rfl⟩
  rcases qMp hr with hr | hr
  ·exact hok r hr
  ·cases qMs hr
   unfold stOK
   simp only [qBt,decide_eq_true_eq]
   exact ZoP hb0 ⟨(md rfl).1,Int.lt_of_lt_of_le (md rfl).2 (by decide)⟩
 ·rintro ρ H' ⟨rs,hl,hok,rfl,a7,a8,rfl⟩
  rw [Zae] at hl
  refine ZaZ (by trivial) (h _ rs ?_ hok (by lia))
  repeat' split
  all_goals lia
theorem Ziz (C:BookR R) (P':PartsR R) {name:Str} {c g:Int} {sks:List Str} (hk:SksOK sks) (hg:1≤g∧g≤40) (hn:nameOK name=true) :
  ∃ p:Pm,p.name=name∧PmOK p∧R (k+4) false 37 [.str name,.int c,.lst (sks.map .str),.int g] H=.ok (pv (some H.length,p)) (H++[.lst (p.rests.map stAV)]):=by
 rw [P'.person _ _ _ _ rfl]
 refine ZlJ (PG:=fun o=>∃ p:Pm,p.name=name∧PmOK p∧o.done=.ok (pv (some H.length,p)) (H++[.lst (p.rests.map stAV)])) C P' hk hg fun lim rs h1 h2 h3=>?_
 exact ⟨⟨name,pOwn c sks,lim,rs⟩,rfl,⟨hn,Zj5 hk,h1,h2,h3⟩,rfl⟩
theorem pk8 (i:Int):∃ pk:List Int,(∀ H,subA (.lst [.lst [.int 0],.lst [.int 1],.lst [.int 2],.lst [.int 0,.int 1],.lst [.int 3,.int 2],.lst [.int 0,.int 1,.int 2],.lst [.int 5,.int 3,.int 1,.int 0,.int 2,.int 4],.lst []]) (.int (i%8)) H=.ok (.lst (pk.map .int)) H)∧(∀ j∈pk,0≤j∧j<6)∧pk.Nodup∧pk.length≤6:=by
 have h:i%8=0∨i%8=1∨i%8=2∨i%8=3∨i%8=4∨i%8=5∨i%8=6∨i%8=7:=by lia
 rcases h with h | h | h | h | h | h | h | h<;>rw [h]
 ·exact ⟨[0],fun _=>rfl,by decide,by decide,by decide⟩
 ·exact ⟨[1],fun _=>rfl,by decide,by decide,by decide⟩
 ·exact ⟨[2],fun _=>rfl,by decide,by decide,by decide⟩
 ·exact ⟨[0,1],fun _=>rfl,by decide,by decide,by decide⟩
 ·exact ⟨[3,2],fun _=>rfl,by decide,by decide,by decide⟩
 ·exact ⟨[0,1,2],fun _=>rfl,by decide,by decide,by decide⟩
 ·exact ⟨[5,3,1,0,2,4],fun _=>rfl,by decide,by decide,by decide⟩
 ·exact ⟨[],fun _=>rfl,by decide,by decide,by decide⟩
theorem ZdN {sks:List Str} (hk:SksOK sks) {j:Int} (h0:0≤j) (h1:j<6):sks.getD j.toNat "" ∈ sks:=by
 rw [List.getD_eq_getElem?_getD,qGg (by rw [hk.len]; lia)]
 exact List.getElem_mem _
theorem Zfn {sks:List Str} (hk:SksOK sks) {i j:Int} (h0:0≤i) (h1:i<6) (h2:0≤j) (h3:j<6) (e:sks.getD i.toNat "" = sks.getD j.toNat ""):i=j:=by
 have li:i.toNat<sks.length:=by rw [hk.len]; lia
 have lj:j.toNat<sks.length:=by rw [hk.len]; lia
 simp only [List.getD_eq_getElem?_getD,qGg li,qGg lj,Option.getD_some] at e
 have:=(List.getElem_inj hk.nodup).mp e
 exact tinj ‹_› ‹_› ‹_›
theorem Znz (C:BookR R) (P':PartsR R) {name:Str} {c g:Int} {sks:List Str} (hk:SksOK sks) (hg:1≤g∧g≤40) (hn:nameOK name=true) {PG:OutS→Prop}
  (h:∀ s:Sm,s.name=name→SmOK s→s.needs.length≤6→PG (.ret (SV s) H)) :
  PG (Zdq (R (k+3)) false (rho0 [.str name,.int c,.lst (sks.map .str),.int g] 8) H):=by
 refine Zal (a:=.int (24*g*(c%3)+8*(c / 3%3))) (H₁:=H) (by trivial) ?_
 generalize hb:24*g*(c%3)+8*(c / 3%3)=b
 have hb0:0≤b∧b≤2000:=by
  have e3:c%3=0∨c%3=1∨c%3=2:=m3
  rw [← hb]
  have hz:=md (a:=c / 3) (n:=3) rfl
  generalize c / 3%3=z at hz
  rcases e3 with e | e | e<;>rw [e]<;>(clear e hb; lia)
 clear hb
 refine x1_4 (pk8 (c / 72)) fun pk hpk hpk1 hpk2 hpk3=>?_
 have hpk:=hpk H
 refine Zal (a:=.lst (pk.map .int)) (H₁:=H) (by trivial) ?_
 generalize hm:(if c / 576%4=0 then (2:Int) else if c / 576%4=1 then 2 else if c / 576%4=2 then 3 else 9)=m
 have hm0:2≤m∧m≤9:=by
  rw [← hm]
  repeat' split
  all_goals decide
 refine Zal (a:=.int m) (H₁:=H) (by rw [← hm]; trivial) ?_
 clear hm
 have hmp:0<m:=Int.lt_of_lt_of_le (by decide) hm0.1
 have hmod:∀ j:Int,0≤(c / 2304+j)%m∧(c / 2304+j)%m<m:=fun j=>⟨Int.emod_nonneg _ (Int.ne_of_gt hmp),Int.emod_lt_of_pos _ hmp⟩
 refine Zal (a:=.lst ((pk.map fun j=>(sks.getD j.toNat "", 1+(c / 2304+j)%m)).map needAV)) (H₁:=H) (ZgT (xs:=pk.map .int) (g:=fun a=>match a with | .int j=>needAV (sks.getD j.toNat "", 1+(c / 2304+j)%m) | a=>a) rfl rfl rfl (by rw [qLm]; exact Nat.le_of_lt (lt_t ‹_› rfl)) (fun v hv=>?_) ?_) ?_
 ·refine x1_2 (qMm hv) fun j hj e2'=>?_; subst e2'
  have hj:=hpk1 j hj
  exact ZcC (ZaI (Zab (Zak rfl) (Zag rfl) (Zgm hk.len hj.1 hj.2)) (Zay rfl (Zay (Zay (Zay (Zak rfl) rfl (Zcq (by decide))) (Zag rfl) addI) (Zak rfl) (ZdD (by lia))) addI)) (by simp)
 ·show Out.ok (AV.lst _) H=_
  rw [List.map_map,List.map_map]; rfl
 have hxp:0<24-b%24:=Int.sub_pos_of_lt (md rfl).2
 have hx:0≤c / 9%(24-b%24)∧c / 9%(24-b%24)<24-b%24:=⟨Int.emod_nonneg _ (Int.ne_of_gt hxp),Int.emod_lt_of_pos _ hxp⟩
 refine ZaZ (a:=SV ⟨name,(b,b+1+c / 9%(24-b%24)),pk.map fun j=>(sks.getD j.toNat "", 1+(c / 2304+j)%m)⟩) (H₁:=H) (by unfold SV stAV; trivial) (h _ rfl ⟨hn,?_,?_,?_,?_,?_,?_⟩ ?_)
 ·unfold stOK
  simp only [qBt,decide_eq_true_eq]
  exact ZoP ‹_› ⟨hx.1,Int.lt_of_lt_of_le hx.2 (Int.le_trans (Int.sub_le_self 24 (md rfl).1) (by decide))⟩
 ·unfold dayOK
  simp only [decide_eq_true_eq]
  clear hmod
  generalize c / 9%(24-b%24)=y at hx
  lia
 ·intro n hn
  refine x1_2 (qMm hn) fun j hj e2'=>?_; subst e2'
  exact hk.names _ (ZdN hk (hpk1 j hj).1 (hpk1 j hj).2)
 ·rw [List.map_map]
  exact Zat (fun i hi j hj e=>Zfn hk (hpk1 i hi).1 (hpk1 i hi).2 (hpk1 j hj).1 (hpk1 j hj).2 e) hpk2
 ·intro n hn
  refine x1_2 (qMm hn) fun j hj e2'=>?_; subst e2'
  have:=hmod j
  exact ⟨Int.le_add_of_nonneg_right this.1,by show 1+_≤(9:Int); rw [Int.add_comm]; exact Int.le_trans this.2 hm0.2⟩
 ·rw [qLm]; exact Nat.le_of_lt (lt_t ‹_› rfl)
 ·rw [qLm]; lia
theorem Zkv (C:BookR R) (P':PartsR R) {name:Str} {c g:Int} {sks:List Str} (hk:SksOK sks) (hg:1≤g∧g≤40) (hn:nameOK name=true) :
  ∃ s:Sm,s.name=name∧SmOK s∧s.needs.length≤6∧R (k+4) false 38 [.str name,.int c,.lst (sks.map .str),.int g] H=.ok (SV s) H:=by
 rw [P'.shift _ _ _ _ rfl]
 exact Znz (PG:=fun o=>∃ s:Sm,s.name=name∧SmOK s∧s.needs.length≤6∧o.done=.ok (SV s) H) C P' hk hg hn fun s h1 h2 h3=>⟨s,h1,h2,h3,rfl⟩
end
section
variable {P:OutS→Prop} {ρ:RE} {H H₁ H₂ H₃ H₄ H₅:AH} {a k:AV} {o i e:DE} {r:List DS} {xs:List AV}
theorem Zow {x y:Int} (h1:o ρ H=.ok a H₁) (h2:i ρ H₁=.ok k H₂) (h3:subA a k H₂=.ok (.int x) H₃) (h4:e ρ H₃=.ok (.int y) H₄) (h5:setItemA a k (.int (x+y)) H₄=some H₅) (q:P (seqS r ρ H₅)):P (seqS (augS o i e::r) ρ H):=by
 show P ((augS o i e ρ H).then _)
 unfold augS
 rw [h1]
 show P (((i ρ H₁).inS ρ _).then _)
 rw [h2]
 show P (((subA a k H₂).inS ρ _).then _)
 rw [h3]
 show P (((e ρ H₃).inS ρ _).then _)
 rw [h4]
 show P ((orBadS (setItemA a k (.int (x+y)) H₄) _).then _)
 rw [h5]
 exact q
theorem Zny {n:Nat} {j:Int} {v:AV} (h:H[n]?=some (.lst xs)) (h0:0≤j) (h1:j<xs.length) (hl:xs.length≤1000000):setItemA (.ref n) (.int j) v H=some (H.set n (.lst (xs.set j.toNat v))):=by
 show (match H[n]? with
  | some (.lst xs)=>if small j then (idxA j xs.length).map fun i=>setL H n (xs.set i v) else none
  | some (.dict es)=>_
  | _=>none)=_
 rw [h]
 show (if small j then (idxA j xs.length).map fun i=>setL H n (xs.set i v) else none)=_
 rw [if_pos (by unfold small; simp; lia -abstractProof)]
 unfold idxA
 rw [if_pos h0,if_pos h1]
 rfl
set_option smartUnfolding false in
theorem ZfR {T E:AV→AH→Out AV} {ob:AO} (hT:∀ v∈xs,∀ H,T v H=.ok (.bool true) H) (hE:∀ v∈xs,∀ H,E v H=.ok (.ref H.length) (H++[ob])):∀ (n k:Nat) (acc:List AV) (H:AH),n+k=xs.length→compL T E (.seq xs) n k acc H=.ok (acc++(List.range n).map fun i=>.ref (H.length+i)) (H++List.replicate n ob)
 | 0,k,acc,H,e=>by
  have:xs[k]?=none:=List.getElem?_eq_none (by lia)
  show (match some xs[k]? with | none=>Out.bad | some none=>.ok acc H | some (some v)=>.bad)=_
  rw [this]
  show Out.ok acc H=.ok (acc++[]) (H++[])
  rw [List.append_nil,List.append_nil]
 | n+1,k,acc,H,e=>by
  have hk:xs[k]?=some xs[k]:=qGg (by lia)
  have hm:xs[k]∈xs:=List.getElem_mem _
  show (match some xs[k]? with | none=>Out.bad | some none=>.ok acc H | some (some v)=>(T v H).bind fun c H₁=>asBool c fun c=>if c then (E v H₁).bind fun a H₂=>compL T E (.seq xs) n (k+1) (acc++[a]) H₂ else compL T E (.seq xs) n (k+1) acc H₁)=_
  rw [hk]
  show (T xs[k] H).bind _=_
  rw [hT _ hm]
  show (E xs[k] H).bind (fun a H₂=>compL T E (Src.seq xs) n (k+1) (acc++[a]) H₂)=_
  rw [hE _ hm]
  show compL T E (.seq xs) n (k+1) (acc++[.ref H.length]) (H++[ob])=_
  rw [ZfR hT hE n (k+1) _ _ (by lia),List.range_succ_eq_map]
  congr 1
  ·simp [Function.comp_def,Nat.add_assoc,Nat.add_comm 1]
  ·rw [qAa,List.replicate_succ]; rfl
theorem Zoc {elt it:DE} {n:Nat} {ob:AO} (h:it ρ H=.ok a H₁) (hs:srcOf H₁ a=some (.seq xs,n,none)) (hn:n=xs.length) (hl:xs.length≤1000000) (hE:∀ v∈xs,∀ H,elt (ρ++[some v]) H=.ok (.ref H.length) (H++[ob])) :
  compE false false elt it (cstE (.bool true)) ρ H=.ok (.lst ((List.range n).map fun i=>.ref (H₁.length+i))) (H₁++List.replicate n ob):=by
 subst hn
 unfold compE
 rw [h]
 show orBad (srcOf H₁ a) _=_
 rw [hs]
 show (if false=false∧xs.length≤1000000 then _ else _)=_
 rw [if_pos ⟨rfl,hl⟩]
 show (Out.calm (compL _ _ (.seq xs) xs.length 0 [] H₁)).bind _=_
 rw [ZfR (T:=fun v=>cstE (AV.bool true) (ρ++[some v])) (fun _ _ _=>rfl) hE _ _ _ _ (by simp)]
 rfl
theorem pick3I {a b c i:Int} (h0:0≤i) (h1:i<3):subA (.lst [.int a,.int b,.int c]) (.int i) H=.ok (.int (([a,b,c]:List Int).getD i.toNat 0)) H:=by
 have h:i=0∨i=1∨i=2:=by lia
 rcases h with rfl | rfl | rfl<;>rfl
theorem pick4J {a b c d i:Int} (h0:0≤i) (h1:i<4):subA (.lst [.int a,.int b,.int c,.int d]) (.int i) H=.ok (.int (([a,b,c,d]:List Int).getD i.toNat 0)) H:=by
 have h:i=0∨i=1∨i=2∨i=3:=by lia
 rcases h with rfl | rfl | rfl | rfl<;>rfl
theorem Zg9 {n m:Nat} {i:Int} (h0:0≤i) (h1:i<n) (hn:n≤1000):subA (.lst ((List.range n).map fun i=>.ref (m+i))) (.int i) H=.ok (.ref (m+i.toNat)) H:=by
 refine subL h0 ?_ (by simp; exact le_t ‹_› rfl)
 rw [qGm,List.getElem?_range (by lia)]; rfl
theorem Zfr {n:Nat} {is:List Int} {i:Int} (h:H[n]?=some (.lst (is.map .int))) (h0:0≤i) (h1:i<is.length) (hl:is.length≤1000):subA (.ref n) (.int i) H=.ok (.int (is.getD i.toNat 0)) H:=by
 refine ZcK h h0 ?_ (by simp; exact le_t ‹_› rfl)
 rw [qGm,List.getD_eq_getElem?_getD,qGg (by lia -abstractProof)]; rfl
theorem Zfs {n:Nat} {is:List Int} {i v:Int} (h:H[n]?=some (.lst (is.map .int))) (h0:0≤i) (h1:i<is.length) (hl:is.length≤1000):setItemA (.ref n) (.int i) (.int v) H=some (H.set n (.lst ((is.set i.toNat v).map .int))):=by
 rw [Zny h h0 (by simpa using h1) (by simp; exact le_t ‹_› rfl),List.map_set]
end
structure Cnt (H:AH) (h0 nd:Nat) (cs:Nat→List Int) (top:Nat→Int):Prop where
 at_:∀ d<nd,H[h0+d]?=some (.lst ((cs d).map .int))
 four:∀ d<nd,(cs d).length=4
 lo:∀ d<nd,∀ x∈cs d,0≤x∧x≤top d
section
variable {H H':AH} {h0 nd:Nat} {cs:Nat→List Int} {top top':Nat→Int}
theorem Cnt.frame (C:Cnt H h0 nd cs top) (h:∀ d<nd,H'[h0+d]?=H[h0+d]?):Cnt H' h0 nd cs top:=⟨fun d hd=>(h d hd).trans (C.at_ d hd),C.four,C.lo⟩
theorem Cnt.mono (C:Cnt H h0 nd cs top) (h:∀ d<nd,top d≤top' d):Cnt H h0 nd cs top':=⟨C.at_,C.four,fun d hd x hx=>⟨(C.lo d hd x hx).1,Int.le_trans (C.lo d hd x hx).2 (h d hd)⟩⟩
theorem Cnt.bump (C:Cnt H h0 nd cs top) {d:Nat} (hd:d<nd) {i y:Int} (hi:0≤i∧i<4) (hy:0≤y∧y≤1) (h1:top d+1≤top' d) (h2:∀ e<nd,top e≤top' e) :
  Cnt (H.set (h0+d) (.lst (((cs d).set i.toNat ((cs d).getD i.toNat 0+y)).map .int))) h0 nd (fun e=>if e=d then (cs d).set i.toNat ((cs d).getD i.toNat 0+y) else cs e) top':=by
 have hlt:h0+d<H.length:=(gsi (C.at_ d hd)).1
 have hg:(cs d).getD i.toNat 0∈cs d:=by
  rw [List.getD_eq_getElem?_getD,qGg (by rw [C.four d hd]; lia)]
  exact List.getElem_mem _
 refine ⟨fun e he=>?_,fun e he=>?_,fun e he x hx=>?_⟩
 ·by_cases q:e=d
  ·subst q
   rw [ZaB hlt,if_pos rfl]
  ·rw [Zaf (by lia),if_neg q]
   exact C.at_ e he
 ·show (if e=d then _ else cs e).length=4
  split
  ·rw [List.length_set]; exact C.four d hd
  ·exact C.four e he
 ·have hx:x∈(if e=d then (cs d).set i.toNat ((cs d).getD i.toNat 0+y) else cs e):=hx
  by_cases q:e=d
  ·subst q
   rw [if_pos rfl] at hx
   rcases List.mem_or_eq_of_mem_set hx with hx | rfl
   ·have:=C.lo e he x hx
    exact ⟨this.1,Int.le_trans this.2 (h2 e he)⟩
   ·have:=C.lo e he _ hg
    exact ⟨Int.add_nonneg this.1 hy.1,Int.le_trans (Int.add_le_add this.2 hy.2) h1⟩
  ·rw [if_neg q] at hx
   have:=C.lo e he x hx
   exact ⟨this.1,Int.le_trans this.2 (h2 e he)⟩
end
noncomputable def rT (xs:List Int) (sks:List Str) (g f:Int) (nd h0 pa:Nat) (a4 a7 a8 a9 a10 a11 a12 a13 a14:Option AV):RE:=[some (.lst (xs.map .int)),some (.lst (sks.map .str)),some (.int g),some (.int f),a4,some (.lst ((List.range nd).map fun i=>.ref (h0+i))),some (.ref pa),a7,a8,a9,a10,a11,a12,a13,a14]
section
variable {R:Nat→Bool→FT} {k:Nat} {H:AH} {PG:OutS→Prop} {xs:List Int} {sks:List Str} {g f c:Int} {h0 nd pa oa:Nat} {a4 a7 a11 a12 a13 a14:Option AV} {T:Int} {r:List DS}
theorem getD3 {a b c:Int} (ha:0<a∧a<1073741824) (hb:0<b∧b<1073741824) (hc:0<c∧c<1073741824) {i:Int} (h0:0≤i) (h1:i<3):0<([a,b,c]:List Int).getD i.toNat 0∧([a,b,c]:List Int).getD i.toNat 0<1073741824:=by
 have h:i=0∨i=1∨i=2:=by lia
 rcases h with rfl | rfl | rfl
 ·exact ha
 ·exact hb
 ·exact hc
theorem ZiW {n m:Nat} (hn:n≤1000):biA false .len [.lst ((List.range n).map fun i=>.ref (m+i))] H=.ok (.int n) H:=(Zmd (by simp; exact lt_t ‹_› rfl)).trans (by simp)
theorem Zn6 (hnd:nd≤3) {cs0:Nat→List Int} (C0:Cnt H h0 nd cs0 fun _=>T) {own0:List Int} (ho:H[oa]?=some (.lst (own0.map .int))) (ho4:own0.length=4) (hoa:h0+nd≤oa)
  (fin:∀ (H':AH) (cs:Nat→List Int) (own:List Int) (load:Int) (a4:Option AV),Cnt H' h0 nd cs (fun _=>T+1)→H'[oa]?=some (.lst (own.map .int))→own.length=4→0≤load∧load≤3→(∀ n,n≠oa→(n<h0∨h0+nd≤n)→H'[n]?=H[n]?)→H'.length=H.length →
   PG (seqS r (rT xs sks g f nd h0 pa a4 a7 (some (.int c)) (some (.ref oa)) (some (.int load)) a11 a12 a13 a14) H')):PG (seqS (forS false (.one 4) (biE false .range [(biE false .len [(varE 5)])]) (seqS [ifS (cmpE (binE false .Mod (binE false .FloorDiv (varE 8) (subE (lstE false [(cstE (.int 1024)),(cstE (.int 4096)),(cstE (.int 16384))]) (varE 4))) (cstE (.int 4))) [.Gt] [(cstE (.int 0))]) (seqS [augS (subE (varE 5) (varE 4)) (binE false .Mod (binE false .FloorDiv (varE 8) (subE (lstE false [(cstE (.int 16)),(cstE (.int 64)),(cstE (.int 256))]) (varE 4))) (cstE (.int 4))) (cstE (.int 1)),setItemS (varE 9) (binE false .Mod (binE false .FloorDiv (varE 8) (subE (lstE false [(cstE (.int 16)),(cstE (.int 64)),(cstE (.int 256))]) (varE 4))) (cstE (.int 4))) (cstE (.int 1)),assignS false (.one 10) (binE false .Add (varE 10) (cstE (.int 1)))]) (seqS [])])::r) (rT xs sks g f nd h0 pa a4 a7 (some (.int c)) (some (.ref oa)) (some (.int 0)) a11 a12 a13 a14) H):=by
 refine Zbt (a:=.rng 0 nd) (H₁:=H) (xs:=span 0 nd) (e_bi (Zaa (e_bi (Zaa rfl) (ZiW (by exact Nat.le_of_lt (lt_t ‹_› rfl))))) rfl) (Zan (by lia) (by lia)) (by rw [Zae,Int.sub_zero])
  (fun d ρ H'=>Ex4 fun (cs:Nat→List Int) (own:List Int) (load:Int) (a4:Option AV)=>A8 (Cnt H' h0 nd cs (fun e=>if e<d then T+1 else T)) (H'[oa]?=some (.lst (own.map .int))) (own.length=4) (0≤load) (load≤d) ((∀ n,n≠oa→(n<h0∨h0+nd≤n)→H'[n]?=H[n]?)) (H'.length=H.length) (ρ=(rT xs sks g f nd h0 pa a4 a7 (some (.int c)) (some (.ref oa)) (some (.int load)) a11 a12 a13 a14)))
  ⟨cs0,own0,0,a4,C0,ho,ho4,by decide,Int.natCast_nonneg _,fun _ _ _=>rfl,rfl,rfl⟩ ?_ ?_
 ·rintro J d v ρ H' hv hI hJ
  obtain ⟨cs,own,load,a4,C1,o1,o4,l0,l1,fr,hl,rfl⟩:=hI
  have hd:d<nd:=by
   have:=(gsi hv).1
   rw [Zae] at this; lia
  have hv:v=.int d:=by
   unfold span at hv
   rw [qGm,List.getElem?_range (by exact Nat.lt_of_lt_of_le ‹_› (Nat.le_add_right _ _))] at hv
   simpa using hv.symm
  obtain ⟨D,hD,rfl⟩:∃ D:Int,D=(d:Int)∧v=.int D:=⟨d,rfl,hv⟩
  have hDn:D.toNat=d:=by lia
  have q1:=fun H:AH=>pick3I (H:=H) (a:=1024) (b:=4096) (c:=16384) (i:=D) (by lia) (by lia)
  have q2:=fun H:AH=>pick3I (H:=H) (a:=16) (b:=64) (c:=256) (i:=D) (by lia) (by lia)
  have g1:=getD3 (a:=1024) (b:=4096) (c:=16384) (by decide) (by decide) (by decide) (i:=D) (by lia) (by lia)
  have g2:=getD3 (a:=16) (b:=64) (c:=256) (by decide) (by decide) (by decide) (i:=D) (by lia) (by lia)
  generalize ([1024,4096,16384]:List Int).getD D.toNat 0=z1 at q1 g1
  generalize ([16,64,256]:List Int).getD D.toNat 0=z2 at q2 g2
  show Nx _ _ ((_:DS) (rT xs sks g f nd h0 pa (some (.int D)) a7 (some (.int c)) (some (.ref oa)) (some (.int load)) a11 a12 a13 a14) H')
  have q1a:=q1 H'
  have q2a:=q2 H'
  refine p_if (x:=decide (0<c / z1%4)) (H₁:=H') (by trivial) (fun _=>?_) fun _=>?_
  ·have C2:=C1.bump (d:=d) hd (i:=c / z2%4) (y:=1) (md rfl) (by decide) (top':=fun e=>if e<d+1 then T+1 else T) (by simp) (fun e he=>by show (if e<d then T+1 else T)≤(if e<d+1 then T+1 else T); split<;>split<;>lia)
   have s1:subA (.ref (h0+d)) (.int (c / z2%4)) H'=.ok (.int ((cs d).getD (c / z2%4).toNat 0)) H':=Zfr (C1.at_ d hd) (md rfl).1 (by rw [C1.four d hd]; exact (md rfl).2) (by rw [C1.four d hd]; decide)
   have s2:=Zfs (v:=(cs d).getD (c / z2%4).toNat 0+1) (C1.at_ d hd) (i:=c / z2%4) (md rfl).1 (by rw [C1.four d hd]; exact (md rfl).2) (by rw [C1.four d hd]; decide)
   have r1:subA (.lst ((List.range nd).map fun i=>.ref (h0+i))) (.int D) H'=.ok (.ref (h0+d)) H':=(Zg9 (by lia) (by lia) (le_t ‹_› rfl)).trans (by rw [hDn])
   generalize hX:H'.set (h0+d) (.lst (((cs d).set (c / z2%4).toNat ((cs d).getD (c / z2%4).toNat 0+1)).map .int))=H2 at C2 s2
   have o2:H2[oa]?=some (.lst (own.map .int)):=by rw [← hX,Zaf (by lia)]; exact o1
   have hl2:H2.length=H.length:=by rw [← hX,List.length_set]; exact hl
   refine Zow (P:=Th _ _) (by trivial) (by trivial) s1 rfl s2 ?_
   have q2b:=q2 H2
   have s3:=Zfs (v:=1) o2 (i:=c / z2%4) (by exact Int.emod_nonneg _ (by decide)) (by lia) (by lia)
   refine Ze2 (P:=Th _ _) rfl rfl (by trivial) s3 ?_
   refine Zal (P:=Th _ _) (a:=.int (load+1)) (by trivial) ?_
   refine ZaG (hJ _ _ ⟨_,_,load+1,_,C2.frame fun e he=>Zaf (by lia),ZaB ((gsi o2).1),by rw [List.length_set]; exact o4,by lia,by lia,fun n h1 h2=>?_,by rw [List.length_set]; exact hl2,rfl⟩)
   rw [Zaf (Ne.symm h1),← hX,Zaf (by lia)]
   exact fr n h1 h2
  ·refine ZaG (hJ _ _ ⟨cs,own,load,_,C1.mono (fun e he=>by show (if e<d then T+1 else T)≤(if e<d+1 then T+1 else T); split<;>split<;>lia),o1,o4,l0,by lia,fr,hl,rfl⟩)
 ·rintro ρ H' ⟨cs,own,load,a4,C1,o1,o4,l0,l1,fr,hl,rfl⟩
  rw [Zae] at C1 l1
  exact fin H' cs own load a4 (C1.mono fun e he=>by show (if e<_ then T+1 else T)≤T+1; split<;>lia) o1 o4 ⟨l0,by lia⟩ fr hl
end
section
variable {R:Nat→Bool→FT} {k:Nat} {H:AH} {PG:OutS→Prop} {xs:List Int} {sks:List Str} {g f c:Int} {h0 nd pa oa:Nat} {ρ:RE} {r:List DS}
theorem span4':span 0 4=([0,1,2,3]:List Int).map AV.int:=rfl
theorem Zfm {j:Int} (h:j∈([0,1,2,3]:List Int)):0≤j∧j<4:=by
 simp only [List.mem_cons,List.not_mem_nil,or_false] at h
 lia
noncomputable def ownT (c:Int):List Int:=([0,1,2,3]:List Int).map fun j=>c / ([1,2,4,8]:List Int).getD j.toNat 0%2
theorem Zj3 (h8:ρ[8]?=some (some (.int c))) (hn:ρ.length=15):compE false true (binE false .Mod (binE false .FloorDiv (varE 8) (subE (lstE false [(cstE (.int 1)),(cstE (.int 2)),(cstE (.int 4)),(cstE (.int 8))]) (varE 15))) (cstE (.int 2))) (biE false .range [(cstE (.int 4))]) (cstE (.bool true)) ρ H=.ok (.ref H.length) (H++[.lst ((ownT c).map .int)]):=by
 refine ZgT (xs:=span 0 4) (g:=fun a=>match a with | .int j=>.int (c / ([1,2,4,8]:List Int).getD j.toNat 0%2) | a=>a) (e_bi (Zaa rfl) rfl) (Zan (by decide) (by decide)) rfl (by rw [Zae]; decide) (fun v hm=>?_) ?_
 ·refine x1_3 (ZaU hm) fun j j0 j1 e3'=>?_; subst e3'
  have v8:varE 8 (ρ++[some (.int j)]) H=.ok (.int c) H:=Zak h8
  have v15:varE 15 (ρ++[some (.int j)]) H=.ok (.int j) H:=Zag hn
  have hs:=pick4J (H:=H) (a:=1) (b:=2) (c:=4) (d:=8) j0 j1
  have hpos:0<([1,2,4,8]:List Int).getD j.toNat 0∧([1,2,4,8]:List Int).getD j.toNat 0<1073741824:=by
   have hj:j=0∨j=1∨j=2∨j=3:=by lia
   rcases hj with rfl | rfl | rfl | rfl<;>decide
  exact Zay (Zay v8 (by trivial) (Zcq hpos)) rfl (ZdD (by decide))
 ·rw [span4']; rfl
noncomputable def selT (own:List Int) (sks:List Str):List Str:=(([0,1,2,3]:List Int).filter fun j=>decide (own.getD j.toNat 0=1)).map fun j=>sks.getD j.toNat ""
theorem Zko (hk:SksOK sks) {own:List Int} (h1:ρ[1]?=some (some (.lst (sks.map .str)))) (h9:ρ[9]?=some (some (.ref oa))) (ho:H[oa]?=some (.lst (own.map .int))) (ho4:own.length=4) (hn:ρ.length=15):compE false false (subE (varE 1) (varE 15)) (biE false .range [(cstE (.int 4))]) (cmpE (subE (varE 9) (varE 15)) [.Eq] [(cstE (.int 1))]) ρ H=.ok (.lst ((selT own sks).map .str)) H:=by
 refine ZfX (xs:=span 0 4) (p:=fun a=>match a with | .int j=>decide (own.getD j.toNat 0=1) | _=>false) (g:=fun a=>match a with | .int j=>.str (sks.getD j.toNat "") | a=>a) (e_bi (Zaa rfl) rfl) (Zan (by decide) (by decide)) rfl (by rw [Zae]; decide) (fun v hm=>?_) (fun v hm _=>?_) ?_
 ·refine x1_3 (ZaU hm) fun j j0 j1 e3'=>?_; subst e3'
  exact Zai (Zab (Zak h9) (Zag hn) (Zfr ho j0 (by lia) (by lia))) rfl Zfc
 ·refine x1_3 (ZaU hm) fun j j0 j1 e3'=>?_; subst e3'
  exact Zab (Zak h1) (Zag hn) (Zgm hk.len j0 (by lia))
 ·show Out.ok (AV.lst _) H=_
  rw [span4']
  refine (congrArg (fun l=>Out.ok (AV.lst l) H) (ZcE (f:=fun j=>decide (own.getD j.toNat 0=1)) (g:=fun j=>.str (sks.getD j.toNat "")))).trans ?_
  unfold selT
  rw [List.map_map]; rfl
theorem Znx (hk:SksOK sks) {own:List Int}:SkillsOK (selT own sks):=by
 have hb:∀ j∈([0,1,2,3]:List Int).filter (fun j=>decide (own.getD j.toNat 0=1)),0≤j∧j<6:=fun j hj=>by
  have:=Zfm (List.mem_filter.mp hj).1; lia
 refine ⟨fun x hx=>?_,?_,?_⟩
 ·refine x1_2 (qMm hx) fun j hj e2'=>?_; subst e2'
  exact hk.names _ (ZdN hk (hb j hj).1 (hb j hj).2)
 ·exact Zat (fun i hi j hj e=>Zfn hk (hb i hi).1 (hb i hi).2 (hb j hj).1 (hb j hj).2 e) (List.Nodup.sublist List.filter_sublist (by decide))
 ·unfold selT
  rw [qLm]
  exact Nat.le_trans (List.length_filter_le _ _) (by decide)
theorem Znv (p:Pm) (h:p.rests=[]):pv (none,p)=.tup [.str p.name,.lst (p.skills.map .str),.int p.limit,.lst []]:=by
 unfold pv
 simp only [h,List.map_nil]
structure TP (H:AH) (xs:List Int) (pa:Nat) (ps:List Pm):Prop where
 at_:H[pa]?=some (.lst (ps.map fun p=>pv (none,p)))
 name:∀ (i:Nat) p,ps[i]?=some p→p.name=called xs 0 i
 ok:∀ p∈ps,PmOK p
 bare:∀ p∈ps,p.rests=[]
theorem ZlI (C:BookR R) (P':PartsR R) (hx:xs.length≤63) (hk:SksOK sks) (hnd:nd≤3) {np:Nat} (hnp:(2:Int)+f / 8%6=np) {cs0:Nat→List Int} (C0:Cnt H h0 nd cs0 fun _=>0) (hp:H[pa]?=some (.lst [])) (hpa:pa=h0+nd)
  {a4 a7 a8 a9 a10 a11 a12 a13 a14:Option AV}
  (fin:∀ (H':AH) (cs:Nat→List Int) (ps:List Pm) (a4 a7 a8 a9 a10 a11:Option AV),Cnt H' h0 nd cs (fun _=>7)→TP H' xs pa ps→ps.length≤7→Up h0 H H'→PG (seqS r (rT xs sks g f nd h0 pa a4 a7 a8 a9 a10 a11 a12 a13 a14) H')):PG (seqS (forS false (.one 7) (biE false .range [(binE false .Add (cstE (.int 2)) (binE false .Mod (binE false .FloorDiv (varE 3) (cstE (.int 8))) (cstE (.int 6))))]) (ZcV (R (k+4)) false)::r) (rT xs sks g f nd h0 pa a4 a7 a8 a9 a10 a11 a12 a13 a14) H):=by
 have hnp7:np≤7:=by lia
 refine Zbt (a:=.rng 0 np) (H₁:=H) (xs:=span 0 np) (e_bi (Zaa (a:=.int np) (by rw [← hnp]; trivial)) rfl) (Zan (by lia) (by lia)) (by rw [Zae,Int.sub_zero])
  (fun j ρ H'=>Ex8 fun (cs:Nat→List Int) (ps:List Pm) (a4 a7 a8 a9 a10 a11:Option AV)=>A5 (Cnt H' h0 nd cs (fun _=>(j:Int))) (TP H' xs pa ps) (ps.length=j) (Up h0 H H') (ρ=(rT xs sks g f nd h0 pa a4 a7 a8 a9 a10 a11 a12 a13 a14)))
  ⟨cs0,[],a4,a7,a8,a9,a10,a11,C0,⟨hp,(fun _ _ q=>nomatch q),(fun _ q=>nomatch q),(fun _ q=>nomatch q)⟩,rfl,Up.refl,rfl⟩ ?_ ?_
 ·rintro J j v ρ H' hv hI hJ
  obtain ⟨cs,ps,a4,a7,a8,a9,a10,a11,C1,T1,hl,up,rfl⟩:=hI
  have hd:j<np:=by
   have:=(gsi hv).1
   rw [Zae] at this; lia
  have hv:v=.int j:=by
   unfold span at hv
   rw [qGm,List.getElem?_range (by exact Nat.lt_of_lt_of_le ‹_› (Nat.le_add_right _ _))] at hv
   simpa using hv.symm
  obtain ⟨D,hD,rfl⟩:∃ D:Int,D=(j:Int)∧v=.int D:=⟨j,rfl,hv⟩
  have hpl:pa<H'.length:=(gsi T1.at_).1
  refine Zal (a:=.int (cell xs (2+D))) (H₁:=H') (by trivial) ?_
  generalize cell xs (2+D)=c
  refine Zal (Zj3 rfl rfl) ?_
  refine Zal rfl ?_
  refine Zn6 (oa:=H'.length) (T:=(j:Int)) hnd (C1.frame fun d hd=>qGl (by lia)) Zaj rfl (by lia) ?_
  intro H2 cs2 own load a4' C2 o2 o4 hload fr hl2
  have hlen2:H2.length=H'.length+1:=by rw [hl2]; simp
  have hp2:H2[pa]?=some (.lst (ps.map fun p=>pv (none,p))):=by
   rw [fr pa (by lia) (by lia),qGl hpl]; exact T1.at_
  refine Zal (Zko hk rfl rfl o2 o4 rfl) ?_
  have hmax:biA false .max [.int 1,.int load] H2=.ok (.int (if 1<load then load else 1)) H2:=rfl
  have hcal:=Za6 (H:=H2) (k:=k+1) C P' hx (s:=0) (i:=D) (by decide) (by lia)
  have htup:tupE [(callE (R (k+4) false) 36 [(varE 0),(cstE (.int 0)),(varE 7)]),(varE 11),(biE false .max [(cstE (.int 1)),(varE 10)]),(lstE false [])] (rT xs sks g f nd h0 pa a4' (some (.int D)) (some (.int c)) (some (.ref H'.length)) (some (.int load)) (some (.lst ((selT own sks).map .str))) a12 a13 a14) H2=.ok (pv (none,Pm.mk (called xs 0 D) (selT own sks) (if 1<load then load else 1) [])) H2:=by
   rw [Znv _ rfl]
   trivial
  refine ZaA (a:=.none) (H₁:=H2.set pa (.lst ((ps++[Pm.mk (called xs 0 D) (selT own sks) (if 1<load then load else 1) []]).map fun p=>pv (none,p)))) ((Zax rfl hp2 (Zaa htup) hp2 (by simp; lia)).trans (by rw [qMa]; rfl)) ?_
  refine Zam (hJ _ _ ⟨cs2,_,_,_,_,_,_,_,?_,⟨ZaB (by lia),?_,?_,?_⟩,?_,⟨?_,fun n hn=>?_⟩,rfl⟩)
  ·exact ⟨fun d hd=>(Zaf (by lia)).trans (C2.at_ d hd),C2.four,fun d hd x hx=>⟨(C2.lo d hd x hx).1,by have:=(C2.lo d hd x hx).2; lia⟩⟩
  ·intro i p hi
   by_cases q:i<ps.length
   ·rw [qGl q] at hi
    exact T1.name i p hi
   ·rw [List.getElem?_append_right (by lia)] at hi
    have:i-ps.length=0:=Nat.lt_one_iff.mp (gsi hi).1
    rw [this] at hi
    cases hi
    show called xs 0 D=called xs 0 i
    rw [hD,show i=j from (sub0 q this).trans ‹ps.length=j›]
  ·intro p hp
   rcases qMp hp with hp | hp
   ·exact T1.ok p hp
   ·cases qMs hp
    refine ⟨Zbw (hD▸Int.natCast_nonneg _),Znx hk,?_,(fun _ q=>nomatch q),by simp⟩
    show 1≤(if 1<load then load else 1)∧(if 1<load then load else 1)≤31
    split<;>lia
  ·intro p hp
   rcases qMp hp with hp | hp
   ·exact T1.bare p hp
   ·cases qMs hp; rfl
  ·simp [hl]
  ·rw [List.length_set,hlen2]; exact Nat.le_succ_of_le up.1
  ·rw [Zaf (by lia),fr n (by lia) (by lia),qGl (by lia)]
   exact up.2 n hn
 ·rintro ρ H' ⟨cs,ps,a4,a7,a8,a9,a10,a11,C1,T1,hl,up,rfl⟩
  rw [Zae] at C1 hl
  exact fin H' cs ps a4 a7 a8 a9 a10 a11 (C1.mono fun d _=>by show (_:Int)≤7; lia) T1 (by lia) up
end
section
variable {R:Nat→Bool→FT} {k:Nat} {H:AH} {PG:OutS→Prop} {xs:List Int} {sks:List Str} {g f c:Int} {h0 nd pa sa:Nat} {ρ:RE} {r:List DS}
noncomputable def trn (c d:Int):List Int:=([0,1,2,3]:List Int).map fun j=>(j+c / (1+d))%4
theorem Zmc (C:BookR R) (hx:xs.length≤63) {d:Int} (hd:0≤d∧d<3) (h0:ρ[0]?=some (some (.lst (xs.map .int)))) (h4:ρ[4]?=some (some (.int d))) (hn:ρ.length=15):compE false false (binE false .Mod (binE false .Add (varE 15) (binE false .FloorDiv (callE (R (k+4) false) 8 [(varE 0),(cstE (.int 21))]) (binE false .Add (cstE (.int 1)) (varE 4)))) (cstE (.int 4))) (biE false .range [(cstE (.int 4))]) (cstE (.bool true)) ρ H=.ok (.lst ((trn (cell xs 21) d).map .int)) H:=by
 refine ZgT (xs:=span 0 4) (g:=fun a=>match a with | .int j=>.int ((j+cell xs 21 / (1+d))%4) | a=>a) (e_bi (Zaa rfl) rfl) (Zan (by decide) (by decide)) rfl (by rw [Zae]; decide) (fun v hm=>?_) ?_
 ·refine x1_3 (ZaU hm) fun j j0 j1 e3'=>?_; subst e3'
  have v0:varE 0 (ρ++[some (.int j)]) H=.ok (.lst (xs.map .int)) H:=Zak h0
  have v4:varE 4 (ρ++[some (.int j)]) H=.ok (.int d) H:=Zak h4
  have v15:varE 15 (ρ++[some (.int j)]) H=.ok (.int j) H:=Zag hn
  trivial
 ·rw [span4']; rfl
theorem ZnV {c d j:Int} (h:j∈trn c d):0≤j∧j<4:=by
 unfold trn at h
 refine x1_2 (qMm h) fun i _ e2'=>?_; subst e2'
 exact md rfl
theorem ZkT (c d:Int):(trn c d).Nodup:=by
 unfold trn
 refine Zat (fun a ha b hb e=>?_) (by decide)
 have:=Zfm ha
 have:=Zfm hb
 lia -abstractProof
noncomputable def nedT (tr:List Int) (cs:List Int) (sks:List Str):List (Str×Int):=(tr.filter fun j=>decide (0<cs.getD j.toNat 0)).map fun j=>(sks.getD j.toNat "", cs.getD j.toNat 0)
theorem Zj1 (hk:SksOK sks) {tr cd:List Int} {d:Nat} {D:Int} (hD:D=d) (hd:d<nd) (hnd:nd≤3) (ht:∀ j∈tr,0≤j∧j<4) (htl:tr.length≤4) (hc:H[h0+d]?=some (.lst (cd.map .int))) (hc4:cd.length=4)
  (h1:ρ[1]?=some (some (.lst (sks.map .str)))) (h4:ρ[4]?=some (some (.int D))) (h5:ρ[5]?=some (some (.lst ((List.range nd).map fun i=>.ref (h0+i))))) (h13:ρ[13]?=some (some (.lst (tr.map .int)))) (hn:ρ.length=15):compE false false (tupE [(subE (varE 1) (varE 15)),(subE (subE (varE 5) (varE 4)) (varE 15))]) (varE 13) (cmpE (subE (subE (varE 5) (varE 4)) (varE 15)) [.Gt] [(cstE (.int 0))]) ρ H=.ok (.lst ((nedT tr cd sks).map needAV)) H:=by
 have r1:subA (.lst ((List.range nd).map fun i=>.ref (h0+i))) (.int D) H=.ok (.ref (h0+d)) H:=(Zg9 (by lia) (by lia) (le_t ‹_› rfl)).trans (by rw [show D.toNat=d by lia])
 have cnt:∀ j:Int,0≤j∧j<4→(subE (subE (varE 5) (varE 4)) (varE 15)) (ρ++[some (.int j)]) H=.ok (.int (cd.getD j.toNat 0)) H:=fun j hj=>Zab (Zab (Zak h5) (Zak h4) r1) (Zag hn) (Zfr hc hj.1 (by lia) (by lia))
 refine ZfX (xs:=tr.map .int) (p:=fun a=>match a with | .int j=>decide (0<cd.getD j.toNat 0) | _=>false) (g:=fun a=>match a with | .int j=>needAV (sks.getD j.toNat "", cd.getD j.toNat 0) | a=>a) (ZeJ h13) rfl rfl (by rw [qLm]; exact le_t ‹_› rfl) (fun v hm=>?_) (fun v hm _=>?_) ?_
 ·refine x1_2 (qMm hm) fun j hj e2'=>?_; subst e2'
  exact Zai (cnt j (ht j hj)) rfl Zi1
 ·refine x1_2 (qMm hm) fun j hj e2'=>?_; subst e2'
  have:=ht j hj
  exact ZcC (ZaI (Zab (Zak h1) (Zag hn) (Zgm hk.len this.1 (by lia))) (cnt j (ht j hj))) (by simp)
 ·show Out.ok (AV.lst _) H=_
  refine (congrArg (fun l=>Out.ok (AV.lst l) H) (ZcE (f:=fun j=>decide (0<cd.getD j.toNat 0)) (g:=fun j=>needAV (sks.getD j.toNat "", cd.getD j.toNat 0)))).trans ?_
  unfold nedT
  rw [List.map_map]; rfl
theorem Znk (hk:SksOK sks) {tr cd:List Int} (ht:∀ j∈tr,0≤j∧j<4) (htl:tr.length≤4) (hnd:tr.Nodup) (hc4:cd.length=4) (hc:∀ x∈cd,0≤x∧x≤8):NeedsOK (nedT tr cd sks)∧(nedT tr cd sks).length≤6:=by
 have hb:∀ j∈tr.filter (fun j=>decide (0<cd.getD j.toNat 0)),(0≤j∧j<6)∧1≤cd.getD j.toNat 0∧cd.getD j.toNat 0≤9:=fun j hj=>by
  obtain ⟨h1,h2⟩:=List.mem_filter.mp hj
  have a:=ht j h1
  have h2:0<cd.getD j.toNat 0:=by simpa using h2
  have hg:cd.getD j.toNat 0∈cd:=by
   rw [List.getD_eq_getElem?_getD,qGg (by lia)]
   exact List.getElem_mem _
  have:=hc _ hg
  exact ⟨⟨a.1,Int.lt_trans a.2 (by decide)⟩,h2,Int.le_trans this.2 (by decide)⟩
 have hl:(nedT tr cd sks).length≤4:=by
  unfold nedT
  rw [qLm]
  exact Nat.le_trans (List.length_filter_le _ _) htl
 refine ⟨⟨fun n hn=>?_,?_,fun n hn=>?_,le_t ‹_› rfl⟩,le_t ‹_› rfl⟩
 ·refine x1_2 (qMm hn) fun j hj e2'=>?_; subst e2'
  exact hk.names _ (ZdN hk (hb j hj).1.1 (hb j hj).1.2)
 ·unfold nedT
  rw [List.map_map]
  exact Zat (fun i hi j hj e=>Zfn hk (hb i hi).1.1 (hb i hi).1.2 (hb j hj).1.1 (hb j hj).1.2 e) (List.Nodup.sublist List.filter_sublist hnd)
 ·refine x1_2 (qMm hn) fun j hj e2'=>?_; subst e2'
  exact (hb j hj).2
structure TS (H:AH) (xs:List Int) (sa:Nat) (ss:List Sm):Prop where
 at_:H[sa]?=some (.lst (ss.map SV))
 name:∀ (i:Nat) s,ss[i]?=some s→s.name=called xs 1 i
 ok:∀ s∈ss,SmOK s
 few:∀ s∈ss,s.needs.length≤6
theorem ZlX (C:BookR R) (P':PartsR R) (hx:xs.length≤63) (hk:SksOK sks) (hg:1≤g∧g≤40) (hnd:nd≤3) {cs:Nat→List Int} (C0:Cnt H h0 nd cs fun _=>8) (hp:H[sa]?=some (.lst [])) (hsa:h0+nd≤sa)
  {a4 a7 a8 a9 a10 a11 a13 a14:Option AV}
  (fin:∀ (H':AH) (ss:List Sm) (a4 a13 a14:Option AV),TS H' xs sa ss→ss.length=nd→(∀ n,n≠sa→H'[n]?=H[n]?)→H'.length=H.length→PG (seqS r (rT xs sks g f nd h0 pa a4 a7 a8 a9 a10 a11 (some (.ref sa)) a13 a14) H')):PG (seqS (forS false (.one 4) (biE false .range [(biE false .len [(varE 5)])]) (ZcU (R (k+4)) false)::r) (rT xs sks g f nd h0 pa a4 a7 a8 a9 a10 a11 (some (.ref sa)) a13 a14) H):=by
 refine Zbt (a:=.rng 0 nd) (H₁:=H) (xs:=span 0 nd) (e_bi (Zaa (e_bi (Zaa rfl) (ZiW (by exact Nat.le_of_lt (lt_t ‹_› rfl))))) rfl) (Zan (by lia) (by lia)) (by rw [Zae,Int.sub_zero])
  (fun j ρ H'=>Ex4 fun (ss:List Sm) (a4 a13 a14:Option AV)=>A5 (TS H' xs sa ss) (ss.length=j) ((∀ n,n≠sa→H'[n]?=H[n]?)) (H'.length=H.length) (ρ=(rT xs sks g f nd h0 pa a4 a7 a8 a9 a10 a11 (some (.ref sa)) a13 a14)))
  ⟨[],a4,a13,a14,⟨hp,(fun _ _ q=>nomatch q),(fun _ q=>nomatch q),(fun _ q=>nomatch q)⟩,rfl,fun _ _=>rfl,rfl,rfl⟩ ?_ ?_
 ·rintro J j v ρ H' hv hI hJ
  obtain ⟨ss,a4,a13,a14,T1,hl,fr,hlen,rfl⟩:=hI
  have hd:j<nd:=by
   have:=(gsi hv).1
   rw [Zae] at this; lia
  have hv:v=.int j:=by
   unfold span at hv
   rw [qGm,List.getElem?_range (by exact Nat.lt_of_lt_of_le ‹_› (Nat.le_add_right _ _))] at hv
   simpa using hv.symm
  obtain ⟨D,hD,rfl⟩:∃ D:Int,D=(j:Int)∧v=.int D:=⟨j,rfl,hv⟩
  have hc:H'[h0+j]?=some (.lst ((cs j).map .int)):=(fr _ (by lia)).trans (C0.at_ j hd)
  refine Zal (Zmc C hx (by lia) rfl rfl rfl) ?_
  have ht:∀ i∈trn (cell xs 21) D,0≤i∧i<4:=fun i hi=>ZnV hi
  have htl:(trn (cell xs 21) D).length≤4:=by unfold trn; simp
  have htn:=ZkT (cell xs 21) D
  generalize trn (cell xs 21) D=tr at ht htl htn
  refine Zal (Zj1 hk hD hd hnd ht htl hc (C0.four j hd) rfl rfl rfl rfl rfl) ?_
  obtain ⟨hn1,hn2⟩:=Znk hk ht htl htn (C0.four j hd) (C0.lo j hd)
  generalize nedT tr (cs j) sks=ns at hn1 hn2
  have hcal:=Za6 (H:=H') (k:=k+1) C P' hx (s:=1) (i:=D) (by decide) (by lia)
  have m1:binA false .Mult (.int (24*g)) (.int D) H'=.ok (.int (24*g*D)) H':=mulI (.inl (by lia))
  have htup:tupE [(callE (R (k+4) false) 36 [(varE 0),(cstE (.int 1)),(varE 4)]),(tupE [(binE false .Add (binE false .Mult (binE false .Mult (cstE (.int 24)) (varE 2)) (varE 4)) (cstE (.int 5))),(binE false .Add (binE false .Mult (binE false .Mult (cstE (.int 24)) (varE 2)) (varE 4)) (cstE (.int 13)))]),(varE 14)] (rT xs sks g f nd h0 pa (some (.int D)) a7 a8 a9 a10 a11 (some (.ref sa)) (some (.lst (tr.map .int))) (some (.lst (ns.map needAV)))) H'=.ok (SV (Sm.mk (called xs 1 D) (24*g*D+5,24*g*D+13) ns)) H':=by
   unfold SV stAV
   trivial
  refine ZaA (a:=.none) (H₁:=H'.set sa (.lst ((ss++[Sm.mk (called xs 1 D) (24*g*D+5,24*g*D+13) ns]).map SV))) ((Zax rfl T1.at_ (Zaa htup) T1.at_ (by simp; lia)).trans (by rw [qMa]; rfl)) ?_
  refine Zam (hJ _ _ ⟨_,_,_,_,⟨ZaB ((gsi T1.at_).1),?_,?_,?_⟩,?_,fun n hn=>?_,by rw [List.length_set]; exact hlen,rfl⟩)
  ·intro i p hi
   by_cases q:i<ss.length
   ·rw [qGl q] at hi
    exact T1.name i p hi
   ·rw [List.getElem?_append_right (Nat.not_lt.mp ‹_›)] at hi
    have:i-ss.length=0:=Nat.lt_one_iff.mp (gsi hi).1
    rw [this] at hi
    cases hi
    show called xs 1 D=called xs 1 i
    rw [hD,show i=j from (sub0 q this).trans ‹ss.length=j›]
  ·intro p hp
   rcases qMp hp with hp | hp
   ·exact T1.ok p hp
   ·cases qMs hp
    have hj:j=0∨j=1∨j=2:=by lia
    refine ⟨Zbw (hD▸Int.natCast_nonneg _),?_,?_,hn1⟩
    ·unfold stOK
     simp only [qBt,decide_eq_true_eq]
     rcases hj with rfl | rfl | rfl<;>subst hD<;>simp<;>lia
    ·unfold dayOK
     simp only [decide_eq_true_eq]
     rcases hj with rfl | rfl | rfl<;>subst hD<;>simp<;>lia
  ·intro p hp
   rcases qMp hp with hp | hp
   ·exact T1.few p hp
   ·cases qMs hp; exact hn2
  ·simp [hl]
  ·rw [Zaf (Ne.symm hn)]
   exact fr n hn
 ·rintro ρ H' ⟨ss,a4,a13,a14,T1,hl,fr,hlen,rfl⟩
  rw [Zae] at hl
  exact fin H' ss a4 a13 a14 T1 (by lia) fr hlen
end
section
variable {R:Nat→Bool→FT} {k:Nat} {H:AH} {PG:OutS→Prop} {xs:List Int} {sks:List Str} {g f c:Int}
structure Made (H H':AH) (a b:Nat) (qs:List (Option Nat×Pm)) (ss:List Sm):Prop where
 up:Up H.length H H'
 la:H.length≤a
 lb:H.length≤b
 pa:H'[a]?=some (.lst (qs.map pv))
 sa:H'[b]?=some (.lst (ss.map SV))
 rs:∀ q∈qs,∀ r,q.1=some r→H.length≤r∧H'[r]?=some (.lst (q.2.rests.map stAV))
 pok:∀ q∈qs,PmOK q.2
 sok:∀ s∈ss,SmOK s
 pn:(qs.map (·.2.name)).Nodup
 sn:(ss.map (·.name)).Nodup
 pl:qs.length≤36
 sl:ss.length≤13
 few:∀ s∈ss,s.needs.length≤6
 tot:(ss.map fun s=>s.needs.length).sum≤60
theorem Zhk {l:List Sm} {c:Nat} (h:∀ s∈l,s.needs.length≤c):(l.map fun s=>s.needs.length).sum≤l.length*c:=by
 induction l with
 | nil=>exact Nat.zero_le _
 | cons s r ih=>rw [List.map_cons,List.sum_cons,List.length_cons,Nat.succ_mul,Nat.add_comm]; exact Nat.add_le_add (ih fun x hx=>h x (.tail _ hx)) (h s (.head _))
theorem ZbG {α:Type} {l:List α} {f:α→Str} {s:Int} (h:∀ (i:Nat) p,l[i]?=some p→f p=called xs s i) (hl:l.length≤36):(l.map f).Nodup:=by
 rw [List.Nodup,List.pairwise_iff_getElem]
 intro i j hi hj hij e
 rw [qLm] at hi hj
 rw [List.getElem_map,List.getElem_map,h i _ (qGg hi),h j _ (qGg hj)] at e
 have:=Zcb (by lia) (by lia) e
 lia
theorem ZnU (C:BookR R) (P':PartsR R) (hx:xs.length≤63) (hk:SksOK sks) (hg:1≤g∧g≤40) (fin:∀ H' a b qs ss,Made H H' a b qs ss→PG (.ret (.tup [.ref a,.ref b]) H')) :
  PG (Zdr (R (k+4)) false (rho0 [.lst (xs.map .int),.lst (sks.map .str),.int g] 15) H):=by
 refine Zal (a:=.int (cell xs 0)) (H₁:=H) (by trivial) ?_
 generalize cell xs 0=f
 obtain ⟨nd,hnd⟩:∃ nd:Nat,1+f / 64%3=(nd:Int):=⟨(1+f / 64%3).toNat,(Int.toNat_of_nonneg (Int.add_nonneg (by decide) (md rfl).1)).symm⟩
 have hnd3:1≤nd∧nd≤3:=by lia
 obtain ⟨np,hnp⟩:∃ np:Nat,(2:Int)+f / 8%6=(np:Int):=⟨(2+f / 8%6).toNat,(Int.toNat_of_nonneg (Int.add_nonneg (by decide) (md rfl).1)).symm⟩
 refine Zal (a:=.lst ((List.range nd).map fun i=>.ref (H.length+i))) (H₁:=H++List.replicate nd (AO.lst [.int 0,.int 0,.int 0,.int 0])) (Zoc (n:=nd) (xs:=span 0 nd) (e_bi (Zaa (a:=.int nd) (by rw [← hnd]; trivial)) rfl) (Zan (Int.natCast_nonneg _) (by lia)) (by rw [Zae,Int.sub_zero]; rfl) (by rw [Zae]; lia) fun v _ H=>by trivial) ?_
 have l1:(H++List.replicate nd (AO.lst [.int 0,.int 0,.int 0,.int 0])).length=H.length+nd:=by simp
 have g1:∀ d<nd,((H++List.replicate nd (AO.lst [.int 0,.int 0,.int 0,.int 0]))++[AO.lst []])[H.length+d]?=some (.lst (([0,0,0,0]:List Int).map .int)):=fun d hd=>by
  rw [qGl (by lia),List.getElem?_append_right (Nat.le_add_right _ _),Nat.add_sub_cancel_left,List.getElem?_replicate,if_pos hd]; rfl
 have u1:Up H.length H ((H++List.replicate nd (AO.lst [.int 0,.int 0,.int 0,.int 0]))++[AO.lst []]):=by
  rw [qAa]; exact Up.app
 have p1:((H++List.replicate nd (AO.lst [.int 0,.int 0,.int 0,.int 0]))++[AO.lst []])[H.length+nd]?=some (.lst []):=by
  rw [← l1]; exact Zaj
 refine Zal (a:=.ref (H.length+nd)) (H₁:=(H++List.replicate nd (AO.lst [.int 0,.int 0,.int 0,.int 0]))++[AO.lst []]) (by rw [← l1]; trivial) ?_
 generalize ((H++List.replicate nd (AO.lst [.int 0,.int 0,.int 0,.int 0]))++[AO.lst []])=H1 at g1 u1 p1
 refine ZlI (h0:=H.length) (nd:=nd) (pa:=H.length+nd) (cs0:=fun _=>[0,0,0,0]) C P' hx hk hnd3.2 hnp ⟨g1,fun _ _=>rfl,fun _ _ x hx=>by simp at hx; subst hx; decide⟩ p1 rfl ?_
 intro H2 cs ps a4 a7 a8 a9 a10 a11 C2 T2 hps u2
 have h00:0<nd:=by lia
 have r1:subA (.lst ((List.range nd).map fun i=>.ref (H.length+i))) (.int 0) H2=.ok (.ref (H.length+0)) H2:=Zg9 (by decide) (by lia) (by lia)
 have s1:subA (.ref (H.length+0)) (.int (cell xs 20%4)) H2=.ok (.int ((cs 0).getD (cell xs 20%4).toNat 0)) H2:=Zfr (C2.at_ 0 h00) (md rfl).1 (by rw [C2.four 0 h00]; exact (md rfl).2) (by rw [C2.four 0 h00]; decide)
 have s2:=Zfs (v:=(cs 0).getD (cell xs 20%4).toNat 0+(if decide (cell xs 20 / 4%4=0) then 1 else 0)) (C2.at_ 0 h00) (i:=cell xs 20%4) (md rfl).1 (by rw [C2.four 0 h00]; exact (md rfl).2) (by rw [C2.four 0 h00]; decide)
 have C3:=C2.bump (d:=0) h00 (i:=cell xs 20%4) (y:=if decide (cell xs 20 / 4%4=0) then 1 else 0) (md rfl) (by split<;>decide) (top':=fun _=>8) (by show (7:Int)+1≤8; decide) (fun _ _=>by show (7:Int)≤8; decide)
 refine Zow (by trivial) (by trivial) s1 (by trivial) s2 ?_
 generalize hX:H2.set (H.length+0) (.lst (((cs 0).set (cell xs 20%4).toNat ((cs 0).getD (cell xs 20%4).toNat 0+(if decide (cell xs 20 / 4%4=0) then 1 else 0))).map .int))=H3 at C3
 have T3:TP H3 xs (H.length+nd) ps:=⟨by rw [← hX,Zaf (by lia)]; exact T2.at_,T2.name,T2.ok,T2.bare⟩
 have u3:Up H.length H H3:=(u1.trans u2).trans (by
  rw [← hX]
  exact ⟨by simp,fun n hn=>Zaf (by lia)⟩)
 generalize (fun e=>if e=0 then (cs 0).set (cell xs 20%4).toNat ((cs 0).getD (cell xs 20%4).toNat 0+(if decide (cell xs 20 / 4%4=0) then 1 else 0)) else cs e)=cs3 at C3
 clear hX s1 s2 r1 C2 T2 u2 g1 p1 u1
 refine Zal (a:=.ref H3.length) (H₁:=H3++[AO.lst []]) (by trivial) ?_
 have hp3:H.length+nd<H3.length:=(gsi T3.at_).1
 refine ZlX (h0:=H.length) (nd:=nd) (pa:=H.length+nd) (sa:=H3.length) (cs:=cs3) C P' hx hk hg hnd3.2 (C3.frame fun d hd=>qGl (by lia)) Zaj (Nat.le_of_lt ‹_›) ?_
 intro H4 ss a4 a13 a14 T4 hss fr hl
 refine ZaZ (a:=.tup [.ref (H.length+nd),.ref H3.length]) (H₁:=H4) (by trivial) (fin H4 _ _ (ps.map fun p=>(none,p)) ss ⟨⟨?_,fun n hn=>?_⟩,Nat.le_add_right _ _,by lia,?_,T4.at_,?_,?_,T4.ok,?_,ZbG T4.name (by lia),?_,by lia,T4.few,Nat.le_trans (Zhk T4.few) (by lia)⟩)
 ·rw [hl,qLa]; exact Nat.le_trans u3.1 (Nat.le_add_right _ _)
 ·rw [fr n (by lia),qGl (by lia)]
  exact u3.2 n hn
 ·rw [fr _ (Nat.ne_of_lt ‹_›),qGl (by assumption),List.map_map]
  exact T3.at_
 ·intro q hq r e
  refine x1_2 (qMm hq) fun p _ e2'=>?_; subst e2'
  cases e
 ·intro q hq
  refine x1_2 (qMm hq) fun p hp e2'=>?_; subst e2'
  exact T3.ok p hp
 ·rw [List.map_map]
  exact ZbG (s:=0) T3.name (le_t ‹_› rfl)
 ·rw [qLm]; exact le_t ‹_› rfl
end
section
variable {R:Nat→Bool→FT} {k:Nat} {H:AH} {PG:OutS→Prop} {xs:List Int} {sks:List Str} {g f c many:Int} {pa sa:Nat} {r:List DS}
theorem Zhf {α:Type} {P:Nat→α→Prop} {l:List α} {x:α} (h:∀ (i:Nat) p,l[i]?=some p→P i p) (hx:P l.length x):∀ (i:Nat) p,(l++[x])[i]?=some p→P i p:=by
 intro i p hi
 by_cases q:i<l.length
 ·rw [qGl q] at hi
  exact h i p hi
 ·rw [List.getElem?_append_right (Nat.not_lt.mp ‹_›)] at hi
  have e:i=l.length:=by
   have:=(gsi hi).1
   exact sub0 q (Nat.lt_one_iff.mp this)
  subst e
  rw [Nat.sub_self] at hi
  cases hi
  exact hx
theorem Zbl {n j:Nat} {v:AV} (hv:(span 0 n)[j]?=some v):j<n∧∃ D:Int,D=(j:Int)∧v=.int D:=by
 have hd:j<n:=by
  have:=(gsi hv).1
  rw [Zae] at this; lia -abstractProof
 refine ⟨hd,j,rfl,?_⟩
 unfold span at hv
 rw [qGm,List.getElem?_range (by exact Nat.lt_of_lt_of_le ‹_› (Nat.le_add_right _ _))] at hv
 simpa using hv.symm
structure QP (H:AH) (xs:List Int) (pa:Nat) (qs:List (Option Nat×Pm)):Prop where
 at_:H[pa]?=some (.lst (qs.map pv))
 name:∀ (i:Nat) q,qs[i]?=some q→q.2.name=called xs 0 i
 ok:∀ q∈qs,PmOK q.2
 rs:∀ q∈qs,∃ r,q.1=some r∧pa<r∧H[r]?=some (.lst (q.2.rests.map stAV))
theorem Zo3 (C:BookR R) (P':PartsR R) (hx:xs.length≤63) (hk:SksOK sks) (hg:1≤g∧g≤40) {m:Nat} (hm:many+(if decide (f / 64%16=3) then 20 else 0)=m) (hm36:m≤36) (hp:H[pa]?=some (.lst []))
  {a6 a7 a8 a9:Option AV} (fin:∀ (H':AH) (qs:List (Option Nat×Pm)) (a6 a7:Option AV),QP H' xs pa qs→qs.length≤36→Up pa H H'→PG (seqS r [some (.lst (xs.map .int)),some (.int f),some (.int g),some (.lst (sks.map .str)),some (.int many),some (.ref pa),a6,a7,a8,a9] H')):PG (seqS (forS false (.one 6) (biE false .range [(binE false .Add (varE 4) (subE (lstE false [(cstE (.int 0)),(cstE (.int 20))]) (biE false .int [(cmpE (binE false .Mod (binE false .FloorDiv (varE 1) (cstE (.int 64))) (cstE (.int 16))) [.Eq] [(cstE (.int 3))])])))]) (ZcT (R (k+5)) false)::r) [some (.lst (xs.map .int)),some (.int f),some (.int g),some (.lst (sks.map .str)),some (.int many),some (.ref pa),a6,a7,a8,a9] H):=by
 refine Zbt (a:=.rng 0 m) (H₁:=H) (xs:=span 0 m) (e_bi (Zaa (a:=.int m) (by rw [← hm]; trivial)) rfl) (Zan (by lia) (by lia)) (by rw [Zae,Int.sub_zero])
  (fun j ρ H'=>Ex3 fun (qs:List (Option Nat×Pm)) (a6 a7:Option AV)=>A4 (QP H' xs pa qs) (qs.length=j) (Up pa H H') (ρ=[some (.lst (xs.map .int)),some (.int f),some (.int g),some (.lst (sks.map .str)),some (.int many),some (.ref pa),a6,a7,a8,a9]))
  ⟨[],a6,a7,⟨hp,(fun _ _ q=>nomatch q),(fun _ q=>nomatch q),(fun _ q=>nomatch q)⟩,rfl,Up.refl,rfl⟩ ?_ ?_
 ·rintro J j v ρ H' hv hI hJ
  obtain ⟨qs,a6,a7,T1,hl,up,rfl⟩:=hI
  obtain ⟨hd,D,hD,rfl⟩:=Zbl hv
  have hpl:pa<H'.length:=(gsi T1.at_).1
  refine Zal (a:=.int (cell xs (2+D%16)+5*(D / 16))) (H₁:=H') (by trivial) ?_
  generalize cell xs (2+D%16)+5*(D / 16)=c
  have hcal:=Za6 (H:=H') (k:=k+2) C P' hx (s:=0) (i:=D) (by decide) (by lia)
  refine x1_3 (Ziz (H:=H') (k:=k+1) (c:=c) (name:=called xs 0 D) C P' hk hg (Zbw (hD▸Int.natCast_nonneg _))) fun p hpn hpo hpr=>?_
  have hp2:(H'++[AO.lst (p.rests.map stAV)])[pa]?=some (.lst (qs.map pv)):=by rw [qGl hpl]; exact T1.at_
  refine ZaA (a:=.none) (H₁:=(H'++[AO.lst (p.rests.map stAV)]).set pa (.lst ((qs++[(some H'.length,p)]).map pv))) ((Zax rfl T1.at_ (Zaa (Zac (by trivial) hpr)) hp2 (by simp; lia)).trans (by rw [qMa]; rfl)) ?_
  refine Zam (hJ _ _ ⟨_,_,_,⟨ZaB (by simp; exact Nat.lt_succ_of_lt ‹_›),Zhf T1.name (by rw [hl,← hD]; exact hpn),fun q hq=>?_,fun q hq=>?_⟩,by simp [hl],⟨?_,fun n hn=>?_⟩,rfl⟩)
  ·rcases qMp hq with hq | hq
   ·exact T1.ok q hq
   ·cases qMs hq; exact hpo
  ·rcases qMp hq with hq | hq
   ·refine x1_3 (T1.rs q hq) fun r e1 e2 e3=>?_
    exact ⟨r,e1,e2,by rw [Zaf (Nat.ne_of_lt ‹_›),qGl (gsi e3).1]; exact e3⟩
   ·cases qMs hq
    exact ⟨_,rfl,hpl,by rw [Zaf (Nat.ne_of_lt ‹_›)]; exact Zaj⟩
  ·rw [List.length_set,qLa]; exact Nat.le_trans up.1 (Nat.le_add_right _ _)
  ·rw [Zaf (Nat.ne_of_gt ‹_›),qGl (Nat.lt_trans ‹_› ‹_›)]
   exact up.2 n hn
 ·rintro ρ H' ⟨qs,a6,a7,T1,hl,up,rfl⟩
  rw [Zae] at hl
  exact fin H' qs a6 a7 T1 (by lia) up
theorem Zo6 (C:BookR R) (P':PartsR R) (hx:xs.length≤63) (hk:SksOK sks) (hg:1≤g∧g≤40) (hp:H[sa]?=some (.lst [])) {a6 a7 a9:Option AV}
  (fin:∀ (H':AH) (ss:List Sm) (a6:Option AV),TS H' xs sa ss→ss.length≤4→(∀ n,n≠sa→H'[n]?=H[n]?)→H'.length=H.length→PG (seqS r [some (.lst (xs.map .int)),some (.int f),some (.int g),some (.lst (sks.map .str)),some (.int many),some (.ref pa),a6,a7,some (.ref sa),a9] H')):PG (seqS (forS false (.one 6) (biE false .range [(binE false .Mod (binE false .FloorDiv (varE 1) (cstE (.int 1024))) (cstE (.int 5)))]) (ZcS (R (k+5)) false)::r) [some (.lst (xs.map .int)),some (.int f),some (.int g),some (.lst (sks.map .str)),some (.int many),some (.ref pa),a6,a7,some (.ref sa),a9] H):=by
 obtain ⟨m,hm⟩:∃ m:Nat,f / 1024%5=(m:Int):=⟨(f / 1024%5).toNat,mdn rfl⟩
 refine Zbt (a:=.rng 0 m) (H₁:=H) (xs:=span 0 m) (e_bi (Zaa (a:=.int m) (by rw [← hm]; trivial)) rfl) (Zan (Int.natCast_nonneg _) (by lia)) (by rw [Zae,Int.sub_zero])
  (fun j ρ H'=>Ex2 fun (ss:List Sm) (a6:Option AV)=>A5 (TS H' xs sa ss) (ss.length=j) ((∀ n,n≠sa→H'[n]?=H[n]?)) (H'.length=H.length) (ρ=[some (.lst (xs.map .int)),some (.int f),some (.int g),some (.lst (sks.map .str)),some (.int many),some (.ref pa),a6,a7,some (.ref sa),a9]))
  ⟨[],a6,⟨hp,(fun _ _ q=>nomatch q),(fun _ q=>nomatch q),(fun _ q=>nomatch q)⟩,rfl,fun _ _=>rfl,rfl,rfl⟩ ?_ ?_
 ·rintro J j v ρ H' hv hI hJ
  obtain ⟨ss,a6,T1,hl,fr,hlen,rfl⟩:=hI
  obtain ⟨hd,D,hD,rfl⟩:=Zbl hv
  have hcal:=Za6 (H:=H') (k:=k+2) C P' hx (s:=1) (i:=D) (by decide) (by lia)
  refine x1_4 (Zkv (H:=H') (k:=k+1) (c:=cell xs (20+D)) (name:=called xs 1 D) C P' hk hg (Zbw (hD▸Int.natCast_nonneg _))) fun s hsn hso hsf hsr=>?_
  refine ZaA (a:=.none) (H₁:=H'.set sa (.lst ((ss++[s]).map SV))) ((Zax rfl T1.at_ (Zaa (Zac (by trivial) hsr)) T1.at_ (by simp; lia)).trans (by rw [qMa]; rfl)) ?_
  refine Zam (hJ _ _ ⟨_,_,⟨ZaB ((gsi T1.at_).1),Zhf T1.name (by rw [hl,← hD]; exact hsn),fun q hq=>?_,fun q hq=>?_⟩,by simp [hl],fun n hn=>?_,by rw [List.length_set]; exact hlen,rfl⟩)
  ·rcases qMp hq with hq | hq
   ·exact T1.ok q hq
   ·cases qMs hq; exact hso
  ·rcases qMp hq with hq | hq
   ·exact T1.few q hq
   ·cases qMs hq; exact hsf
  ·rw [Zaf (Ne.symm hn)]
   exact fr n hn
 ·rintro ρ H' ⟨ss,a6,T1,hl,fr,hlen,rfl⟩
  rw [Zae] at hl
  exact fin H' ss a6 T1 (by lia) fr hlen
theorem pick39 (i:Int):∃ m:Nat,m≤9∧∀ H,subA (.lst [.int 0,.int 0,.int 0,.int 0,.int 0,.int 0,.int 3,.int 9]) (.int (i%8)) H=.ok (.int m) H:=by
 have h:i%8=0∨i%8=1∨i%8=2∨i%8=3∨i%8=4∨i%8=5∨i%8=6∨i%8=7:=by lia
 rcases h with h | h | h | h | h | h | h | h<;>rw [h]
 ·exact ⟨0,by decide,fun _=>rfl⟩
 ·exact ⟨0,by decide,fun _=>rfl⟩
 ·exact ⟨0,by decide,fun _=>rfl⟩
 ·exact ⟨0,by decide,fun _=>rfl⟩
 ·exact ⟨0,by decide,fun _=>rfl⟩
 ·exact ⟨0,by decide,fun _=>rfl⟩
 ·exact ⟨3,by decide,fun _=>rfl⟩
 ·exact ⟨9,by decide,fun _=>rfl⟩
theorem Zo7 (C:BookR R) (P':PartsR R) (hx:xs.length≤63) (hk:SksOK sks) (hg:1≤g∧g≤40) {s1:List Sm} (hs1:s1.length≤4) (hp:H[sa]?=some (.lst (s1.map SV))) {a6 a7 a9:Option AV}
  (fin:∀ (H':AH) (ss:List Sm) (a6 a9:Option AV),H'[sa]?=some (.lst ((s1++ss).map SV))→(∀ (i:Nat) s,ss[i]?=some s→s.name=called xs 1 (5+i))→(∀ s∈ss,SmOK s∧s.needs.length≤1)→ss.length≤9→(∀ n,n≠sa→H'[n]?=H[n]?)→H'.length=H.length→PG (seqS r [some (.lst (xs.map .int)),some (.int f),some (.int g),some (.lst (sks.map .str)),some (.int many),some (.ref pa),a6,a7,some (.ref sa),a9] H')):PG (seqS (forS false (.one 6) (biE false .range [(subE (lstE false [(cstE (.int 0)),(cstE (.int 0)),(cstE (.int 0)),(cstE (.int 0)),(cstE (.int 0)),(cstE (.int 0)),(cstE (.int 3)),(cstE (.int 9))]) (binE false .Mod (binE false .FloorDiv (varE 1) (cstE (.int 64))) (cstE (.int 8))))]) (ZcR (R (k+5)) false)::r) [some (.lst (xs.map .int)),some (.int f),some (.int g),some (.lst (sks.map .str)),some (.int many),some (.ref pa),a6,a7,some (.ref sa),a9] H):=by
 refine x1_2 (pick39 (f / 64)) fun m hm9 hm=>?_
 have hmH:=hm H
 refine Zbt (a:=.rng 0 m) (H₁:=H) (xs:=span 0 m) (e_bi (Zaa (by trivial)) rfl) (Zan (by lia) (by lia)) (by rw [Zae,Int.sub_zero])
  (fun j ρ H'=>Ex3 fun (ss:List Sm) (a6 a9:Option AV)=>A7 (H'[sa]?=some (.lst ((s1++ss).map SV))) ((∀ (i:Nat) s,ss[i]?=some s→s.name=called xs 1 (5+i))) ((∀ s∈ss,SmOK s∧s.needs.length≤1)) (ss.length=j) ((∀ n,n≠sa→H'[n]?=H[n]?)) (H'.length=H.length) (ρ=[some (.lst (xs.map .int)),some (.int f),some (.int g),some (.lst (sks.map .str)),some (.int many),some (.ref pa),a6,a7,some (.ref sa),a9]))
  ⟨[],a6,a9,by rw [List.append_nil]; exact hp,(fun _ _ q=>nomatch q),(fun _ q=>nomatch q),rfl,fun _ _=>rfl,rfl,rfl⟩ ?_ ?_
 ·rintro J j v ρ H' hv hI hJ
  obtain ⟨ss,a6,a9,T1,tn,to,hl,fr,hlen,rfl⟩:=hI
  obtain ⟨hd,D,hD,rfl⟩:=Zbl hv
  have hcal:=Za6 (H:=H') (k:=k+2) C P' hx (s:=1) (i:=5+D) (by decide) (by lia)
  refine Zal (a:=.int (24*(3*g+D))) (H₁:=H') (by trivial) ?_
  generalize hb:24*(3*g+D)=b
  have hsk:=Zgm (H:=H') hk.len (j:=D%4) (by exact Int.emod_nonneg _ (by decide)) (by lia)
  have htup:tupE [(callE (R (k+5) false) 36 [(varE 0),(cstE (.int 1)),(binE false .Add (cstE (.int 5)) (varE 6))]),(tupE [(varE 9),(binE false .Add (varE 9) (cstE (.int 24)))]),(lstE false [(tupE [(subE (varE 3) (binE false .Mod (varE 6) (cstE (.int 4)))),(cstE (.int 1))])])] [some (.lst (xs.map .int)),some (.int f),some (.int g),some (.lst (sks.map .str)),some (.int many),some (.ref pa),some (.int D),a7,some (.ref sa),some (.int b)] H'=.ok (SV (Sm.mk (called xs 1 (5+D)) (b,b+24) [(sks.getD (D%4).toNat "", 1)])) H':=by
   unfold SV stAV
   trivial
  refine ZaA (a:=.none) (H₁:=H'.set sa (.lst ((s1++(ss++[(Sm.mk (called xs 1 (5+D)) (b,b+24) [(sks.getD (D%4).toNat "", 1)])])).map SV))) ((Zax rfl T1 (Zaa htup) T1 (by simp; lia)).trans (by rw [← List.append_assoc s1,List.map_append (l₁:=s1++ss)]; rfl)) ?_
  refine Zam (hJ _ _ ⟨_,_,_,ZaB ((gsi T1).1),Zhf tn (by rw [hl,← hD]),fun q hq=>?_,by simp [hl],fun n hn=>?_,by rw [List.length_set]; exact hlen,rfl⟩)
  ·rcases qMp hq with hq | hq
   ·exact to q hq
   ·cases qMs hq
    refine ⟨⟨Zbw (hD▸Int.natCast_nonneg _),?_,?_,⟨?_,by simp,?_,by simp⟩⟩,by simp⟩
    ·unfold stOK
     simp only [qBt,decide_eq_true_eq]
     lia
    ·unfold dayOK
     simp only [decide_eq_true_eq]
     lia
    ·intro n hn
     cases qMs hn
     exact hk.names _ (ZdN hk (by exact Int.emod_nonneg _ (by decide)) (by lia))
    ·intro n hn
     cases qMs hn
     show (1:Int)≤1∧(1:Int)≤9
     decide
  ·rw [Zaf (Ne.symm hn)]
   exact fr n hn
 ·rintro ρ H' ⟨ss,a6,a9,T1,tn,to,hl,fr,hlen,rfl⟩
  rw [Zae] at hl
  exact fin H' ss a6 a9 T1 tn to (by lia) fr hlen
end
section
variable {R:Nat→Bool→FT} {k:Nat} {H:AH} {PG:OutS→Prop} {xs:List Int}
noncomputable def sks6 (xs:List Int):List Str:=(List.range 6).map fun (j:Nat)=>called xs 2 j
theorem ZnB (xs:List Int):SksOK (sks6 xs):=by
 refine ⟨by simp [sks6],fun x hx=>?_,?_⟩
 ·refine x1_2 (qMm hx) fun j _ e2'=>?_; subst e2'
  exact Zbw (Int.natCast_nonneg _)
 ·refine Zat (fun i hi j hj e=>?_) List.nodup_range
  have hi:=List.mem_range.mp hi
  have hj:=List.mem_range.mp hj
  have:=Zcb (by lia) (by lia) e
  lia
theorem Zkx (C:BookR R) (P':PartsR R) (hx:xs.length≤63) {ρ:RE} {n:Nat} (h0:ρ[0]?=some (some (.lst (xs.map .int)))) (hn:ρ.length=n):compE false false (callE (R (k+3) false) 36 [(varE 0),(cstE (.int 2)),(varE n)]) (biE false .range [(cstE (.int 6))]) (cstE (.bool true)) ρ H=.ok (.lst ((sks6 xs).map .str)) H:=by
 refine ZgT (xs:=span 0 6) (g:=fun a=>match a with | .int j=>.str (called xs 2 j) | a=>a) (e_bi (Zaa rfl) rfl) (Zan (by decide) (by decide)) rfl (by rw [Zae]; decide) (fun v hm=>?_) ?_
 ·refine x1_3 (ZaU hm) fun j j0 j1 e3'=>?_; subst e3'
  exact Zac (ZaE (Zak h0) rfl (Zag hn)) (Za6 C P' hx (by decide) (by lia))
 ·show Out.ok (AV.lst _) H=_
  unfold sks6 span
  simp [List.map_map,Function.comp_def]
theorem ZkR (C:BookR R) (P':PartsR R) (hx:xs.length≤63) {sks:List Str} {g:Int} (hk:SksOK sks) (hg:1≤g∧g≤40):∃ H' a b qs ss,R (k+5) false 39 [.lst (xs.map .int),.lst (sks.map .str),.int g] H=.ok (.tup [.ref a,.ref b]) H'∧Made H H' a b qs ss:=by
 rw [P'.tight _ _ _ _ rfl]
 exact ZnU (PG:=fun o=>∃ H' a b qs ss,o.done=.ok (.tup [.ref a,.ref b]) H'∧Made H H' a b qs ss) C P' hx hk hg fun H' a b qs ss h=>⟨H',a,b,qs,ss,rfl,h⟩
theorem Znp (C:BookR R) (P':PartsR R) (hx:xs.length≤63) (fin:∀ H' a b qs ss,Made H H' a b qs ss→PG (.ret (.tup [.ref a,.ref b]) H')):PG (Zdo (R (k+5)) false (rho0 [.lst (xs.map .int)] 10) H):=by
 refine Zal (a:=.int (cell xs 0)) (H₁:=H) (by trivial) ?_
 generalize cell xs 0=f
 generalize hg':(if cell xs 1 / 8%4=0 then (1:Int) else if cell xs 1 / 8%4=1 then 1 else if cell xs 1 / 8%4=2 then 2 else 1+f / 4096%40)=g
 have hg:1≤g∧g≤40:=by
  rw [← hg']
  repeat' split
  all_goals first | decide | lia
 refine Zal (a:=.int g) (H₁:=H) (by rw [← hg']; trivial) ?_
 clear hg'
 refine Zal (Zkx (k:=k+2) C P' hx rfl rfl) ?_
 have hk:=ZnB xs
 generalize sks6 xs=sks at hk
 refine p_if (x:=decide (f%2=1)) (H₁:=H) (by trivial) (fun _=>?_) fun _=>?_
 ·refine x5_2 (ZkR (H:=H) (k:=k) C P' hx hk hg) fun H' a b qs ss run M=>?_
  exact ZaZ (P:=Th _ _) (by trivial) (fin H' a b qs ss M)
 refine ZdH ?_
 generalize hm':f / 2%8+(if f / 16%4=0 then (0:Int) else if f / 16%4=1 then 0 else if f / 16%4=2 then 0 else 9)=many
 have hm:0≤many∧many≤16:=by
  rw [← hm']
  repeat' split
  all_goals first | decide | lia
 refine Zal (a:=.int many) (H₁:=H) (by rw [← hm']; trivial) ?_
 clear hm'
 refine Zal (a:=.ref H.length) (H₁:=H++[AO.lst []]) (by trivial) ?_
 obtain ⟨m,hmm⟩:∃ m:Nat,many+(if decide (f / 64%16=3) then (20:Int) else 0)=(m:Int):=⟨(many+(if decide (f / 64%16=3) then (20:Int) else 0)).toNat,by split<;>lia⟩
 refine Zo3 (pa:=H.length) C P' hx hk hg hmm (by split at hmm<;>lia) Zaj ?_
 intro H2 qs a6 a7 Q2 hq u2
 have up2:Up H.length H H2:=⟨by have:=u2.1; rw [qLa] at this; exact Nat.le_trans (Nat.le_add_right _ _) this,fun n hn=>(u2.2 n hn).trans (qGl hn)⟩
 refine Zal (a:=.ref H2.length) (H₁:=H2++[AO.lst []]) (by trivial) ?_
 have hpl:H.length<H2.length:=(gsi Q2.at_).1
 refine Zo6 (pa:=H.length) (sa:=H2.length) C P' hx hk hg Zaj ?_
 intro H3 s1 a6' T3 hs1 fr3 hl3
 refine Zo7 (pa:=H.length) (sa:=H2.length) C P' hx hk hg hs1 T3.at_ ?_
 intro H4 s2 a6'' a9 T4 tn to hs2 fr4 hl4
 have get4:∀ n,n<H2.length→H4[n]?=H2[n]?:=fun n hn=>by rw [fr4 n (Nat.ne_of_lt ‹_›),fr3 n (Nat.ne_of_lt ‹_›),qGl hn]
 refine ZaZ (a:=.tup [.ref H.length,.ref H2.length]) (H₁:=H4) (by trivial) (fin H4 _ _ qs (s1++s2) ⟨⟨?_,fun n hn=>?_⟩,Nat.le_refl _,Nat.le_of_lt ‹_›,?_,T4,?_,Q2.ok,?_,ZbG Q2.name hq,?_,hq,?_,?_,?_⟩)
 ·rw [hl4,hl3,qLa]; lia
 ·rw [get4 n (Nat.lt_trans ‹_› ‹_›)]; exact up2.2 n hn
 ·rw [get4 _ hpl]; exact Q2.at_
 ·intro q hq r e
  refine x1_3 (Q2.rs q hq) fun r' e1 e2 e3=>?_
  rw [e] at e1
  cases e1
  exact ⟨Nat.le_of_lt ‹_›,by rw [get4 _ (gsi e3).1]; exact e3⟩
 ·intro s hs
  rcases qMp hs with hs | hs
  ·exact T3.ok s hs
  ·exact (to s hs).1
 ·rw [qMa,List.nodup_append]
  refine ⟨ZbG T3.name (le_t ‹_› rfl),?_,?_⟩
  ·rw [List.Nodup,List.pairwise_iff_getElem]
   intro i j hi hj hij e
   rw [qLm] at hi hj
   rw [List.getElem_map,List.getElem_map,tn i _ (qGg hi),tn j _ (qGg hj)] at e
   have:=Zcb (by lia) (by lia) e
   lia
  ·intro x hx' y hy e
   refine x1_2 (qMm hx') fun s hs e2'=>?_; subst e2'
   refine x1_2 (qMm hy) fun s' hs' e2'=>?_; subst e2'
   obtain ⟨i,hi,rfl⟩:=List.mem_iff_getElem.mp hs
   obtain ⟨j,hj,rfl⟩:=List.mem_iff_getElem.mp hs'
   rw [T3.name i _ (qGg hi),tn j _ (qGg hj)] at e
   have:=Zcb (by lia) (by lia) e
   lia
 ·rw [qLa]; lia
 ·intro s hs
  rcases qMp hs with hs | hs
  ·exact T3.few s hs
  ·exact Nat.le_trans (to s hs).2 (by decide)
 ·rw [qMa,List.sum_append]
  have h1:=Zhk T3.few
  have h2:=Zhk fun s hs=>(to s hs).2
  lia
theorem Zj7 (C:BookR R) (P':PartsR R) (hx:xs.length≤63):∃ H' a b qs ss,R (k+6) false 40 [.lst (xs.map .int)] H=.ok (.tup [.ref a,.ref b]) H'∧Made H H' a b qs ss:=by
 rw [P'.parts _ _ _ _ rfl]
 exact Znp (PG:=fun o=>∃ H' a b qs ss,o.done=.ok (.tup [.ref a,.ref b]) H'∧Made H H' a b qs ss) C P' hx fun H' a b qs ss h=>⟨H',a,b,qs,ss,rfl,h⟩
end
def IsL (N:Nat) (H:AH) (a:AV) (ys:List AV):Prop:=a=.lst ys∨∃ r,a=.ref r∧r<N∧H[r]?=some (.lst ys)
section
variable {N:Nat} {H H' H₁:AH} {a:AV} {xs ys:List AV} {PG:OutS→Prop} {ρ:RE} {r:List DS} {b:DS}
theorem IsL.up (h:IsL N H a ys) (u:Up N H H'):IsL N H' a ys:=by
 rcases h with h | ⟨r,e,hr,h⟩
 ·exact .inl h
 ·exact .inr ⟨r,e,hr,(u.2 r hr).trans h⟩
theorem IsL.ls (h:IsL N H a ys):lsOf H a=some ys:=by
 rcases h with rfl | ⟨r,rfl,hr,h⟩
 ·rfl
 ·exact Zdw h
theorem IsL.nd (h:IsL N H a ys):dcOf H a=none:=by
 rcases h with rfl | ⟨r,rfl,hr,h⟩
 ·rfl
 ·exact Zc8 h
theorem IsL.sub (h:IsL N H a ys) {i:Int} {v:AV} (h0:0≤i) (hv:ys[i.toNat]?=some v) (hl:ys.length≤1000000):subA a (.int i) H=.ok v H:=by
 rcases h with rfl | ⟨r,rfl,hr,h⟩
 ·exact subL h0 hv hl
 ·exact ZcK h h0 hv hl
theorem Zmm {n:Nat}:((-1:Int)+n).toNat=n-1:=by rw [Int.add_comm,← Int.sub_eq_add_neg]; exact Int.toNat_sub n 1
theorem IsL.last (h:IsL N H a ys) {v:AV} (hv:ys.getLast?=some v) (hl:ys.length≤1000000):subA a (.int (-1)) H=.ok v H:=by
 have hne:ys.length≠0:=fun q=>by
  rw [List.length_eq_zero_iff.mp q] at hv; cases hv
 have ha:atA (-1) ys=some v:=by
  unfold atA
  rw [if_pos (by decide)]
  unfold idxA
  rw [if_neg (by decide),if_pos (by lia)]
  show ys[((-1:Int)+ys.length).toNat]?=some v
  rw [List.getLast?_eq_getElem?] at hv
  rw [← hv,Zmm]
 unfold subA
 rw [h.nd]
 show (match a with | .tup xs=>_ | .str x=>_ | a=>orBad (lsOf H a) fun xs=>orBad (atA (-1) xs) fun v=>Out.ok v H)=_
 rcases h with rfl | ⟨r,rfl,hr,h⟩
 ·show orBad (atA (-1) ys) _=_
  rw [ha]; rfl
 ·show orBad (lsOf H (.ref r)) _=_
  rw [Zdw h]
  show orBad (atA (-1) ys) _=_
  rw [ha]; rfl
theorem IsL.len (h:IsL N H a ys) (hl:ys.length≤1000000):biA false .len [a] H=.ok (.int ys.length) H:=by
 show orBad (lenA H a) (fun n=>if n<2^62 then Out.ok (AV.int (n:Nat)) H else .bad)=_
 have:lenA H a=some ys.length:=by
  rcases h with rfl | ⟨r,rfl,hr,h⟩
  ·rfl
  ·exact Zfw h
 rw [this]
 exact if_pos (lt_t ‹_› rfl)
theorem IsL.cut_to (h:IsL N H a ys) {u:Int} (h0:0≤u) (h1:u≤ys.length) (hl:ys.length≤1000):slcA false a .none (.int u) .none H=.ok (.lst (ys.take u.toNat)) H:=by
 have:=ZoJ (H:=H) (xs:=ys) h0 h1 hl
 rcases h with rfl | ⟨r,rfl,hr,h⟩
 ·exact this
 ·rw [← this]
  unfold slcA
  show orBad _ (fun l=>orBad _ fun u=>if AV.none.isNone=true then orBad (lsOf H (.ref r)) _ else .bad)=orBad _ (fun l=>orBad _ fun u=>if AV.none.isNone=true then orBad (lsOf H (.lst ys)) _ else .bad)
  rw [Zdw h]; rfl
theorem IsL.cut_from (h:IsL N H a ys) {u:Int} (h0:0≤u) (h1:u≤ys.length) (hl:ys.length≤1000):slcA false a (.int u) .none .none H=.ok (.lst (ys.drop u.toNat)) H:=by
 have:=ZlY (H:=H) (xs:=ys) h0 h1 hl
 rcases h with rfl | ⟨r,rfl,hr,h⟩
 ·exact this
 ·rw [← this]
  unfold slcA
  show orBad _ (fun l=>orBad _ fun u=>if AV.none.isNone=true then orBad (lsOf H (.ref r)) _ else .bad)=orBad _ (fun l=>orBad _ fun u=>if AV.none.isNone=true then orBad (lsOf H (.lst ys)) _ else .bad)
  rw [Zdw h]; rfl
theorem Zbk {i:Nat} {it:DE} (h:it ρ H=.ok a H₁) (hl:IsL N H₁ a xs) (Inv:Nat→RE→AH→Prop) (i0:Inv 0 ρ H₁) (hup:∀ j ρ H',Inv j ρ H'→Up N H₁ H')
  (step:∀ (J:RE→AH→Prop) (j:Nat) v ρ H,xs[j]?=some v→Inv j ρ H→(∀ ρ' H',Inv (j+1) ρ' H'→J ρ' H')→Nx J PG (b (ρ.set i (some v)) H)) (fin:∀ ρ H,Inv xs.length ρ H→PG (seqS r ρ H)):PG (seqS (forS false (.one i) it b::r) ρ H):=by
 rcases hl with rfl | ⟨m,rfl,hm,hl⟩
 ·exact Zbt h rfl rfl Inv i0 step fin
 ·exact Zoy h hl Inv i0 (fun j ρ H' q=>((hup j ρ H' q).2 m hm).trans hl) step fin
end
section
variable {R:Nat→Bool→FT} {k:Nat} {H:AH} {N b:Nat} {ps:List Pm} {ss:List Sm}
noncomputable def bare (p:Pm):Pm:={ p with rests:=[] }
theorem ZdR {q:Option Nat×Pm} (hr:∀ r,q.1=some r→r<N∧H[r]?=some (.lst (q.2.rests.map stAV))):∃ a,pv q=.tup [.str q.2.name,.lst (q.2.skills.map .str),.int q.2.limit,a]∧IsL N H a (q.2.rests.map stAV):=by
 obtain ⟨o,p⟩:=q
 cases o with
 | none=>exact ⟨_,rfl,.inl rfl⟩
 | some r=>exact ⟨_,rfl,.inr ⟨r,rfl,(hr r rfl).1,(hr r rfl).2⟩⟩
noncomputable def pT (p:Pm) (a:AV):AV:=.tup [.str p.name,.lst (p.skills.map .str),.int p.limit,a]
theorem Zkj {Q:Nat→Prop} (C:BookR R) (B:BookQ Q H b ps ss) (hN:N≤H.length) (hQN:∀ n<N,¬ Q n) (hnd:(ps.map (·.name)).Nodup) {i:Nat} {p:Pm} {a:AV} (hi:ps[i]?=some (bare p)) (hok:PmOK p) (hl:IsL N H a (p.rests.map stAV)) {PG:OutS→Prop}
  (fin:∀ ρ H',BookQ Q H' b (ps.set i p) ss→UpQ Q H H'→PG (.next ρ H')):PG (ZbE (R (k+3)) false (rho0 [.ref b,pT p a] 3) H):=by
 have hlt:i<ps.length:=(gsi hi).1
 have hset:ps.set i (bare p)=ps:=by
  refine List.ext_getElem? fun j=>?_
  rw [List.getElem?_set]
  split
  ·rename_i e
   subst e
   first
    | rw [if_pos hlt,hi]
    | exact hi.symm
  ·rfl
 refine Zbk (N:=N) (a:=a) (H₁:=H) rfl hl (fun j ρ H'=>A3 (BookQ Q H' b (ps.set i { p with rests:=p.rests.take j }) ss) (UpQ Q H H') (∃ o,ρ=[some (.ref b),some (pT p a),o])) ⟨?_,UpQ.refl,_,rfl⟩ (fun j ρ H' h=>h.2.up hN hQN) ?_ ?_
 ·show BookQ Q H b (ps.set i (bare p)) ss
  rw [hset]
  exact B
 ·rintro J j v ρ H' hv hI hJ
  obtain ⟨B',u,o,rfl⟩:=hI
  rw [qGm] at hv
  refine x1_2 (oms hv) fun st hj e2'=>?_; subst e2'
  obtain ⟨fs,hb⟩:=B'.at
  have hj':=(gsi hj).1
  have:=hok.few
  obtain ⟨H2,run,B2,u2,_⟩:=Zig (k:=k) C B' (i:=i) (p:={ p with rests:=p.rests.take j }) (st:=st) (by rw [Zbj (f:=Pm.name) (a':={ p with rests:=p.rests.take j }) hi rfl]; exact hnd) (by simp [hlt]) (hok.rests st (qMo hj)) (by simp; exact Nat.le_trans (Nat.min_le_right _ _) (le_t ‹_› rfl))
  refine ZaA (a:=.none) (H₁:=H2) (e_mo rfl hb (i:=14) rfl (ZaI rfl rfl) run) (Zam (hJ _ _ ⟨?_,u.trans u2,_,rfl⟩))
  rw [List.set_set] at B2
  rw [List.take_add_one,hj]
  exact B2
 ·rintro ρ H' ⟨B',u,o,rfl⟩
  rw [qLm,List.take_length] at B'
  exact fin _ H' B' u
theorem ZlQ (C:BookR R) (B:BookOf N H b ps ss) (hnd:(ps.map (·.name)).Nodup) {i:Nat} {p:Pm} {a:AV} (hi:ps[i]?=some (bare p)) (hok:PmOK p) (hl:IsL N H a (p.rests.map stAV)) {PG:OutS→Prop}
  (fin:∀ ρ H',BookOf N H' b (ps.set i p) ss→Up N H H'→PG (.next ρ H')):PG (ZbE (R (k+3)) false (rho0 [.ref b,.tup [.str p.name,.lst (p.skills.map .str),.int p.limit,a]] 3) H) :=
 Zkj (Q:=fun n=>N≤n) C (B.toQ fun n h _=>h) B.le (fun n hn h=>absurd h (Nat.not_le.mpr hn)) hnd hi hok hl fun ρ H' B' u=>fin ρ H' (B'.of fun n h=>h) (u.up B.le fun n hn h=>absurd h (Nat.not_le.mpr hn))
theorem Zdd (C:BookR R) (P':PartsR R) (B:BookOf N H b ps ss) (hnd:(ps.map (·.name)).Nodup) {i:Nat} {q:Option Nat×Pm} (hi:ps[i]?=some (bare q.2)) (hok:PmOK q.2) (hr:∀ r,q.1=some r→r<N∧H[r]?=some (.lst (q.2.rests.map stAV))) :
  ∃ H',R (k+4) false 41 [.ref b,pv q] H=.ok .none H'∧BookOf N H' b (ps.set i q.2) ss∧Up N H H':=by
 rw [P'.rested _ _ _ _ rfl]
 refine x1_2 (ZdR hr) fun a e hl=>?_
 rw [e]
 exact ZlQ (PG:=fun o=>∃ H',o.done=.ok .none H'∧BookOf N H' b (ps.set i q.2) ss∧Up N H H') C B hnd hi hok hl fun ρ H' B u=>⟨H',rfl,B,u⟩
end
section
variable {R:Nat→Bool→FT} {k:Nat} {H H₁ H₂ H₃:AH} {N b:Nat} {ps:List Pm} {ss:List Sm} {ρ ρ' ρ'':RE} {e:DE} {r:List DS} {c:Nat}
theorem Zdx (h:e ρ H=.exc c H₁):seqS (exprS e::r) ρ H=.exc c ρ H₁:=by
 show (exprS e ρ H).then _=_; unfold exprS; rw [h]; rfl
theorem Zmr {i:Nat} {hot:Bool} (h:e ρ H=.exc c H₁):seqS (assignS hot (.one i) e::r) ρ H=.exc c ρ H₁:=by
 show (assignS hot (.one i) e ρ H).then _=_; unfold assignS; rw [h]; rfl
theorem ZhU {B:AV→DS} {x y:AV} (h1:B x ρ H=.next ρ' H₁) (h2:B y ρ' H₁=.exc c ρ'' H₂):loopS B (.seq [x,y]) 2 0 ρ H=.exc c ρ'' H₂:=by
 show (B x ρ H).then (loopS B (.seq [x,y]) 1 1)=_
 rw [h1]
 show (B y ρ' H₁).then _=_
 rw [h2]; rfl
theorem x_ok:nameOK "x" = true:=by decide
theorem y_ok:nameOK "y" = true:=by decide
theorem ZeY:nameOK "new" = true:=by decide
theorem ZdI (C:BookR R) (B:BookOf N H b ps ss) {nm:Str} (hn:nameOK nm=true) (hx:nm∈ps.map (·.name)):∃ H',R (k+3) false 13 [.ref b,.str nm,.lst [.str "x"],.int 1] H=.exc 4 H'∧Up H.length H H':=by
 refine x4_4 (B.ex) fun fd wd prs srs A e5' e6' hN=>?_; subst e5'; subst e6'
 clear B
 rw [C.add_person _ _ _ _ rfl]
 refine ⟨H++[.lst [.str "x"]],?_,Up.app⟩
 have hin:((folkD prs).any fun e=>decide (e.1=Key.str nm))=true:=by
  unfold folkD; rw [Zdu]; exact decide_eq_true (by simpa [Function.comp_def] using hx)
 have B1:BookAt (H++[.lst [.str "x"]]) b fd wd prs srs:=A.grow
 suffices q:Zaz (R (k+2)) false (rho0 [.ref b,.str nm,.lst [.str "x"],.int 1] 5) H=.exc 4 [some (.ref b),some (.str nm),some (.lst [.str "x"]),some (.int 1),some (.ref H.length)] (H++[.lst [.str "x"]]) by rw [q]; rfl
 refine Zau (e_nt (x:=true) (Zac (Zaa rfl) ((Zaw C (ZaJ hn)).trans (by rw [hn])))) ?_
 refine Za5 (Zac (Zaa rfl) (Ze5 (xs:=["x"]) C (by simp [x_ok]) (by simp) (by simp) (fun x hx=>by simp at hx; subst hx; decide))) ?_
 refine Zau (Zeb (x:=false) (y:=false) (e_nt (x:=true) (Zac (Zaa rfl) (Zbe C))) (e_nt (x:=true) rfl)) ?_
 exact s_if (Zai rfl (Zas rfl B1.book rfl) (Zeh B1.folk hin)) (fun _=>rfl) fun q=>nomatch q
theorem ZdV (C:BookR R) (B:BookOf N H b ps ss) {nm:Str} {h:Int×Int} (hn:nameOK nm=true) (hs:stOK h=true) (hd:dayOK h=true) (hx:nm∈ss.map (·.name)):∃ H',R (k+3) false 15 [.ref b,.str nm,stAV h,.lst [.tup [.str "x", .int 9]]] H=.exc 4 H'∧Up H.length H H':=by
 refine x4_4 (B.ex) fun fd wd prs srs A e5' e6' hN=>?_; subst e5'; subst e6'
 clear B
 rw [C.add_shift _ _ _ _ rfl]
 refine ⟨H++[.lst [.str "x"],.lst [.tup [.str "x", .int 9]]],?_,Up.app⟩
 have hin:((workD srs).any fun e=>decide (e.1=Key.str nm))=true:=by
  unfold workD; rw [Zdu]; exact decide_eq_true (by simpa [Function.comp_def] using hx)
 have B1:BookAt (H++[.lst [.str "x"],.lst [.tup [.str "x", .int 9]]]) b fd wd prs srs:=A.grow
 suffices q:Zav (R (k+2)) false (rho0 [.ref b,.str nm,stAV h,.lst [.tup [.str "x", .int 9]]] 5) H=.exc 4 [some (.ref b),some (.str nm),some (stAV h),some (.lst [.tup [.str "x", .int 9]]),some (.ref (H.length+1))] (H++[.lst [.str "x"],.lst [.tup [.str "x", .int 9]]]) by rw [q]; rfl
 refine Zau (e_nt (x:=true) (Zac (Zaa rfl) ((Zaw C (ZaJ hn)).trans (by rw [hn])))) ?_
 refine Zau (Zeb (x:=false) (y:=false) (e_nt (x:=true) (Zac (Zaa rfl) ((ZaY C).trans (by rw [show (decide (0≤h.1) && (decide (h.1<h.2) && decide (h.2≤1000000)))=true from hs])))) (e_nt (x:=true) (Zac (Zaa rfl) ((ZbH C).trans (by rw [show decide (h.1 / 24=(h.2-1) / 24)=true from hd]))))) ?_
 refine Za5 (Zac (Zaa rfl) (Zga (ns:=[("x", 9)]) C ⟨by simp [x_ok],by simp,by simp,by simp⟩)) ?_
 exact s_if (Zai rfl (Zas rfl B1.book rfl) (Zeh B1.work hin)) (fun _=>rfl) fun q=>nomatch q
theorem ZeB (C:BookR R) {v:AV}:R (k+3) false 15 [.ref b,.str "new", .tup [.int 0,.int 30],v] H=.exc 2 H:=by
 rw [C.add_shift _ _ _ _ rfl]
 suffices q:Zav (R (k+2)) false (rho0 [.ref b,.str "new", .tup [.int 0,.int 30],v] 5) H=.exc 2 [some (.ref b),some (.str "new"),some (.tup [.int 0,.int 30]),some v,none] H by rw [q]; rfl
 refine Zau (e_nt (x:=true) (Zac (Zaa rfl) ((Zaw C (ZaJ ZeY)).trans (by rw [ZeY])))) ?_
 exact s_if (Zeb (x:=false) (y:=true) (e_nt (x:=true) (Zac (Zaa rfl) (ZaY C))) (e_nt (x:=false) (Zac (Zaa rfl) (ZbH C)))) (fun _=>rfl) fun q=>nomatch q
theorem Zgl (C:BookR R):R (k+2) false 6 [.lst [.str "x", .str "x"]] H=.exc 4 (H++[.lst [.str "x"]]):=by
 rw [C.checked_skills _ _ _ _ rfl]
 suffices h:ZaH (R (k+1)) false (rho0 [.lst [.str "x", .str "x"]] 3) H=.exc 4 [some (.lst [.str "x", .str "x"]),some (.ref H.length),some (.str "x")] (H++[.lst [.str "x"]]) by rw [h]; rfl
 refine Za5 (a:=.ref H.length) (H₁:=H++[.lst []]) rfl ?_
 refine Zbg ?_
 rw [Zfl (a:=.lst [.str "x", .str "x"]) (xs:=[.str "x", .str "x"]) (n:=2) rfl rfl]
 refine ZhU (ρ':=[some (.lst [.str "x", .str "x"]),some (.ref H.length),some (.str "x")]) (H₁:=H++[.lst [.str "x"]]) ?_ ?_
 ·refine Zau (e_nt (x:=true) (Zac (Zaa rfl) ((Zaw C (ZaJ x_ok)).trans (by rw [x_ok])))) ?_
  refine Zau (Zai rfl rfl (Zbs (xs:=[]) (Zc8 Zaj) (Zdw Zaj))) ?_
  exact ZdG ((Zax rfl Zaj (Zaa rfl) Zaj (by decide)).trans (by rw [Zdf]; rfl)) rfl
 ·refine Zau (e_nt (x:=true) (Zac (Zaa rfl) ((Zaw C (ZaJ x_ok)).trans (by rw [x_ok])))) ?_
  exact s_if (x:=true) ((Zai rfl rfl (Zbs (xs:=["x"]) (Zc8 Zaj) (Zdw Zaj))).trans (by simp)) (fun _=>rfl) fun q=>nomatch q
theorem ZeA (C:BookR R):R (k+3) false 13 [.ref b,.str "new", .lst [.str "x", .str "x"],.int 3] H=.exc 4 (H++[.lst [.str "x"]]):=by
 rw [C.add_person _ _ _ _ rfl]
 suffices q:Zaz (R (k+2)) false (rho0 [.ref b,.str "new", .lst [.str "x", .str "x"],.int 3] 5) H=.exc 4 [some (.ref b),some (.str "new"),some (.lst [.str "x", .str "x"]),some (.int 3),none] (H++[.lst [.str "x"]]) by rw [q]; rfl
 refine Zau (e_nt (x:=true) (Zac (Zaa rfl) ((Zaw C (ZaJ ZeY)).trans (by rw [ZeY])))) ?_
 exact Zmr (Zac (Zaa rfl) (Zgl C))
theorem Zf9 (C:BookR R):∃ H',R (k+2) false 7 [.lst [.tup [.str "x", .int 9],.tup [.str "y", .int 0]]] H=.exc 3 H'∧Up H.length H H':=by
 rw [C.checked_needs _ _ _ _ rfl]
 refine ⟨H++[.lst [.str "x"],.lst [.tup [.str "x", .int 9]]],?_,Up.app⟩
 suffices h:ZaM (R (k+1)) false (rho0 [.lst [.tup [.str "x", .int 9],.tup [.str "y", .int 0]]] 5) H=.exc 3 [some (.lst [.tup [.str "x", .int 9],.tup [.str "y", .int 0]]),some (.ref H.length),some (.ref (H.length+1)),some (.str "y"),some (.int 0)] (H++[.lst [.str "x"],.lst [.tup [.str "x", .int 9]]]) by rw [h]; rfl
 refine Za5 (a:=.ref H.length) (H₁:=H++[.lst []]) rfl (Za5 (a:=.ref (H.length+1)) (H₁:=H++[.lst [],.lst []]) ?_ ?_)
 ·refine (ZeI Zek (by decide) rfl).trans ?_
  show Out.ok (AV.ref (H++[AO.lst []]).length) ((H++[AO.lst []])++[AO.lst []])=_
  rw [qLa,qAa]; rfl
 refine Zbg ?_
 rw [Zfk (a:=.lst [.tup [.str "x", .int 9],.tup [.str "y", .int 0]]) (xs:=[.tup [.str "x", .int 9],.tup [.str "y", .int 0]]) (n:=2) rfl rfl]
 refine ZhU (ρ':=[some (.lst [.tup [.str "x", .int 9],.tup [.str "y", .int 0]]),some (.ref H.length),some (.ref (H.length+1)),some (.str "x"),some (.int 9)]) (H₁:=H++[.lst [.str "x"],.lst [.tup [.str "x", .int 9]]]) ?_ ?_
 ·show seqS _ [some (.lst [.tup [.str "x", .int 9],.tup [.str "y", .int 0]]),some (.ref H.length),some (.ref (H.length+1)),some (.str "x"),some (.int 9)] _=_
  refine Zau (e_nt (x:=true) (Zac (Zaa rfl) ((Zaw C (ZaJ x_ok)).trans (by rw [x_ok])))) ?_
  refine Zau (Zai rfl rfl (Zbs (xs:=[]) (Zc8 ZaV) (Zdw ZaV))) ?_
  refine Zau (Zeb (x:=false) (y:=false) (e_nt (x:=true) (Zac (Zaa rfl) (Zbe C))) (e_nt (x:=true) rfl)) ?_
  refine ZdG (Zax rfl ZaV (Zaa rfl) ZaV (by decide)) ?_
  rw [Zde]
  refine ZdG (Zax rfl Zf1 (Zaa (ZcC (ZaI rfl rfl) (by simp))) Zf1 (by decide)) ?_
  rw [Zms]; rfl
 ·show seqS _ [some (.lst [.tup [.str "x", .int 9],.tup [.str "y", .int 0]]),some (.ref H.length),some (.ref (H.length+1)),some (.str "y"),some (.int 0)] _=_
  refine Zau (e_nt (x:=true) (Zac (Zaa rfl) ((Zaw C (ZaJ y_ok)).trans (by rw [y_ok])))) ?_
  have hin:cmpA (H++[.lst [.str "x"],.lst [.tup [.str "x", .int 9]]]) .In (.str "y") (.ref H.length)=some false:=(Zbs (xs:=["x"]) (Zc8 ZaV) (Zdw ZaV)).trans (by decide)
  refine Zau (Zai rfl rfl hin) ?_
  exact s_if (Zeb (x:=false) (y:=true) (e_nt (x:=true) (Zac (Zaa rfl) (Zbe C))) (e_nt (x:=false) rfl)) (fun _=>rfl) fun q=>nomatch q
theorem ZdJ (C:BookR R):∃ H',R (k+3) false 15 [.ref b,.str "new", .tup [.int 0,.int 8],.lst [.tup [.str "x", .int 9],.tup [.str "y", .int 0]]] H=.exc 3 H'∧Up H.length H H':=by
 rw [C.add_shift _ _ _ _ rfl]
 refine x1_2 (Zf9 (k:=k) (H:=H) C) fun H' run u=>?_
 refine ⟨H',?_,u⟩
 suffices q:Zav (R (k+2)) false (rho0 [.ref b,.str "new", .tup [.int 0,.int 8],.lst [.tup [.str "x", .int 9],.tup [.str "y", .int 0]]] 5) H=.exc 3 [some (.ref b),some (.str "new"),some (.tup [.int 0,.int 8]),some (.lst [.tup [.str "x", .int 9],.tup [.str "y", .int 0]]),none] H' by rw [q]; rfl
 refine Zau (e_nt (x:=true) (Zac (Zaa rfl) ((Zaw C (ZaJ ZeY)).trans (by rw [ZeY])))) ?_
 refine Zau (Zeb (x:=false) (y:=false) (e_nt (x:=true) (Zac (Zaa rfl) (ZaY C))) (e_nt (x:=true) (Zac (Zaa rfl) (ZbH C)))) ?_
 exact Zmr (Zac (Zaa rfl) run)
theorem ZgD (C:BookR R) (B:BookOf N H b ps ss) (hnd:(ps.map (·.name)).Nodup) {p:Pm} (hp:p∈ps):R (k+3) false 14 [.ref b,.str p.name,.tup [.int (-1),.int 2000000]] H=.exc 2 H:=by
 refine x4_4 (B.ex) fun fd wd prs srs A e5' e6' hN=>?_; subst e5'; subst e6'
 clear B
 refine x1_2 (qMm hp) fun q hq e2'=>?_; subst e2'
 exact ZfJ (st:=(-1,2000000)) C A (by simpa [Function.comp_def] using hnd) hq (by decide)
end
section
variable {R:Nat→Bool→FT} {k:Nat} {H H' H₁:AH} {N b:Nat} {ps:List Pm} {ss:List Sm} {qs:List (Option Nat×Pm)} {pA sA:AV} {ρ ρ':RE} {t:DE} {s u:DS} {c:Nat}
theorem if_t (h:t ρ H=.ok (.bool true) H₁):ifS t s u ρ H=s ρ H₁:=by unfold ifS; rw [h]; rfl
theorem if_f (h:t ρ H=.ok (.bool false) H₁):ifS t s u ρ H=u ρ H₁:=by unfold ifS; rw [h]; rfl
theorem ZnW (hc:c=2∨c=3∨c=4) (h:s ρ H=.exc c ρ' H'):tryS false gmC s [(0,none,seqS [retS (cstE (.bool true))])] ρ H=.ret (.bool true) H':=by
 unfold tryS
 rw [if_neg (by decide),h]
 rcases hc with rfl | rfl | rfl<;>rfl
theorem ZiF (C:BookR R) (P':PartsR R) (B:BookOf N H b ps ss) (hnd:(ps.map (·.name)).Nodup) (hpA:IsL N H pA (qs.map pv)) (hsA:IsL N H sA (ss.map SV)) (hps:ps=qs.map (·.2)) (hpok:∀ q∈qs,PmOK q.2) (hsok:∀ s∈ss,SmOK s) (hql:qs.length≤1000) (hsl:ss.length≤1000)
  {way:Int} (hw:0≤way∧way<6) (h01:way<2→qs≠[]) (h2:way=2→ss≠[]):∃ H',R (k+4) false 42 [.ref b,pA,sA,.int way] H=.ok (.bool true) H'∧Up H.length H H':=by
 rw [P'.refused _ _ _ _ rfl]
 obtain ⟨fs,hb⟩:=B.at
 suffices q:∃ c ρ' H',(c=2∨c=3∨c=4)∧(seqS [ifS (cmpE (varE 3) [.Eq] [(cstE (.int 0))]) (Za4 (R (k+3)) false) (Za3 (R (k+3)) false)]) [some (.ref b),some pA,some sA,some (.int way)] H=.exc c ρ' H'∧Up H.length H H' by
  refine x3_3 (q) fun c ρ' H' hc q u=>?_
  refine ⟨H',?_,u⟩
  have:ZaX (R (k+3)) false (rho0 [.ref b,pA,sA,.int way] 4) H=.ret (.bool true) H':=Zkm (ZnW hc q)
  rw [this]; rfl
 have hcase:way=0∨way=1∨way=2∨way=3∨way=4∨way=5:=by lia -abstractProof
 rcases hcase with rfl | rfl | rfl | rfl | rfl | rfl
 ·have hne:=h01 (by decide)
  obtain ⟨q,hq⟩:∃ q,qs.getLast?=some q:=⟨_,List.getLast?_eq_some_getLast hne⟩
  have hm:q∈qs:=List.mem_of_getLast? hq
  have l1:subA pA (.int (-1)) H=.ok (pv q) H:=hpA.last (by rw [List.getLast?_map,hq]; rfl) (by simp; exact le_t ‹_› rfl)
  have l2:subA (pv q) (.int 0) H=.ok (.str q.2.name) H:=rfl
  have run:=ZgD (k:=k) C B hnd (p:=q.2) (by rw [hps]; exact List.mem_map_of_mem hm)
  exact ⟨2,_,H,.inl rfl,Zbg ((if_t rfl).trans (Zdx (e_mo rfl hb (i:=14) rfl (by trivial) run))),Up.refl⟩
 ·have hne:=h01 (by decide)
  refine x2_1 (List.exists_cons_of_ne_nil hne) fun q qr e2'=>?_; subst e2'
  have l1:subA pA (.int 0) H=.ok (pv q) H:=hpA.sub (by decide) rfl (by simp at hql ⊢; exact le_t ‹_› rfl)
  have l2:subA (pv q) (.int 0) H=.ok (.str q.2.name) H:=rfl
  obtain ⟨H',run,u⟩:=ZdI (k:=k) C B (nm:=q.2.name) (hpok q (.head _)).name (by rw [hps]; exact .head _)
  exact ⟨4,_,H',.inr (.inr rfl),Zbg ((if_f rfl).trans (Zbg ((if_t rfl).trans (Zdx (e_mo rfl hb (i:=13) rfl (by trivial) run))))),u⟩
 ·have hne:=h2 rfl
  obtain ⟨z,hz⟩:∃ q,ss.getLast?=some q:=⟨_,List.getLast?_eq_some_getLast hne⟩
  have hm:z∈ss:=List.mem_of_getLast? hz
  refine x2_1 (List.exists_cons_of_ne_nil hne) fun q qr e2'=>?_; subst e2'
  have l1:subA sA (.int (-1)) H=.ok (SV z) H:=hsA.last (by rw [List.getLast?_map,hz]; rfl) (by simp at hsl ⊢; exact le_t ‹_› rfl)
  have l2:subA (SV z) (.int 0) H=.ok (.str z.name) H:=rfl
  have l3:subA sA (.int 0) H=.ok (SV q) H:=hsA.sub (by decide) rfl (by simp at hsl ⊢; exact le_t ‹_› rfl)
  have l4:subA (SV q) (.int 1) H=.ok (stAV q.hours) H:=rfl
  have oq:=hsok q (.head _)
  refine x1_2 (ZdV (k:=k) C B (nm:=z.name) (h:=q.hours) (hsok z hm).name oq.hours oq.day (List.mem_map_of_mem hm)) fun H' run u=>?_
  exact ⟨4,_,H',.inr (.inr rfl),Zbg ((if_f rfl).trans (Zbg ((if_f rfl).trans (Zbg ((if_t rfl).trans (Zdx (e_mo rfl hb (i:=15) rfl (by trivial) run))))))),u⟩
 ·exact ⟨2,_,H,.inl rfl,Zbg ((if_f rfl).trans (Zbg ((if_f rfl).trans (Zbg ((if_f rfl).trans (Zbg ((if_t rfl).trans (Zdx (e_mo rfl hb (i:=15) rfl (by trivial) (ZeB C)))))))))),Up.refl⟩
 ·exact ⟨4,_,_,.inr (.inr rfl),Zbg ((if_f rfl).trans (Zbg ((if_f rfl).trans (Zbg ((if_f rfl).trans (Zbg ((if_f rfl).trans (Zbg ((if_t rfl).trans (Zdx (e_mo rfl hb (i:=13) rfl (by trivial) (ZeA C)))))))))))),Up.app⟩
 ·refine x1_2 (ZdJ (k:=k) (H:=H) (b:=b) C) fun H' run u=>?_
  exact ⟨3,_,H',.inr (.inl rfl),Zbg ((if_f rfl).trans (Zbg ((if_f rfl).trans (Zbg ((if_f rfl).trans (Zbg ((if_f rfl).trans (Zbg ((if_f rfl).trans (Zdx (e_mo rfl hb (i:=15) rfl (by trivial) run))))))))))),u⟩
end
section
variable {R:Nat→Bool→FT} {k:Nat} {H H0:AH} {N b:Nat} {ps:List Pm} {ss s0:List Sm} {qs:List (Option Nat×Pm)} {pA sA:AV} {turn many:Int} {PG:OutS→Prop} {r:List DS}
theorem Zfx {ys:List AV} (hl:ys.length≤1000):biA false (.list false) [.lst ys] H=.ok (.lst ys) H:=by
 have hs:1000≤sizeLine:=by decide
 show (if ys.length≤sizeLine then Out.ok (AV.lst ys) H else .bad)=_
 exact if_pos (le_t ‹_› rfl)
noncomputable def pmf (fl:Bool) (q:Option Nat×Pm):Pm:=if fl then q.2 else bare q.2
theorem Zep {fl:Bool}:(qs.map (pmf fl)).map (·.name)=qs.map (·.2.name):=by
 rw [List.map_map]
 refine List.map_congr_left fun q _=>?_
 cases fl<;>rfl
theorem Zih:(qs.map fun q=>bare q.2).map (·.name)=qs.map (·.2.name):=by
 rw [List.map_map]; rfl
theorem ZaS:(qs.map (·.2)).map (·.name)=qs.map (·.2.name):=by
 rw [List.map_map]; rfl
structure Folk (H:AH) (N:Nat) (qs:List (Option Nat×Pm)):Prop where
 ok:∀ q∈qs,PmOK q.2
 rs:∀ q∈qs,∀ r,q.1=some r→r<N∧H[r]?=some (.lst (q.2.rests.map stAV))
 nodup:(qs.map (·.2.name)).Nodup
 few:qs.length≤100
theorem Folk.up {H':AH} (F:Folk H N qs) (u:Up N H H'):Folk H' N qs:=⟨F.ok,fun q hq r e=>⟨(F.rs q hq r e).1,(u.2 r (F.rs q hq r e).1).trans (F.rs q hq r e).2⟩,F.nodup,F.few⟩
theorem Zew (C:BookR R) (B:BookOf N H b ps ss) {q:Option Nat×Pm} (ok:PmOK q.2) (hx:q.2.name∉ps.map (·.name)) (hf:ps.length+ss.length<1000) {ρ:RE} (h3:ρ[3]?=some (some (.ref b))) (h5:ρ[5]?=some (some (pv q))) :
  ∃ H',(moE gmC (R (k+4) false) 1 (varE 3) [(subE (varE 5) (cstE (.int 0))),(biE false (.list false) [(subE (varE 5) (cstE (.int 1)))]),(subE (varE 5) (cstE (.int 2)))]) ρ H=.ok .none H'∧BookOf N H' b (ps++[bare q.2]) ss∧Up N H H':=by
 obtain ⟨fs,hb⟩:=B.at
 refine x1_3 (ZcL (k:=k+1) C B ok.name ok.skills ok.limit hx hf) fun H' run B' u=>?_
 refine ⟨H',e_mo (ZeJ h3) hb (i:=13) rfl (ZaE (Zab (ZeJ h5) rfl rfl) (e_bi (Zaa (Zab (ZeJ h5) rfl rfl)) (Zfx ?_)) (Zab (ZeJ h5) rfl rfl)) run,B',u⟩
 rw [qLm]; exact ok.skills.few
theorem Zh4 {α:Type} {l:List α} {x y:α}:(l++[x]).set l.length y=l++[y]:=by simp
theorem ZaO {α β:Type} {f:α→β} {l:List α} {j:Nat} {x:α} (h:l[j]?=some x):(l.take (j+1)).map f=(l.take j).map f++[f x]:=by
 rw [List.take_add_one,h,qMa]; rfl
theorem Zia {α:Type} {l:List α} {j:Nat} {x:α} (h:l[j]?=some x):(l.take j).length=j:=by
 rw [qLt]; exact Nat.min_eq_left (Nat.le_of_lt (gsi h).1)
theorem Zm7 (C:BookR R) (P':PartsR R) (F:Folk H N qs) (B:BookOf N H b [] []) (hpA:IsL N H pA (qs.map pv)) {m:Nat} (hm:many=m) (hml:m≤qs.length) {a5 a6 a7:Option AV}
  (fin:∀ (H':AH) (a5:Option AV),BookOf N H' b ((qs.take m).map (pmf (!decide (turn%4=3)))) []→Up N H H'→PG (seqS r [some pA,some sA,some (.int turn),some (.ref b),some (.int many),a5,a6,a7] H')):PG (seqS (forS false (.one 5) (slcE false (varE 0) (cstE .none) (varE 4) (cstE .none)) (ZbV (R (k+4)) false)::r) [some pA,some sA,some (.int turn),some (.ref b),some (.int many),a5,a6,a7] H):=by
 have hcut:slcA false pA .none (.int many) .none H=.ok (.lst ((qs.take m).map pv)) H:=by
  rw [hm]
  refine (hpA.cut_to (Int.natCast_nonneg _) (by rw [qLm]; exact Int.ofNat_le.mpr ‹_›) (by rw [qLm]; have:=F.few; exact le_t ‹_› rfl)).trans ?_
  rw [Int.toNat_natCast,List.map_take]
 refine Zbt (a:=.lst ((qs.take m).map pv)) (H₁:=H) (xs:=(qs.take m).map pv) (Zec rfl rfl rfl rfl hcut) rfl rfl
  (fun j ρ H'=>A3 (BookOf N H' b (((qs.take m).take j).map (pmf (!decide (turn%4=3)))) []) (Up N H H') (∃ a5,ρ=[some pA,some sA,some (.int turn),some (.ref b),some (.int many),a5,a6,a7])) ⟨B,Up.refl,_,rfl⟩ ?_ ?_
 ·rintro J j v ρ H' hv hI hJ
  obtain ⟨B1,u1,a5,rfl⟩:=hI
  rw [qGm] at hv
  refine x1_2 (oms hv) fun q hj e2'=>?_; subst e2'
  have hq:q∈qs:=List.mem_of_mem_take (qMo hj)
  have hnd:((qs.take m).map (·.2.name)).Nodup:=List.Nodup.sublist ((List.take_sublist _ _).map _) F.nodup
  have hlen:=Zia hj
  have hnot:q.2.name∉(((qs.take m).take j).map (pmf (!decide (turn%4=3)))).map (·.name):=by
   rw [Zep,List.map_take]
   exact Za7 hnd (by rw [qGm,hj]; rfl)
  have hjl:=(gsi hj).1
  have hf:=F.few
  rw [qLt] at hjl
  show Nx _ _ ((_:DS) [some pA,some sA,some (.int turn),some (.ref b),some (.int many),some (pv q),a6,a7] H')
  obtain ⟨H2,run,B2,u2⟩:=Zew (k:=k) (q:=q) (ρ:=[some pA,some sA,some (.int turn),some (.ref b),some (.int many),some (pv q),a6,a7]) C B1 (F.ok q hq) hnot (by rw [qLm,hlen]; simp; lia) rfl rfl
  refine ZaA run ?_
  refine p_if (x:=!decide (turn%4=3)) (H₁:=H2) (by trivial) (fun h=>?_) fun h=>?_
  ·rw [h] at B2
   obtain ⟨H3,run3,B3,u3⟩:=Zdd (k:=k) (i:=((qs.take m).take j).length) C P' B2 (by
    have:(((qs.take m).take j).map (pmf true)++[bare q.2]).map (·.name)=((qs.take m).take (j+1)).map (·.2.name):=by
     rw [qMa,Zep,ZaO (f:=fun x:Option Nat×Pm=>x.2.name) hj]; rfl
    rw [this]
    exact List.Nodup.sublist ((List.take_sublist _ _).map _) hnd) (q:=q) (by rw [List.getElem?_append_right (by simp),qLm,Nat.sub_self]; rfl) (F.ok q hq) ((F.up (u1.trans u2)).rs q hq)
   refine ZaA (P:=Th _ _) (Zac (ZaI rfl rfl) run3) (ZaG (hJ _ _ ⟨?_,(u1.trans u2).trans u3,_,rfl⟩))
   rw [h,ZaO hj]
   have:(((qs.take m).take j).map (pmf true)++[bare q.2]).set ((qs.take m).take j).length q.2=((qs.take m).take j).map (pmf true)++[q.2]:=by
    have:=Zh4 (l:=((qs.take m).take j).map (pmf true)) (x:=bare q.2) (y:=q.2)
    rw [qLm] at this
    exact this
   rw [this] at B3
   exact B3
  ·rw [h] at B2
   refine ZaG (hJ _ _ ⟨?_,u1.trans u2,_,rfl⟩)
   rw [h,ZaO hj]
   exact B2
 ·rintro ρ H' ⟨B1,u1,a5,rfl⟩
  rw [qLm,List.take_length] at B1
  exact fin H' a5 B1 u1
theorem Zm8 (C:BookR R) (B:BookOf N H b ps []) (hsA:IsL N H sA (ss.map SV)) (hok:∀ s∈ss,SmOK s) (hnd:(ss.map (·.name)).Nodup) (hfew:ss.length≤100) (hpf:ps.length≤100) {a5 a6 a7:Option AV}
  (fin:∀ (H':AH) (a6:Option AV),BookOf N H' b ps ss→Up N H H'→PG (seqS r [some pA,some sA,some (.int turn),some (.ref b),some (.int many),a5,a6,a7] H')):PG (seqS (forS false (.one 6) (varE 1) (ZbU (R (k+4)) false)::r) [some pA,some sA,some (.int turn),some (.ref b),some (.int many),a5,a6,a7] H):=by
 refine Zbk (N:=N) (a:=sA) (H₁:=H) (xs:=ss.map SV) rfl hsA
  (fun j ρ H'=>A3 (BookOf N H' b ps (ss.take j)) (Up N H H') (∃ a6,ρ=[some pA,some sA,some (.int turn),some (.ref b),some (.int many),a5,a6,a7])) ⟨B,Up.refl,_,rfl⟩ (fun j ρ H' h=>h.2) ?_ ?_
 ·rintro J j v ρ H' hv hI hJ
  obtain ⟨B1,u1,a6,rfl⟩:=hI
  rw [qGm] at hv
  refine x1_2 (oms hv) fun s hj e2'=>?_; subst e2'
  have hs:s∈ss:=qMo hj
  have ok:=hok s hs
  have hnot:s.name∉(ss.take j).map (·.name):=by
   rw [List.map_take]
   exact Za7 hnd (by rw [qGm,hj]; rfl)
  have hjl:=(gsi hj).1
  show Nx _ _ ((_:DS) [some pA,some sA,some (.int turn),some (.ref b),some (.int many),a5,some (SV s),a7] H')
  obtain ⟨fs,hb⟩:=B1.at
  obtain ⟨H2,run,B2,u2⟩:=Zdz (k:=k+1) C B1 ok.name ok.hours ok.day ok.needs hnot (by rw [qLt]; lia -abstractProof)
  refine ZaA (e_mo rfl hb (i:=15) rfl (ZaE (Zab rfl rfl rfl) (Zab rfl rfl rfl) (e_bi (Zaa (Zab rfl rfl rfl)) (Zfx (by rw [qLm]; exact ok.needs.few)))) run) (Zam (hJ _ _ ⟨?_,u1.trans u2,_,rfl⟩))
  rw [List.take_add_one,hj]
  exact B2
 ·rintro ρ H' ⟨B1,u1,a6,rfl⟩
  rw [qLm,List.take_length] at B1
  exact fin H' a6 B1 u1
end
section
variable {R:Nat→Bool→FT} {k:Nat} {H:AH} {N b:Nat} {ps:List Pm} {ss:List Sm} {qs:List (Option Nat×Pm)} {pA sA:AV} {turn many:Int} {PG:OutS→Prop} {r:List DS}
theorem Zm9 (C:BookR R) (P':PartsR R) (F:Folk H N qs) {fl:Bool} {m:Nat} (hm:many=m) (hml:m≤qs.length) (B:BookOf N H b ((qs.take m).map (pmf fl)) ss) (hpA:IsL N H pA (qs.map pv)) (hfew:ss.length≤100) {a5 a6 a7:Option AV}
  (fin:∀ (H':AH) (a5:Option AV),BookOf N H' b ((qs.take m).map (pmf fl)++(qs.drop m).map (·.2)) ss→Up N H H'→PG (seqS r [some pA,some sA,some (.int turn),some (.ref b),some (.int many),a5,a6,a7] H')):PG (seqS (forS false (.one 5) (slcE false (varE 0) (varE 4) (cstE .none) (cstE .none)) (ZbT (R (k+4)) false)::r) [some pA,some sA,some (.int turn),some (.ref b),some (.int many),a5,a6,a7] H):=by
 have hcut:slcA false pA (.int many) .none .none H=.ok (.lst ((qs.drop m).map pv)) H:=by
  rw [hm]
  refine (hpA.cut_from (Int.natCast_nonneg _) (by rw [qLm]; exact Int.ofNat_le.mpr hml) (by rw [qLm]; have:=F.few; exact le_t ‹_› rfl)).trans ?_
  rw [Int.toNat_natCast,List.map_drop]
 refine Zbt (a:=.lst ((qs.drop m).map pv)) (H₁:=H) (xs:=(qs.drop m).map pv) (Zec rfl rfl rfl rfl hcut) rfl rfl
  (fun j ρ H'=>A3 (BookOf N H' b ((qs.take m).map (pmf fl)++((qs.drop m).take j).map (·.2)) ss) (Up N H H') (∃ a5,ρ=[some pA,some sA,some (.int turn),some (.ref b),some (.int many),a5,a6,a7])) ⟨by simpa using B,Up.refl,_,rfl⟩ ?_ ?_
 ·rintro J j v ρ H' hv hI hJ
  obtain ⟨B1,u1,a5,rfl⟩:=hI
  rw [qGm] at hv
  refine x1_2 (oms hv) fun q hj e2'=>?_; subst e2'
  have hq:q∈qs:=List.mem_of_mem_drop (qMo hj)
  have hnd:=F.nodup
  have hjl:=(gsi hj).1
  rw [List.length_drop] at hjl
  have hf:=F.few
  have hqm:qs[m+j]?=some q:=by rw [List.getElem?_drop] at hj; exact hj
  have hnames:((qs.take m).map (pmf fl)++((qs.drop m).take j).map (·.2)).map (·.name)=(qs.take (m+j)).map (·.2.name):=by
   rw [qMa,Zep,ZaS,← qMa,← List.take_add]
  have hlen:((qs.take m).map (pmf fl)++((qs.drop m).take j).map (·.2)).length=m+j:=by
   simp only [qLa,qLm,qLt,List.length_drop]
   rw [Nat.min_eq_left ‹m≤qs.length›,Nat.min_eq_left (Nat.le_of_lt ‹_›)]
  have hnot:q.2.name∉((qs.take m).map (pmf fl)++((qs.drop m).take j).map (·.2)).map (·.name):=by
   rw [hnames,List.map_take]
   exact Za7 hnd (by rw [qGm,hqm]; rfl)
  show Nx _ _ ((_:DS) [some pA,some sA,some (.int turn),some (.ref b),some (.int many),some (pv q),a6,a7] H')
  obtain ⟨H2,run,B2,u2⟩:=Zew (k:=k) (q:=q) (ρ:=[some pA,some sA,some (.int turn),some (.ref b),some (.int many),some (pv q),a6,a7]) C B1 (F.ok q hq) hnot (by rw [hlen]; lia) rfl rfl
  refine ZaA run ?_
  obtain ⟨H3,run3,B3,u3⟩:=Zdd (k:=k) (i:=m+j) C P' B2 (by
   rw [qMa,hnames]
   have:(qs.take (m+j)).map (·.2.name)++[bare q.2].map (·.name)=(qs.take (m+j+1)).map (·.2.name):=by
    rw [ZaO (f:=fun x:Option Nat×Pm=>x.2.name) hqm]; rfl
   rw [this]
   exact List.Nodup.sublist ((List.take_sublist _ _).map _) hnd) (q:=q) (by rw [List.getElem?_append_right (by lia),hlen,Nat.sub_self]; rfl) (F.ok q hq) ((F.up (u1.trans u2)).rs q hq)
  refine ZaA (Zac (ZaI rfl rfl) run3) (Zam (hJ _ _ ⟨?_,(u1.trans u2).trans u3,_,rfl⟩))
  have:=Zh4 (l:=(qs.take m).map (pmf fl)++((qs.drop m).take j).map (·.2)) (x:=bare q.2) (y:=q.2)
  rw [hlen] at this
  rw [this,qAa] at B3
  rw [ZaO hj]
  exact B3
 ·rintro ρ H' ⟨B1,u1,a5,rfl⟩
  rw [qLm,List.take_length] at B1
  exact fin H' a5 B1 u1
theorem Zna (C:BookR R) (P':PartsR R) (F:Folk H N qs) (B:BookOf N H b (qs.map fun q=>bare q.2) ss) (hpA:IsL N H pA (qs.map pv)) {a5 a6 a7:Option AV}
  (fin:∀ (H':AH) (a5:Option AV),BookOf N H' b (qs.map (·.2)) ss→Up N H H'→PG (seqS r [some pA,some sA,some (.int turn),some (.ref b),some (.int many),a5,a6,a7] H')):PG (seqS (forS false (.one 5) (varE 0) (seqS [exprS (callE (R (k+4) false) 41 [(varE 3),(varE 5)])])::r) [some pA,some sA,some (.int turn),some (.ref b),some (.int many),a5,a6,a7] H):=by
 refine Zbk (N:=N) (a:=pA) (H₁:=H) (xs:=qs.map pv) rfl hpA
  (fun j ρ H'=>A3 (BookOf N H' b ((qs.take j).map (·.2)++(qs.drop j).map fun q=>bare q.2) ss) (Up N H H') (∃ a5,ρ=[some pA,some sA,some (.int turn),some (.ref b),some (.int many),a5,a6,a7])) ⟨B,Up.refl,_,rfl⟩ (fun j ρ H' h=>h.2) ?_ ?_
 ·rintro J j v ρ H' hv hI hJ
  obtain ⟨B1,u1,a5,rfl⟩:=hI
  rw [qGm] at hv
  refine x1_2 (oms hv) fun q hj e2'=>?_; subst e2'
  have hq:q∈qs:=qMo hj
  have hjl:=(gsi hj).1
  have hd:qs.drop j=q::qs.drop (j+1):=by
   rw [List.drop_eq_getElem_cons hjl,(gsi hj).2]
  have hl:((qs.take j).map (·.2)).length=j:=by rw [qLm]; exact Zia hj
  show Nx _ _ ((_:DS) [some pA,some sA,some (.int turn),some (.ref b),some (.int many),some (pv q),a6,a7] H')
  obtain ⟨H3,run3,B3,u3⟩:=Zdd (k:=k) (i:=j) C P' B1 (by
   rw [qMa,ZaS,Zih,← qMa,List.take_append_drop]
   exact F.nodup) (q:=q) (by rw [List.getElem?_append_right (by lia -abstractProof),hl,Nat.sub_self,hd]; rfl) (F.ok q hq) ((F.up u1).rs q hq)
  refine ZaA (Zac (ZaI rfl rfl) run3) (Zam (hJ _ _ ⟨?_,u1.trans u3,_,rfl⟩))
  have e:((qs.take j).map (·.2)++(qs.drop j).map fun q=>bare q.2).set j q.2=(qs.take (j+1)).map (·.2)++(qs.drop (j+1)).map fun q=>bare q.2:=by
   rw [List.set_append_right _ _ (by lia -abstractProof),hl,Nat.sub_self,hd,ZaO hj,qAa]; rfl
  rw [e] at B3
  exact B3
 ·rintro ρ H' ⟨B1,u1,a5,rfl⟩
  rw [qLm,List.take_length,List.drop_length,List.map_nil,List.append_nil] at B1
  exact fin H' a5 B1 u1
end
section
variable {H:AH} {N:Nat} {a:AV} {qs:List (Option Nat×Pm)} {ss:List Sm}
theorem ZaR {f:AV→Option PyData}:∀ {xs:List AV},(∀ x∈xs,∃ d,f x=some d)→∃ ds,denL f xs=some ds
 | [],_=>⟨[],rfl⟩
 | x::r,h=>by
  obtain ⟨d,hd⟩:=h x (.head _)
  obtain ⟨ds,hds⟩:=ZaR (f:=f) (xs:=r) fun y hy=>h y (.tail _ hy)
  exact ⟨d::ds,by show (f x).bind _=_; rw [hd]; show (denL f r).map _=_; rw [hds]; rfl⟩
theorem Zk7 {n:Nat} {xs:List Str}:∃ ds,denL (den (n+1) H) (xs.map .str)=some ds:=ZaR fun x hx=>by
 refine x1_2 (qMm hx) fun y _ e2'=>?_; subst e2'
 exact ⟨_,rfl⟩
theorem Zjh {n:Nat} {xs:List (Int×Int)}:∃ ds,denL (den (n+2) H) (xs.map stAV)=some ds:=ZaR fun x hx=>by
 refine x1_2 (qMm hx) fun y _ e2'=>?_; subst e2'
 exact ⟨_,rfl⟩
theorem Zjf {n:Nat} {xs:List (Str×Int)}:∃ ds,denL (den (n+2) H) (xs.map needAV)=some ds:=ZaR fun x hx=>by
 refine x1_2 (qMm hx) fun y _ e2'=>?_; subst e2'
 exact ⟨_,rfl⟩
theorem ZgQ {n:Nat} {xs:List AV} (h:∃ ds,denL (den n H) xs=some ds):∃ d,den (n+1) H (.lst xs)=some d:=by
 obtain ⟨ds,h⟩:=h
 exact ⟨.list ds,by show (denL (den n H) xs).map PyData.list=_; rw [h]; rfl⟩
theorem ZmM {n r:Nat} {xs:List AV} (e:H[r]?=some (.lst xs)) (h:∃ ds,denL (den n H) xs=some ds):∃ d,den (n+1) H (.ref r)=some d:=by
 obtain ⟨ds,h⟩:=h
 exact ⟨.list ds,by show (match H[r]? with | some (.lst xs)=>(denL (den n H) xs).map PyData.list | _=>none)=_; rw [e]; show (denL (den n H) xs).map PyData.list=_; rw [h]; rfl⟩
theorem Zji {n:Nat} {xs:List AV} (h:∃ ds,denL (den n H) xs=some ds):∃ d,den (n+1) H (.tup xs)=some d:=by
 obtain ⟨ds,h⟩:=h
 exact ⟨.tuple ds,by show (denL (den n H) xs).map PyData.tuple=_; rw [h]; rfl⟩
theorem Zmg {n:Nat} {q:Option Nat×Pm} (h:∀ r,q.1=some r→H[r]?=some (.lst (q.2.rests.map stAV))):∃ d,den (n+4) H (pv q)=some d:=by
 refine Zji (n:=n+3) (ZaR fun x hx=>?_)
 simp only [List.mem_cons,List.not_mem_nil,or_false] at hx
 rcases hx with rfl | rfl | rfl | rfl
 ·exact ⟨_,rfl⟩
 ·exact ZgQ (Zk7 (n:=n+1))
 ·exact ⟨_,rfl⟩
 ·obtain ⟨o,p⟩:=q
  cases o with
  | none=>exact ZgQ (Zjh (n:=n))
  | some r=>exact ZmM (h r rfl) (Zjh (n:=n))
theorem Zn7 {n:Nat} {s:Sm}:∃ d,den (n+4) H (SV s)=some d:=by
 refine Zji (n:=n+3) (ZaR fun x hx=>?_)
 simp only [List.mem_cons,List.not_mem_nil,or_false] at hx
 rcases hx with rfl | rfl | rfl
 ·exact ⟨_,rfl⟩
 ·exact ⟨_,rfl⟩
 ·exact ZgQ (Zjf (n:=n))
theorem IsL.eq_nil {ys:List AV} (h:IsL N H a ys) (hd:∃ ds,denL (den 19 H) ys=some ds):cmpA H .Eq a (.lst [])=some ys.isEmpty:=by
 obtain ⟨ds,hd⟩:=hd
 rcases h with rfl | ⟨r,rfl,hr,h⟩
 ·exact Mine.Internal.eq_nil hd
 ·rw [← Mine.Internal.eq_nil hd]
  show (den 20 H (.ref r)).bind _=(den 20 H (.lst ys)).bind _
  have:den 20 H (.ref r)=den 20 H (.lst ys):=by
   show (match H[r]? with | some (.lst xs)=>(denL (den 19 H) xs).map PyData.list | _=>none)=_
   rw [h]; rfl
  rw [this]
theorem IsL.ne_nil {ys:List AV} (h:IsL N H a ys) (hd:∃ ds,denL (den 19 H) ys=some ds):cmpA H .NotEq a (.lst [])=some (!ys.isEmpty):=by
 have:=h.eq_nil hd
 show (eqA H a (.lst [])).map (!·)=_
 rw [show eqA H a (.lst [])=some ys.isEmpty from this]; rfl
end
section
variable {R:Nat→Bool→FT} {k:Nat} {H:AH} {N b:Nat} {ps:List Pm} {ss:List Sm} {qs:List (Option Nat×Pm)} {pA sA:AV} {turn many:Int} {PG:OutS→Prop} {r:List DS}
theorem ZiE {a b:Int} (ha:0≤a∧a<1000000) (hb:0≤b∧b<1000000):srcOf H (.rng a b)=some (.seq (span a b),(b-a).toNat,none):=by
 have h1:small a=true:=ZeL ha.1 (Int.le_of_lt ha.2)
 have h2:small b=true:=ZeL hb.1 (Int.le_of_lt hb.2)
 unfold srcOf
 simp only [h1,h2,Bool.and_self,if_true]
theorem ZkD {a b:Int} {j:Nat} {v:AV} (hv:(span a b)[j]?=some v):∃ D:Int,a≤D∧D<b∧v=.int D:=by
 have hd:=(gsi hv).1
 rw [Zae] at hd
 unfold span at hv
 rw [qGm,List.getElem?_range hd] at hv
 refine ⟨a+j,by lia,by lia,?_⟩
 simpa using hv.symm
theorem Znb (C:BookR R) (P':PartsR R) (F:Folk H N qs) (B:BookOf N H b (qs.map (·.2)) ss) (hpA:IsL N H pA (qs.map pv)) (hsA:IsL N H sA (ss.map SV)) (hsok:∀ s∈ss,SmOK s) (hsf:ss.length≤100) {a5 a6 a7:Option AV}
  (fin:∀ (H':AH) (a7:Option AV),BookOf N H' b (qs.map (·.2)) ss→Up N H H'→PG (seqS r [some pA,some sA,some (.int turn),some (.ref b),some (.int many),a5,a6,a7] H')):PG (seqS (forS false (.one 7) (biE false .range [(subE (lstE false [(cstE (.int 0)),(cstE (.int 2))]) (biE false .int [(cmpE (varE 0) [.Eq] [(lstE false [])])])),(cstE (.int 6))]) (Zbb (R (k+4)) false)::r) [some pA,some sA,some (.int turn),some (.ref b),some (.int many),a5,a6,a7] H):=by
 have dp:∀ H',Folk H' N qs→∃ ds,denL (den 19 H') (qs.map pv)=some ds:=fun H' F'=>ZaR fun x hx=>by
  refine x1_2 (qMm hx) fun q hq e2'=>?_; subst e2'
  exact Zmg (n:=15) fun r e=>(F'.rs q hq r e).2
 have dsv:∀ H':AH,∃ ds,denL (den 19 H') (ss.map SV)=some ds:=fun H'=>ZaR fun x hx=>by
  refine x1_2 (qMm hx) fun q hq e2'=>?_; subst e2'
  exact Zn7 (n:=15)
 have e0:cmpA H .Eq pA (.lst [])=some (qs.map pv).isEmpty:=hpA.eq_nil (dp H F)
 obtain ⟨st,hst,hst2⟩:∃ st:Int,subA (.lst [.int 0,.int 2]) (.int (if (qs.map pv).isEmpty then 1 else 0)) H=.ok (.int st) H∧((st=0∧qs≠[])∨(st=2∧qs=[])):=by
  cases qs with
  | nil=>exact ⟨2,rfl,.inr ⟨rfl,rfl⟩⟩
  | cons q l=>exact ⟨0,rfl,.inl ⟨rfl,by simp⟩⟩
 refine Zbt (a:=.rng st 6) (H₁:=H) (xs:=span st 6) (e_bi (ZaI (Zab (by trivial) (by trivial) hst) rfl) rfl) (ZiE (by lia -abstractProof) (by decide)) (by rw [Zae])
  (fun j ρ H'=>A3 (BookOf N H' b (qs.map (·.2)) ss) (Up N H H') (∃ a7,ρ=[some pA,some sA,some (.int turn),some (.ref b),some (.int many),a5,a6,a7])) ⟨B,Up.refl,_,rfl⟩ ?_ ?_
 ·rintro J j v ρ H' hv hI hJ
  obtain ⟨B1,u1,a7,rfl⟩:=hI
  refine x1_3 (ZkD hv) fun D d0 d1 e3'=>?_; subst e3'
  show Nx _ _ ((_:DS) [some pA,some sA,some (.int turn),some (.ref b),some (.int many),a5,a6,some (.int D)] H')
  have hs':=hsA.up u1
  have hp':=hpA.up u1
  have e1:cmpA H' .NotEq sA (.lst [])=some (!(ss.map SV).isEmpty):=hs'.ne_nil (dsv H')
  refine p_if (x:=(!decide (D=2)) || !(ss.map SV).isEmpty) (H₁:=H') (by trivial) (fun h=>?_) fun h=>?_
  ·obtain ⟨H2,run,u2⟩:=ZiF (k:=k) (way:=D) C P' B1 (by rw [ZaS]; exact F.nodup) hp' hs' rfl F.ok hsok (by have:=F.few; exact Nat.le_of_lt (lt_t ‹_› rfl)) (by exact Nat.le_of_lt (lt_t ‹_› rfl)) (by lia -abstractProof) (fun q=>by
    rcases hst2 with ⟨_,h⟩ | ⟨h,_⟩
    ·exact h
    ·lia -abstractProof) (fun q e=>by subst q; subst e; simp at h)
   exact ZaA (P:=Th _ _) (Zac (ZeU rfl (ZaE rfl rfl rfl)) run) (ZaG (hJ _ _ ⟨B1.up u2,u1.trans (u2.mono B1.le),_,rfl⟩))
  ·exact ZaG (hJ _ _ ⟨B1,u1,_,rfl⟩)
 ·rintro ρ H' ⟨B1,u1,a7,rfl⟩
  exact fin H' a7 B1 u1
theorem Zn5 (C:BookR R) (P':PartsR R) (F:Folk H H.length qs) (hpA:IsL H.length H pA (qs.map pv)) (hsA:IsL H.length H sA (ss.map SV)) (hsok:∀ s∈ss,SmOK s) (hsn:(ss.map (·.name)).Nodup) (hsf:ss.length≤100)
  (fin:∀ H',BookOf H.length H' H.length (qs.map (·.2)) ss→Up H.length H H'→PG (.ret (.ref H.length) H')):PG (ZbS (R (k+4)) false (rho0 [pA,sA,.int turn] 8) H):=by
 refine Zal (Zhv (k:=k+3) C) ?_
 have B0:BookOf H.length _ H.length [] []:=BookOf.new (H:=H)
 have u0:Up H.length H (H++[.inst 2 (bfs (H.length+1) (H.length+2)),.dict [],.dict []]):=Up.app
 generalize (H++[.inst 2 (bfs (H.length+1) (H.length+2)),.dict [],.dict []])=H1 at B0 u0
 have F1:=F.up u0
 have hp1:=hpA.up u0
 have hs1:=hsA.up u0
 have hlen:biA false .len [pA] H1=.ok (.int qs.length) H1:=(hp1.len (by rw [qLm]; have:=F.few; exact Nat.le_of_lt (lt_t ‹_› rfl))).trans (by rw [qLm])
 have hmod:0≤turn / 4%((qs.length:Int)+1)∧turn / 4%((qs.length:Int)+1)<(qs.length:Int)+1:=⟨Int.emod_nonneg _ (Int.ne_of_gt Zly),Int.emod_lt_of_pos _ Zly⟩
 have hqf:=F.few
 generalize hmany:(if turn%4=0 then (qs.length:Int) else if turn%4=1 then 0 else if turn%4=2 then turn / 4%((qs.length:Int)+1) else qs.length)=many
 have hm0:0≤many∧many≤qs.length∧(turn%4=3→many=qs.length):=by
  rw [← hmany]
  repeat' split
  all_goals first | exact ⟨Int.natCast_nonneg _,Int.le_refl _,fun _=>rfl⟩ | exact ⟨Int.le_refl _,Int.natCast_nonneg _,fun h=>absurd (h.symm.trans ‹_›) (by decide)⟩ | exact ⟨hmod.1,Int.le_of_lt_add_one hmod.2,fun h=>absurd (h.symm.trans ‹_›) (by decide)⟩ | omega
 refine Zal (a:=.int many) (H₁:=H1) (by rw [← hmany]; trivial) ?_
 obtain ⟨m,hm⟩:∃ m:Nat,many=m:=⟨many.toNat,(Int.toNat_of_nonneg hm0.1).symm⟩
 refine Zm7 (m:=m) C P' F1 B0 hp1 hm (Int.ofNat_le.mp (hm▸hm0.2.1)) ?_
 intro H2 a5 B2 u2
 refine Zm8 C B2 (hs1.up u2) hsok hsn hsf (by rw [qLm,qLt]; exact ZoY hqf) ?_
 intro H3 a6 B3 u3
 have u13:=u2.trans u3
 refine Zm9 (m:=m) C P' (F1.up u13) hm (Int.ofNat_le.mp (hm▸hm0.2.1)) B3 (hp1.up u13) hsf ?_
 intro H4 a5' B4 u4
 have u14:=u13.trans u4
 have last:∀ (H5:AH) (a5:Option AV),BookOf H.length H5 H.length (qs.map (·.2)) ss→Up H.length H1 H5→PG (seqS [forS false (.one 7) (biE false .range [(subE (lstE false [(cstE (.int 0)),(cstE (.int 2))]) (biE false .int [(cmpE (varE 0) [.Eq] [(lstE false [])])])),(cstE (.int 6))]) (Zbb (R (k+4)) false),retS (varE 3)] [some pA,some sA,some (.int turn),some (.ref H.length),some (.int many),a5,a6,none] H5):=by
  intro H5 a5 B5 u5
  refine Znb C P' (F1.up u5) B5 (hp1.up u5) (hs1.up u5) hsok hsf ?_
  intro H6 a7 B6 u6
  exact ZaZ rfl (fin H6 B6 ((u0.trans u5).trans u6))
 refine p_if (x:=decide (turn%4=3)) (H₁:=H4) (by trivial) (fun h=>?_) fun h=>?_
 ·have h3:turn%4=3:=by simpa using h
  have hmq:m=qs.length:=Int.ofNat.inj (hm.symm.trans (hm0.2.2 h3))
  have e:(qs.take m).map (pmf (!decide (turn%4=3)))++(qs.drop m).map (·.2)=qs.map fun q=>bare q.2:=by
   rw [h,hmq,List.take_length,List.drop_length,List.map_nil,List.append_nil]; rfl
  rw [e] at B4
  exact Zna (PG:=Th _ _) C P' (F1.up u14) B4 (hp1.up u14) fun H5 a5 B5 u5=>ZdH (last H5 a5 B5 (u14.trans u5))
 ·have e:(qs.take m).map (pmf (!decide (turn%4=3)))++(qs.drop m).map (·.2)=qs.map (·.2):=by
   rw [h]
   show (qs.take m).map (·.2)++_=_
   rw [← qMa,List.take_append_drop]
  rw [e] at B4
  exact ZdH (last H4 a5' B4 u14)
theorem Zk0 (C:BookR R) (P':PartsR R) (F:Folk H H.length qs) (hpA:IsL H.length H pA (qs.map pv)) (hsA:IsL H.length H sA (ss.map SV)) (hsok:∀ s∈ss,SmOK s) (hsn:(ss.map (·.name)).Nodup) (hsf:ss.length≤100) :
  ∃ H',R (k+5) false 43 [pA,sA,.int turn] H=.ok (.ref H.length) H'∧BookOf H.length H' H.length (qs.map (·.2)) ss∧Up H.length H H':=by
 rw [P'.book_of _ _ _ _ rfl]
 exact Zn5 (PG:=fun o=>∃ H',o.done=.ok (.ref H.length) H'∧BookOf H.length H' H.length (qs.map (·.2)) ss∧Up H.length H H') C P' F hpA hsA hsok hsn hsf fun H' B u=>⟨H',rfl,B,u⟩
end
structure ReadR (R:Nat→Bool→FT):Prop where
 people:RunAt R 18 1 1 Zbn
 posts:RunAt R 20 1 5 ZbC
 limit_of:RunAt R 23 2 2 Za1
 stretch_of:RunAt R 24 2 2 ZaQ
 count_of:RunAt R 25 3 5 Za0
 day_at:RunAt R 27 2 2 Zd4
noncomputable def postAV (p:Str×Str):AV:=.tup [.str p.1,.str p.2]
noncomputable def postsS (s:Sm):List (Str×Str):=s.needs.map fun n=>(s.name,n.1)
noncomputable def postsM (ss:List Sm):List (Str×Str):=ss.flatMap postsS
section
variable {PG:OutS→Prop} {ρ:RE} {H H₁:AH} {r:List DS} {b:DS} {N:Nat} {a:AV} {xs:List AV}
theorem Zox {i m:Nat} {it:DE} {es:List (Key×AV)} (h:it ρ H=.ok (.ref m) H₁) (hr:H₁[m]?=some (.dict es)) (Inv:Nat→RE→AH→Prop) (i0:Inv 0 ρ (H₁.set m (.ldict es))) (hl:∀ j ρ H,Inv j ρ H→H[m]?=some (.ldict es))
  (step:∀ (J:RE→AH→Prop) (j:Nat) v ρ H,(es.map fun e=>e.1.av)[j]?=some v→Inv j ρ H→(∀ ρ' H',Inv (j+1) ρ' H'→J ρ' H')→Nx J (fun _=>False) (b (ρ.set i (some v)) H)) (fin:∀ ρ H,Inv es.length ρ H→PG (seqS r ρ (H.set m (.dict es)))):PG (seqS (forS false (.one i) it b::r) ρ H):=by
 show PG ((forS false (.one i) it b ρ H).then _)
 unfold forS
 rw [h]
 have hs:srcOf H₁ (.ref m)=some (.seq (es.map fun e=>e.1.av),es.length,some m):=by
  show (match H₁[m]? with | some (.lst xs)=>some (Src.lref m,xs.length,none) | some (.dict es)=>some (.seq (es.map fun e=>e.1.av),es.length,some m) | _=>none:Option (Src×Nat×Option Nat))=_
  rw [hr]
 have hk:lockH (some m) H₁=H₁.set m (.ldict es):=by
  show (match H₁[m]? with | some (.dict es)=>H₁.set m (.ldict es) | _=>H₁)=_
  rw [hr]
 show PG ((orBadS (srcOf H₁ (.ref m)) _).then _)
 rw [hs]
 show PG (((loopS (fun v ρ H=>b (ρ.set i (some v)) H) (.seq (es.map fun e=>e.1.av)) es.length 0 ρ (lockH (some m) H₁)).free (some m)).then _)
 rw [hk]
 refine Zce (xs:=es.map fun e=>e.1.av) (P:=fun o=>PG ((o.free (some m)).then (seqS r))) Inv (fun j v ρ H e q=>?_) (fun ρ H q=>?_) es.length 0 _ _ (by simp) i0
 ·rcases ZdP (step (Inv (j+1)) j v ρ H e q fun _ _ h=>h) with h | ⟨_,_,_,h⟩ | ⟨_,_,_,_,h⟩
  ·exact .inl h
  ·exact h.elim
  ·exact h.elim
 ·rw [qLm] at q
  have:freeH (some m) H=H.set m (.dict es):=by
   show (match H[m]? with | some (.ldict es)=>H.set m (.dict es) | _=>H)=_
   rw [hl _ _ _ q]
  show PG (seqS r ρ (freeH (some m) H))
  rw [this]
  exact fin ρ H q
theorem Zg6 {is:List Nat} {it:DE} (h:it ρ H=.ok a H₁) (hl:IsL N H₁ a xs) (Inv:Nat→RE→AH→Prop) (i0:Inv 0 ρ H₁) (hup:∀ j ρ H',Inv j ρ H'→Up N H₁ H')
  (step:∀ (J:RE→AH→Prop) (j:Nat) v ρ H,xs[j]?=some v→Inv j ρ H→(∀ ρ' H',Inv (j+1) ρ' H'→J ρ' H')→∃ ρ₁,bindT false (.many is) v ρ=some ρ₁∧Nx J PG (b ρ₁ H)) (fin:∀ ρ H,Inv xs.length ρ H→PG (seqS r ρ H)):PG (seqS (forS false (.many is) it b::r) ρ H):=by
 show PG ((forS false (.many is) it b ρ H).then _)
 have st:∀ (j:Nat) v ρ H,xs[j]?=some v→Inv j ρ H→(∃ ρ' H',(orBadS (bindT false (.many is) v ρ) fun ρ₁=>b ρ₁ H)=.next ρ' H'∧Inv (j+1) ρ' H')∨(∃ a H',(orBadS (bindT false (.many is) v ρ) fun ρ₁=>b ρ₁ H)=.ret a H'∧PG (OutS.then (.ret a H') (seqS r)))∨∃ c ρ' H',(orBadS (bindT false (.many is) v ρ) fun ρ₁=>b ρ₁ H)=.exc c ρ' H'∧PG (OutS.then (.exc c ρ' H') (seqS r)):=by
  intro j v ρ H e q
  refine x1_2 (step (Inv (j+1)) j v ρ H e q fun _ _ h=>h) fun ρ₁ e1 n=>?_
  rw [e1]
  exact ZdP n
 rcases hl with rfl | ⟨m,rfl,hm,hl⟩
 ·rw [Zfk h rfl]
  exact Zce (P:=fun o=>PG (o.then (seqS r))) Inv st fin _ 0 ρ H₁ (by lia) i0
 ·unfold forS
  rw [h]
  have hs:srcOf H₁ (.ref m)=some (.lref m,xs.length,none):=by
   show (match H₁[m]? with | some (.lst xs)=>some (Src.lref m,xs.length,none) | some (.dict es)=>some (.seq (es.map fun e=>e.1.av),es.length,some m) | _=>none:Option (Src×Nat×Option Nat))=_
   rw [hl]
  show PG ((orBadS (srcOf H₁ (.ref m)) _).then _)
  rw [hs]
  show PG ((OutS.free none (loopS _ (.lref m) xs.length 0 ρ H₁)).then _)
  rw [ZcZ]
  exact ZhT (P:=fun o=>PG (o.then (seqS r))) Inv (fun j ρ H' q=>((hup j ρ H' q).2 m hm).trans hl) st fin _ 0 ρ H₁ (by lia) i0
theorem Zma {n:Nat} {es:List (Key×AV)} {x:Str} {v:AV} (h:H[n]?=some (.ldict es)) (hx:es.lookup (.str x)=some v):subA (.ref n) (.str x) H=.ok v H:=by
 have:dcOf H (.ref n)=some (n,es):=by
  show (match H[n]? with | some (.dict es)=>some (n,es) | some (.ldict es)=>some (n,es) | _=>none)=_; rw [h]
 unfold subA
 rw [this]
 show orBad (es.lookup (.str x)) _=_
 rw [hx]; rfl
end
section
variable {R:Nat→Bool→FT} {k:Nat} {H:AH} {N b fd wd:Nat} {prs:List PR} {srs:List SR} {ps:List Pm} {ss:List Sm} {PG:OutS→Prop}
theorem ZbY {α β:Type} {f:α→List β} {l:List α} {j:Nat} {x:α} (h:l[j]?=some x):(l.take (j+1)).flatMap f=(l.take j).flatMap f++f x:=by
 rw [List.take_add_one,h]; simp
theorem ZiA (j:Nat):(postsM ((srs.take j).map (·.2))).length≤(postsM (srs.map (·.2))).length:=by
 unfold postsM
 rw [List.map_take]
 generalize srs.map (·.2)=l
 have e:l.flatMap postsS=(l.take j).flatMap postsS++(l.drop j).flatMap postsS:=by rw [← List.flatMap_append,List.take_append_drop]
 rw [e,qLa]
 exact Nat.le_add_right _ _
theorem Znq (A:BookAt H b fd wd prs srs) (hsn:(srs.map (·.2.name)).Nodup) (hnf:∀ s∈srs,s.2.needs.length≤1000) (hpf:(postsM (srs.map (·.2))).length≤10000) (fin:PG (.ret (.ref H.length) (H++[.lst ((postsM (srs.map (·.2))).map postAV)]))) :
  PG (ZbC (R k) false (rho0 [.ref b] 5) H):=by
 refine Zal (a:=.ref H.length) (H₁:=H++[AO.lst []]) rfl ?_
 have hlt:=A.lt
 have hwd:wd<H.length:=hlt _ (.tail _ (.tail _ (.head _)))
 have hbl:b<H.length:=hlt _ (.head _)
 have nd:=A.nodup
 have hbw:b≠wd:=by
  intro q
  unfold bRefs at nd
  rw [List.nodup_cons] at nd
  exact nd.1 (by rw [q]; exact .tail _ (.head _))
 have hsw:∀ s∈srs,s.1.1≠wd∧s.1.2≠wd:=by
  intro s hs
  unfold bRefs at nd
  rw [List.nodup_cons,List.nodup_cons,List.nodup_cons] at nd
  have hm:∀ n∈sRefs s,n∈prs.flatMap pRefs++srs.flatMap sRefs:=fun n hn=>List.mem_append.mpr (.inr (List.mem_flatMap.mpr ⟨s,hs,hn⟩))
  exact ⟨fun q=>nd.2.2.1 (q▸hm _ (.head _)),fun q=>nd.2.2.1 (q▸hm _ (.tail _ (.head _)))⟩
 have hset:∀ x:AO,(H++[x]).set wd (.ldict (workD srs))=H.set wd (.ldict (workD srs))++[x]:=fun x=>List.set_append_left _ _ hwd
 have hset2:∀ x:AO,(H.set wd (.ldict (workD srs))++[x]).set wd (.dict (workD srs))=H++[x]:=fun x=>by
  rw [List.set_append_left _ _ (by rw [List.length_set]; exact hwd),List.set_set]
  congr 1
  refine List.ext_getElem? fun j=>?_
  rw [List.getElem?_set]
  split
  ·rename_i e
   subst e
   first
    | (rw [A.work]; simp [hwd]; done)
    | (rw [A.work]; done)
  ·rfl
 have hget:∀ (x:AO) n,n<H.length→n≠wd→(H.set wd (.ldict (workD srs))++[x])[n]?=H[n]?:=fun x n h1 h2=>by
  rw [qGl (by rw [List.length_set]; exact h1),Zaf (Ne.symm h2)]
 have hwl:∀ x:AO,(H.set wd (.ldict (workD srs))++[x])[wd]?=some (.ldict (workD srs)):=fun x=>by
  rw [qGl (by rw [List.length_set]; exact hwd),ZaB hwd]
 have hlast:∀ x:AO,(H.set wd (.ldict (workD srs))++[x])[H.length]?=some x:=fun x=>by
  have:=Zaj (H:=H.set wd (.ldict (workD srs))) (o:=x)
  rw [List.length_set] at this
  exact this
 have hslast:∀ x y:AO,(H.set wd (.ldict (workD srs))++[x]).set H.length y=H.set wd (.ldict (workD srs))++[y]:=fun x y=>by
  have:=Zdf (H:=H.set wd (.ldict (workD srs))) (o:=x) (o':=y)
  rw [List.length_set] at this
  exact this
 refine Zox (m:=wd) (es:=workD srs) (H₁:=H++[AO.lst []]) (Zas rfl ((qGl hbl).trans A.book) rfl) ((qGl hwd).trans A.work)
  (fun j ρ H'=>A2 (H'=H.set wd (.ldict (workD srs))++[AO.lst ((postsM ((srs.take j).map (·.2))).map postAV)]) (Ex3 fun a2 a3 a4=>ρ=[some (.ref b),some (.ref H.length),a2,a3,a4])) ⟨hset _,_,_,_,rfl⟩ (fun j ρ H' h=>by rw [h.1]; exact hwl _) ?_ ?_
 ·rintro J j v ρ H' hv hI hJ
  obtain ⟨rfl,a2,a3,a4,rfl⟩:=hI
  unfold workD at hv
  rw [List.map_map,qGm] at hv
  refine x1_2 (oms hv) fun s hj e2'=>?_; subst e2'
  have hs:=qMo hj
  have S:=A.sat s hs
  have g1:∀ x:AO,(H.set wd (.ldict (workD srs))++[x])[s.1.1]?=some (.inst 1 (sfs s.2.hours s.1.2)):=fun x=>(hget x _ (gsi S.ob).1 (hsw s hs).1).trans S.ob
  have g2:∀ x:AO,(H.set wd (.ldict (workD srs))++[x])[s.1.2]?=some (.lst (s.2.needs.map needAV)):=fun x=>(hget x _ (gsi S.nd).1 (hsw s hs).2).trans S.nd
  have l2:s.1.2<H.length:=(gsi S.nd).1
  show Nx _ _ ((_:DS) [some (.ref b),some (.ref H.length),some (.str s.2.name),a3,a4] _)
  refine Zg6 (N:=H.length) (a:=.ref s.1.2) (xs:=s.2.needs.map needAV) (Zas (Zab (Zas rfl ((hget _ _ hbl hbw).trans A.book) rfl) rfl (Zma (hwl _) (Zml hs hsn))) (g1 _) rfl) (.inr ⟨_,rfl,l2,g2 _⟩)
   (fun i ρ H'=>A2 (H'=H.set wd (.ldict (workD srs))++[AO.lst ((postsM ((srs.take j).map (·.2))++(s.2.needs.take i).map fun n=>(s.2.name,n.1)).map postAV)]) (Ex2 fun a3 a4=>ρ=[some (.ref b),some (.ref H.length),some (.str s.2.name),a3,a4])) ⟨by simp,_,_,rfl⟩ (fun i ρ H' h=>?_) ?_ ?_
  ·rw [h.1]
   refine ⟨by simp,fun n hn=>?_⟩
   rw [qGl (by rw [List.length_set]; exact hn),qGl (by rw [List.length_set]; exact hn)]
  ·rintro J i v ρ H' hv hI hJ
   obtain ⟨rfl,a3,a4,rfl⟩:=hI
   rw [qGm] at hv
   refine x1_2 (oms hv) fun n hi e2'=>?_; subst e2'
   refine ⟨[some (.ref b),some (.ref H.length),some (.str s.2.name),some (.str n.1),some (.int n.2)],rfl,?_⟩
   have hil:=(gsi hi).1
   refine ZaA (a:=.none) (Zax rfl (hlast _) (Zaa (ZcC (ZaI rfl rfl) (by simp))) (hlast _) (by rw [qLm,qLa,qLm,qLt]; have:=hnf s hs; have:=hpf; have:=ZiA (srs:=srs) j; lia)) ?_
   ·refine Zam (hJ _ _ ⟨?_,_,_,rfl⟩)
    rw [hslast,List.take_add_one,hi]
    simp [postAV]
  ·rintro ρ H' ⟨rfl,a3,a4,rfl⟩
   refine Zam (hJ _ _ ⟨?_,_,_,_,rfl⟩)
   congr 4
   rw [qLm,List.take_length]
   unfold postsM
   rw [List.map_take,List.map_take,ZbY (x:=s.2) (by rw [qGm,hj]; rfl)]
   rfl
 ·rintro ρ H' ⟨rfl,a2,a3,a4,rfl⟩
  rw [Zif,List.take_length]
  refine ZaZ rfl ?_
  rw [hset2]
  exact fin
end
section
variable {R:Nat→Bool→FT} {k:Nat} {hot:Bool} {H:AH} {N b:Nat} {ps:List Pm} {ss:List Sm} {PG:OutS→Prop}
structure Good (ps:List Pm) (ss:List Sm):Prop where
 pn:(ps.map (·.name)).Nodup
 sn:(ss.map (·.name)).Nodup
 nf:∀ s∈ss,s.needs.length≤6
 nn:∀ s∈ss,(s.needs.map (·.1)).Nodup
 pf:ps.length≤100
 sf:ss.length≤100
 rf:∀ p∈ps,p.rests.length≤1000
theorem Zgh {l:List Sm} (h:∀ s∈l,s.needs.length≤6):(postsM l).length≤6*l.length:=by
 induction l with
 | nil=>simp [postsM]
 | cons s r ih =>
  have:=ih fun x hx=>h x (.tail _ hx)
  have h1:=h s (.head _)
  unfold postsM at this ⊢
  rw [List.flatMap_cons,qLa,List.length_cons]
  have:(postsS s).length=s.needs.length:=by unfold postsS; simp
  lia
theorem Zh0 (Q:ReadR R) (B:BookOf N H b ps ss) (G:Good ps ss):R (k+1) false 20 [.ref b] H=.ok (.ref H.length) (H++[.lst ((postsM ss).map postAV)]):=by
 rw [Q.posts _ _ _ _ rfl]
 have:=Zgh G.nf
 have:=G.sf
 have gn:=G.sn
 have gf:=G.nf
 refine x4_4 (B.ex) fun fd wd prs srs A e5' e6' hN=>?_; subst e5'; subst e6'
 exact Znq (PG:=fun o=>o.done=.ok (.ref H.length) (H++[.lst ((postsM (srs.map (·.2))).map postAV)])) A (by simpa [Function.comp_def] using gn) (fun s hs=>Nat.le_trans (gf s.2 (List.mem_map_of_mem hs)) (by decide)) (by lia -abstractProof) rfl
theorem Zc9 (Q:ReadR R) (B:BookOf N H b ps ss):R (k+1) false 18 [.ref b] H=.ok (.lst (ps.map fun p=>.str p.name)) H:=by
 rw [Q.people _ _ _ _ rfl]
 refine x4_4 (B.ex) fun fd wd prs srs A e5' e6' hN=>?_; subst e5'; subst e6'
 suffices q:Zbn (R k) false (rho0 [.ref b] 1) H=.ret (.lst ((prs.map (·.2)).map fun p=>.str p.name)) H by rw [q]; rfl
 refine Zbh (e_bi (Zaa (Zas rfl A.book rfl)) ?_)
 show (match dcOf H (.ref fd) with
   | some (_,es)=>if !false && decide (es.length≤1000000) then newL false (es.map fun (e:Key×AV)=>e.1.av) H else .bad
   | none=>orBad (lsOf H (.ref fd)) fun xs=>if xs.length≤sizeLine then newL false xs H else .bad)=_
 rw [ZmK A.folk]
 have:=A.few
 show (if (!false && decide ((folkD prs).length≤1000000))=true then _ else _)=_
 rw [ZhI,if_pos (by simp; lia)]
 show Out.ok (AV.lst ((folkD prs).map fun e=>e.1.av)) H=_
 unfold folkD
 rw [List.map_map,List.map_map]
 rfl
theorem limit_of (C:BookR R) (Q:ReadR R) (B:BookOf N H b ps ss) (hn:(ps.map (·.name)).Nodup) {p:Pm} (hp:p∈ps):R (k+2) hot 23 [.ref b,.str p.name] H=.ok (.int p.limit) H:=by
 rw [Q.limit_of _ _ _ _ rfl]
 refine x4_4 (B.ex) fun fd wd prs srs A e5' e6' hN=>?_; subst e5'; subst e6'
 refine x1_2 (qMm hp) fun q hq e2'=>?_; subst e2'
 suffices z:Za1 (R (k+1)) hot (rho0 [.ref b,.str q.2.name] 2) H=.ret (.int q.2.limit) H by rw [z]; rfl
 exact Zbh (Zas (e_mo rfl A.book (i:=16) rfl (Zaa rfl) (Za8 C A (by simpa [Function.comp_def] using hn) hq)) (A.pat q hq).ob rfl)
theorem stretch_of (C:BookR R) (Q:ReadR R) (B:BookOf N H b ps ss) (hn:(ss.map (·.name)).Nodup) {s:Sm} (hs:s∈ss):R (k+2) hot 24 [.ref b,.str s.name] H=.ok (stAV s.hours) H:=by
 rw [Q.stretch_of _ _ _ _ rfl]
 refine x4_4 (B.ex) fun fd wd prs srs A e5' e6' hN=>?_; subst e5'; subst e6'
 refine x1_2 (qMm hs) fun q hq e2'=>?_; subst e2'
 suffices z:ZaQ (R (k+1)) hot (rho0 [.ref b,.str q.2.name] 2) H=.ret (stAV q.2.hours) H by rw [z]; rfl
 exact Zbh (Zas (e_mo rfl A.book (i:=17) rfl (Zaa rfl) (Zer C A (by simpa [Function.comp_def] using hn) hq)) (A.sat q hq).ob rfl)
theorem day_at (C:BookR R) (Q:ReadR R) (B:BookOf N H b ps ss) (hn:(ss.map (·.name)).Nodup) {s:Sm} (hs:s∈ss):R (k+3) hot 27 [.ref b,.str s.name] H=.ok (.int (s.hours.1 / 24)) H:=by
 rw [Q.day_at _ _ _ _ rfl]
 obtain ⟨fs,hb⟩:=B.at
 suffices z:Zd4 (R (k+2)) hot (rho0 [.ref b,.str s.name] 2) H=.ret (.int (s.hours.1 / 24)) H by rw [z]; rfl
 exact Zbh (Zac (Zaa (e_mo rfl hb (i:=24) rfl (Zaa rfl) (stretch_of C Q B hn hs))) (Zja C))
theorem Zoo (C:BookR R) (D:MayR R) (B:BookOf N H b ps ss) (G:Good ps ss) {p:Pm} {s:Sm} (hp:p∈ps) (hs:s∈ss) {x:Str}:R (k+2) false 26 [.ref b,.str p.name,.str s.name,.str x] H=.ok (.bool (mayM p s x)) H:=by
 have g1:=G.pn
 have g2:=G.sn
 have g3:=G.rf p hp
 refine x4_4 (B.ex) fun fd wd prs srs A e5' e6' hN=>?_; subst e5'; subst e6'
 refine x1_2 (qMm hp) fun q hq e2'=>?_; subst e2'
 refine x1_2 (qMm hs) fun z hz e2'=>?_; subst e2'
 exact Znd C D A (by simpa [Function.comp_def] using g1) (by simpa [Function.comp_def] using g2) hq hz (le_t ‹_› rfl)
theorem Zfi {x y:Str}:cmpA H .Eq (.str x) (.str y)=some (decide (x=y)):=by
 show some (PyData.eqv (.str x) (.str y))=_
 rw [Zbr]
theorem ZmI (C:BookR R) (B:BookOf N H b ps ss) (G:Good ps ss) {s:Sm} (hs:s∈ss) {n:Str×Int} (hn:n∈s.needs) (fin:PG (.ret (.int n.2) H)):PG (Za0 (R (k+1)) false (rho0 [.ref b,.str s.name,.str n.1] 5) H):=by
 have g1:=G.sn
 have g2:=G.nn s hs
 have g3:=G.nf s hs
 refine x4_4 (B.ex) fun fd wd prs srs A e5' e6' hN=>?_; subst e5'; subst e6'
 refine x1_2 (qMm hs) fun q hq e2'=>?_; subst e2'
 have S:=A.sat q hq
 refine Zg6 (N:=H.length) (a:=.ref q.1.2) (H₁:=H) (xs:=q.2.needs.map needAV) (Zas (e_mo rfl A.book (i:=17) rfl (Zaa rfl) (Zer C A (by simpa [Function.comp_def] using g1) hq)) S.ob rfl) (.inr ⟨_,rfl,(gsi S.nd).1,S.nd⟩)
  (fun j ρ H'=>A3 (H'=H) (n.1∉(q.2.needs.take j).map (·.1)) (Ex2 fun a3 a4=>ρ=[some (.ref b),some (.str q.2.name),some (.str n.1),a3,a4])) ⟨rfl,by simp,_,_,rfl⟩ (fun j ρ H' h=>by rw [h.1]; exact Up.refl) ?_ ?_
 ·rintro J j v ρ H' hv hI hJ
  obtain ⟨rfl,hno,a3,a4,rfl⟩:=hI
  rw [qGm] at hv
  refine x1_2 (oms hv) fun m hj e2'=>?_; subst e2'
  refine ⟨[some (.ref b),some (.str q.2.name),some (.str n.1),some (.str m.1),some (.int m.2)],rfl,?_⟩
  refine p_if (x:=decide (m.1=n.1)) (H₁:=H') (Zai rfl rfl Zfi) (fun h=>?_) fun h=>?_
  ·have h:m.1=n.1:=by simpa using h
   have:m=n:=by
    obtain ⟨i,hi,e⟩:=List.mem_iff_getElem.mp hn
    have hjl:=(gsi hj).1
    have e2:(q.2.needs.map (·.1))[i]'(by simpa using hi)=(q.2.needs.map (·.1))[j]'(by simpa using hjl):=by
     rw [List.getElem_map,List.getElem_map,e,(gsi hj).2,h]
    have:=(List.getElem_inj g2).mp e2
    subst this
    rw [← e,(gsi hj).2]
   subst this
   exact ZaZ (P:=Th _ _) rfl fin
  ·have h:¬ m.1=n.1:=by simpa using h
   refine ZaG (hJ _ _ ⟨rfl,?_,_,_,rfl⟩)
   rw [ZaO (f:=fun n:Str×Int=>n.1) hj]
   simp only [List.mem_append,List.mem_singleton,not_or]
   exact ⟨hno,fun e=>h e.symm⟩
 ·rintro ρ H' ⟨rfl,hno,a3,a4,rfl⟩
  rw [qLm,List.take_length] at hno
  exact absurd (List.mem_map_of_mem hn) hno
theorem count_of (C:BookR R) (Q:ReadR R) (B:BookOf N H b ps ss) (G:Good ps ss) {s:Sm} (hs:s∈ss) {n:Str×Int} (hn:n∈s.needs):R (k+2) false 25 [.ref b,.str s.name,.str n.1] H=.ok (.int n.2) H:=by
 rw [Q.count_of _ _ _ _ rfl]
 exact ZmI (PG:=fun o=>o.done=.ok (.int n.2) H) C B G hs hn rfl
theorem Zfj {x y:Str×Str}:PyData.eqv (.tuple [.str x.1,.str x.2]) (.tuple [.str y.1,.str y.2])=decide (x=y):=by
 have:PyData.eqv (.tuple [.str x.1,.str x.2]) (.tuple [.str y.1,.str y.2])=(PyData.eqv (.str x.1) (.str y.1) && (PyData.eqv (.str x.2) (.str y.2) && true)):=by
  simp [PyData.eqv,PyData.eqvAll]
 rw [this,Zbr,Zbr,Bool.and_true]
 obtain ⟨a,b⟩:=x
 obtain ⟨c,d⟩:=y
 by_cases h1:a=c<;>by_cases h2:b=d<;>simp [h1,h2]
theorem Zjg {n:Nat} {xs:List (Str×Str)}:denL (den (n+2) H) (xs.map postAV)=some (xs.map fun x=>.tuple [.str x.1,.str x.2]):=by
 induction xs with
 | nil=>rfl
 | cons r l ih=>show ((den (n+2) H (postAV r)).bind fun d=>(denL (den (n+2) H) (l.map postAV)).map (d::·))=_; rw [ih]; rfl
theorem Zfq {a:AV} {x:Str×Str} {xs:List (Str×Str)} (hd:dcOf H a=none) (h:lsOf H a=some (xs.map postAV)):cmpA H .In (postAV x) a=some (decide (x∈xs)):=by
 show inA H (postAV x) a=_
 unfold inA
 rw [hd,h]
 show ((some (PyData.tuple [.str x.1,.str x.2])).bind fun d=>(denL (den deep H) (xs.map postAV)).map fun ds=>ds.any fun y=>PyData.eqv y d)=_
 rw [show denL (den deep H) (xs.map postAV)=_ from Zjg (n:=18)]
 show some ((xs.map fun x=>PyData.tuple [.str x.1,.str x.2]).any fun y=>PyData.eqv y (.tuple [.str x.1,.str x.2]))=_
 congr 1
 rw [Bool.eq_iff_iff]
 simp only [List.any_eq_true,List.mem_map,decide_eq_true_eq]
 constructor
 ·rintro ⟨_,⟨y,hy,rfl⟩,e⟩
  rw [Zfj,decide_eq_true_eq] at e
  exact e▸hy
 ·intro h
  exact ⟨_,⟨x,h,rfl⟩,by rw [Zfj]; simp⟩
end
section
variable {α:Type} {l:List α} {fx fy:α→AV} {p:α→Bool} {ρ:RE} {H H₁:AH} {a:AV} {mt:Bool}
theorem Zbq {elt it cond:DE} {o:Out AV} (h:it ρ H=.ok a H₁) (hl:IsL H₁.length H₁ a (l.map fx)) (hn:l.length≤1000000) (hT:∀ x∈l,cond (ρ++[some (fx x)]) H₁=.ok (.bool (p x)) H₁) (hE:∀ x∈l,p x=true→elt (ρ++[some (fx x)]) H₁=.ok (fy x) H₁)
  (ho:newL mt ((l.filter p).map fy) H₁=o):compE false mt elt it cond ρ H=o:=by
 rcases hl with rfl | ⟨r,rfl,hr,hl⟩
 ·exact Zfh (fx:=fx) (src:=.seq (l.map fx)) (n:=(l.map fx).length) h rfl (fun _=>rfl) (List.length_map _) hn hT hE ho
 ·exact Zfh (fx:=fx) (src:=.lref r) (n:=(l.map fx).length) h ((ZbK hl).trans rfl) (fun _=>Zft hl) (List.length_map _) hn hT hE ho
theorem Zea {elt it:DE} {o:Out AV} (h:it ρ H=.ok a H₁) (hl:IsL H₁.length H₁ a (l.map fx)) (hn:l.length≤1000000) (hE:∀ x∈l,elt (ρ++[some (fx x)]) H₁=.ok (fy x) H₁) (ho:newL mt (l.map fy) H₁=o):compE false mt elt it (cstE (.bool true)) ρ H=o :=
 Zbq (p:=fun _=>true) h hl hn (fun _ _=>rfl) (fun x hx _=>hE x hx) (by rw [List.filter_eq_self.mpr fun _ _=>rfl]; exact ho)
end
noncomputable def allSN (ss:List Sm):List (Sm×(Str×Int)):=ss.flatMap fun s=>s.needs.map fun n=>(s,n)
noncomputable def postOf (x:Sm×(Str×Int)):Str×Str:=(x.1.name,x.2.1)
theorem ZaT (ss:List Sm):postsM ss=(allSN ss).map postOf:=by
 unfold postsM allSN
 rw [List.map_flatMap]
 congr 1
 funext s
 unfold postsS
 rw [List.map_map]; rfl
theorem ZbA {ss:List Sm} {x:Sm×(Str×Int)} (h:x∈allSN ss):x.1∈ss∧x.2∈x.1.needs:=by
 unfold allSN at h
 refine x1_2 (List.mem_flatMap.mp h) fun s hs h=>?_
 refine x1_2 (qMm h) fun n hn e2'=>?_; subst e2'
 exact ⟨hs,hn⟩
theorem ZiQ {ps:List Pm} {ss:List Sm} (G:Good ps ss):(allSN ss).length≤600:=by
 have:=Zgh G.nf
 rw [ZaT,qLm] at this
 have:=G.sf
 lia
theorem IsL.mono {N N':Nat} {H:AH} {v:AV} {ys:List AV} (h:IsL N H v ys) (hn:N≤N'):IsL N' H v ys:=by
 rcases h with h | ⟨r,e,hr,h⟩
 ·exact .inl h
 ·exact .inr ⟨r,e,Nat.lt_of_lt_of_le hr hn,h⟩
theorem Folk.mono {N N':Nat} {H:AH} {qs:List (Option Nat×Pm)} (F:Folk H N qs) (hn:N≤N'):Folk H N' qs:=⟨F.ok,fun q hq r e=>⟨Nat.lt_of_lt_of_le (F.rs q hq r e).1 hn,(F.rs q hq r e).2⟩,F.nodup,F.few⟩
structure Hold (D:Dk) (h:Str→List Nat):Prop where
 nd:∀ r,((h r).map D.day).Nodup
 ft:∀ r,∀ x∈h r,r∈D.fits x
 mo:∀ r,((h r).length:Int)≤D.most r
noncomputable def upd (c:Str→List Nat) (r:Str) (l:List Nat):Str→List Nat:=fun q=>if q=r then l else c q
theorem Zcv {c:Str→List Nat} {r:Str} {l:List Nat}:upd c r l r=l:=if_pos rfl
theorem ZbM {c:Str→List Nat} {r q:Str} {l:List Nat} (h:q≠r):upd c r l q=c q:=if_neg h
noncomputable def load (P:List Str) (c:Str→List Nat) (x:Nat):Nat:=P.countP fun r=>decide (x∈c r)
section
variable {D:Dk} {h c g:Str→List Nat} {P:List Str}
theorem Zf8 {l:List Nat} {f:Nat→Int} (q:(l.map f).Nodup):l.Nodup:=List.Pairwise.of_map f (fun _ _ q e=>q (congrArg f e)) q
theorem ZeX {α β:Type} {l:List α} {f:α→β} (q:(l.map f).Nodup) {x y:α} (hx:x∈l) (hy:y∈l) (e:f x=f y):x=y:=by
 induction l with
 | nil=>cases hx
 | cons z r ih =>
  rw [List.map_cons,List.nodup_cons] at q
  rcases List.mem_cons.mp hx with hx | hx
  ·rcases List.mem_cons.mp hy with hy | hy
   ·rw [hx,hy]
   ·exact absurd (hx▸e▸List.mem_map_of_mem hy) q.1
  ·rcases List.mem_cons.mp hy with hy | hy
   ·exact absurd (hy▸e▸List.mem_map_of_mem hx) q.1
   ·exact ih q.2 hx hy
theorem Zca {α:Type} [DecidableEq α] {l m:List α} (q:l.Nodup) (s:∀ x∈l,x∈m):l.length≤m.length:=by
 induction l generalizing m with
 | nil=>exact Nat.zero_le _
 | cons x r ih =>
  rw [List.nodup_cons] at q
  have hx:=s x (.head _)
  have:=ih (m:=m.erase x) q.2 fun y hy=>(List.mem_erase_of_ne (show y≠x from fun e=>q.1 (e▸hy))).mpr (s y (.tail _ hy))
  rw [List.length_erase_of_mem hx] at this
  have:=List.length_pos_of_mem hx
  rw [List.length_cons]; lia
theorem Zni {l:List Nat} (q:l.Nodup) {i j x:Nat} (h1:l[i]?=some x) (h2:l[j]?=some x):i=j:=(List.getElem?_inj (gsi h1).1 q).mp (h1.trans h2.symm)
theorem ZhS (hP:P.Nodup) {r:Str} (hr:r∈P) {l:List Nat} {x:Nat}:load P (upd c r l) x+(if x∈c r then 1 else 0)=load P c x+(if x∈l then 1 else 0):=by
 unfold load
 induction P with
 | nil=>cases hr
 | cons q s ih =>
  rw [List.nodup_cons] at hP
  rw [List.countP_cons,List.countP_cons]
  rcases List.mem_cons.mp hr with rfl | hr
  ·have e:s.countP (fun q=>decide (x∈upd c r l q))=s.countP fun q=>decide (x∈c q):=List.countP_congr fun q hq=>by rw [ZbM (show q≠r from fun e=>hP.1 (e▸hq))]
   rw [e,Zcv]
   simp only [decide_eq_true_eq]
   lia
  ·have:=ih hP.2 hr
   rw [ZbM (show q≠r from fun e=>hP.1 (e▸hr))]
   lia
end
noncomputable abbrev Ent:=Nat×Nat×Nat×Str
noncomputable def rowT (f:Nat) (T:List Ent):List Nat:=f::T.map (·.1)
section
variable (D:Dk) (h:Str→List Nat) (f:Nat) (T:List Ent)
structure Full (a x:Nat) (r:Str):Prop where
 no:∀ z∈h r,D.day z≠D.day x
 mo:D.most r≤(h r).length
 all:∀ z∈h r,z=f∨∃ x' a' r',(z,x',a',r')∈T∧a'≤a
structure Tr:Prop where
 nd:(rowT f T).Nodup
 par:∀ b y x a r,T[b]?=some (y,x,a,r)→a≤b∧(rowT f T)[a]?=some x∧r∈D.fits x∧y∈h r∧(D.day x=D.day y∨Full D h f T a x r)
def Seen (x:Nat) (r:Str):Prop:=(∃ y∈h r,D.day y=D.day x∧y∈rowT f T)∨(D.most r≤(h r).length∧∀ z∈h r,z∈rowT f T)
structure Srch (a:Nat):Prop where
 tr:Tr D h f T
 le:∀ e∈T,e.2.2.1≤a
 seen:∀ i x,i<a→(rowT f T)[i]?=some x→∀ r∈D.fits x,Seen D h f T x r
end
noncomputable def add1 (f x a:Nat) (r:Str) (T:List Ent) (y:Nat):List Ent:=if y∈rowT f T then T else T++[(y,x,a,r)]
section
variable {D:Dk} {h c g:Str→List Nat} {P:List Str} {f a x:Nat} {T T':List Ent} {r:Str}
theorem ZcI:rowT f (T++T')=rowT f T++T'.map (·.1):=by unfold rowT; rw [qMa]; rfl
theorem Zhb {x i:Nat} (q:(rowT f T)[i]?=some x):(rowT f (T++T'))[i]?=some x:=by
 rw [ZcI,qGl (gsi q).1]; exact q
theorem Zhc (q:x∈rowT f T):x∈rowT f (T++T'):=by rw [ZcI]; exact List.mem_append_left _ q
theorem Full.mono (F:Full D h f T a x r):Full D h f (T++T') a x r :=
 ⟨F.no,F.mo,fun z hz=>(F.all z hz).imp_right fun ⟨x',a',r',q,l⟩=>⟨x',a',r',List.mem_append_left _ q,l⟩⟩
theorem Seen.mono (S:Seen D h f T x r):Seen D h f (T++T') x r:=by
 rcases S with ⟨y,hy,e,m⟩ | ⟨m,q⟩
 ·exact .inl ⟨y,hy,e,Zhc m⟩
 ·exact .inr ⟨m,fun z hz=>Zhc (q z hz)⟩
theorem ZiN (l:List Nat):∀ T:List Ent,(rowT f T).Nodup→∃ T',l.foldl (add1 f x a r) T=T++T'∧(rowT f (T++T')).Nodup∧(∀ e∈T',e.1∈l∧e.2=(x,a,r))∧∀ z∈l,z∈rowT f (T++T'):=by
 induction l with
 | nil=>exact fun T q=>⟨[],(List.append_nil T).symm,by rw [List.append_nil]; exact q,fun _ q=>absurd q List.not_mem_nil,fun _ q=>absurd q List.not_mem_nil⟩
 | cons y l ih =>
  intro T q
  rw [List.foldl_cons]
  by_cases m:y∈rowT f T
  ·have e:add1 f x a r T y=T:=if_pos m
   obtain ⟨T',e1,q1,s1,m1⟩:=ih T q
   rw [e]
   refine ⟨T',e1,q1,fun e he=>⟨.tail _ (s1 e he).1,(s1 e he).2⟩,fun z hz=>?_⟩
   rcases List.mem_cons.mp hz with rfl | hz
   ·exact Zhc m
   ·exact m1 z hz
  ·have e:add1 f x a r T y=T++[(y,x,a,r)]:=if_neg m
   have q2:(rowT f (T++[(y,x,a,r)])).Nodup:=by
    rw [ZcI,List.nodup_append]
    refine ⟨q,List.pairwise_singleton _ _,fun u hu v hv e=>?_⟩
    have hv:v=y:=qMs hv
    rw [← hv,← e] at m
    exact m hu
   obtain ⟨T',e1,q1,s1,m1⟩:=ih _ q2
   rw [e]
   rw [qAa] at e1 q1 m1
   refine ⟨(y,x,a,r)::T',e1,q1,fun e he=>?_,fun z hz=>?_⟩
   ·rcases List.mem_cons.mp he with rfl | he
    ·exact ⟨.head _,rfl⟩
    ·exact ⟨.tail _ (s1 e he).1,(s1 e he).2⟩
   ·rcases List.mem_cons.mp hz with rfl | hz
    ·rw [ZcI]; exact List.mem_append_right _ (.head _)
    ·exact m1 z hz
theorem Zmu (t:Tr D h f T) (nd:(rowT f (T++T')).Nodup) (ha:(rowT f T)[a]?=some x) (hf:r∈D.fits x) (hn:∀ e∈T',e.1∈h r∧e.2=(x,a,r)) (hd:∀ e∈T',D.day x=D.day e.1∨Full D h f (T++T') a x r):Tr D h f (T++T'):=by
 refine ⟨nd,fun b y x' a' r' q=>?_⟩
 by_cases hb:b<T.length
 ·rw [qGl hb] at q
  obtain ⟨l,h1,h2,h3,h4⟩:=t.par b y x' a' r' q
  exact ⟨l,Zhb h1,h2,h3,h4.imp_right Full.mono⟩
 ·rw [List.getElem?_append_right (Nat.not_lt.mp ‹_›)] at q
  have m:=qMo q
  obtain ⟨m1,m2⟩:=hn _ m
  have d:=hd _ m
  cases m2
  have la:=(gsi ha).1
  unfold rowT at la
  rw [List.length_cons,qLm] at la
  exact ⟨by lia,Zhb ha,hf,m1,d⟩
theorem tr_S (t:Tr D h f T) (ha:(rowT f T)[a]?=some x) (hf:r∈D.fits x) {y:Nat} (hy:y∈h r) (hd:D.day y=D.day x):∃ T',add1 f x a r T y=T++T'∧Tr D h f (T++T')∧(∀ e∈T',e.2=(x,a,r))∧Seen D h f (T++T') x r:=by
 obtain ⟨T',e,nd,s,m⟩:=ZiN (f:=f) (x:=x) (a:=a) (r:=r) [y] T t.nd
 have s':∀ e∈T',e.1=y∧e.2=(x,a,r):=fun e he=>⟨qMs (s e he).1,(s e he).2⟩
 exact ⟨T',e,Zmu t nd ha hf (fun e he=>⟨(s' e he).1▸hy,(s' e he).2⟩) fun e he=>.inl (by rw [(s' e he).1,hd]),fun e he=>(s' e he).2,.inl ⟨y,hy,hd,m y (.head _)⟩⟩
theorem tr_F (t:Tr D h f T) (ht:∀ e∈T,e.2.2.1≤a) (ha:(rowT f T)[a]?=some x) (hf:r∈D.fits x) (hd:∀ z∈h r,D.day z≠D.day x) (hm:D.most r≤(h r).length):∃ T',(h r).foldl (add1 f x a r) T=T++T'∧Tr D h f (T++T')∧(∀ e∈T',e.2=(x,a,r))∧Seen D h f (T++T') x r:=by
 obtain ⟨T',e,nd,s,m⟩:=ZiN (f:=f) (x:=x) (a:=a) (r:=r) (h r) T t.nd
 refine ⟨T',e,Zmu t nd ha hf s fun e he=>.inr ⟨hd,hm,fun z hz=>?_⟩,fun e he=>(s e he).2,.inr ⟨hm,m⟩⟩
 have mz:=m z hz
 unfold rowT at mz
 rcases List.mem_cons.mp mz with rfl | mz
 ·exact .inl rfl
 ·obtain ⟨⟨z',x',a',r'⟩,he,rfl⟩:=qMm mz
  refine .inr ⟨x',a',r',he,?_⟩
  rcases qMp he with he | he
  ·exact ht _ he
  ·have:=(s _ he).2
   cases this
   exact Nat.le_refl _
structure Dn (D:Dk) (h:Str→List Nat) (P:List Str) (f:Nat) (T:List Ent) (i:Nat) (c:Str→List Nat):Prop where
 ok:Hold D c
 ld:∀ x,load P c x=load P h x+(if (rowT f T)[i]?=some x then 1 else 0)
 st:∀ b y x a r,b<i→T[b]?=some (y,x,a,r)→y∈c r∧(D.day x=D.day y∨∀ z∈c r,D.day z≠D.day x)
theorem ZhL {l:List Nat} (H:Hold D c) (h1:(l.map D.day).Nodup) (h2:∀ x∈l,r∈D.fits x) (h3:(l.length:Int)≤D.most r):Hold D (upd c r l):=by
 refine ⟨fun q=>?_,fun q=>?_,fun q=>?_⟩<;>by_cases e:q=r
 ·subst e; rw [Zcv]; exact h1
 ·rw [ZbM e]; exact H.nd q
 ·subst e; rw [Zcv]; exact h2
 ·rw [ZbM e]; exact H.ft q
 ·subst e; rw [Zcv]; exact h3
 ·rw [ZbM e]; exact H.mo q
theorem Zj0 {l:List Nat} (q:(l.map D.day).Nodup) (n:∀ z∈l,D.day z≠D.day x):((l++[x]).map D.day).Nodup:=by
 rw [qMa,List.nodup_append]
 refine ⟨q,List.pairwise_singleton _ _,fun u hu v hv e=>?_⟩
 obtain ⟨z,hz,rfl⟩:=qMm hu
 rw [qMs hv] at e
 exact n z hz e
theorem Zlb (H:Hold D h) (hP:P.Nodup) (hr:r∈P) (t:Tr D h f T) {i:Nat} (hi:(rowT f T)[i]?=some x) (hf:r∈D.fits x) (hd:∀ z∈h r,D.day z≠D.day x) (hm:((h r).length:Int)<D.most r):Dn D h P f T i (upd h r (h r++[x])):=by
 refine ⟨ZhL H (Zj0 (H.nd r) hd) (fun y hy=>?_) (by rw [qLa]; simp only [List.length_cons,List.length_nil]; lia),fun y=>?_,fun b y x' a q hb e=>?_⟩
 ·rcases qMp hy with hy | hy
  ·exact H.ft r y hy
  ·rw [qMs hy]; exact hf
 ·have:=ZhS (c:=h) (l:=h r++[x]) (x:=y) hP hr
  rw [hi]
  by_cases e:x=y
  ·subst e
   have n:x∉h r:=fun m=>hd x m rfl
   rw [if_neg n,if_pos (List.mem_append_right _ (.head _))] at this
   rw [if_pos rfl]; lia
  ·rw [if_neg fun q=>e (Option.some.inj q)]
   have e2:(y∈h r++[x])↔y∈h r:=by
    rw [List.mem_append,List.mem_singleton]
    exact ⟨fun q=>q.resolve_right fun q=>e q.symm,.inl⟩
   simp only [e2] at this
   lia
 ·obtain ⟨l,h1,h2,h3,h4⟩:=t.par b y x' a q e
  by_cases eq:q=r
  ·subst eq
   rw [Zcv]
   refine ⟨List.mem_append_left _ h3,h4.elim .inl fun F=>?_⟩
   have:=F.mo; lia
  ·rw [ZbM eq]
   exact ⟨h3,h4.imp_right Full.no⟩
theorem ZmO (hP:P.Nodup) (hr:r∈P) (t:Tr D h f T) {b y:Nat} (e:T[b]?=some (y,x,a,r)) (Q:Dn D h P f T (b+1) c):y∈c r∧(∀ z∈(c r).erase y,D.day z≠D.day x)∧Dn D h P f T a (upd c r ((c r).erase y++[x])):=by
 obtain ⟨hab,hx,h2,h3,h4⟩:=t.par b y x a r e
 obtain ⟨hy,hd⟩:=Q.st b y x a r (Nat.lt_succ_self _) e
 have ndc:=Q.ok.nd r
 have ndl:=Zf8 ndc
 have mem_e:∀ {z},z∈(c r).erase y↔z≠y∧z∈c r:=fun {z}=>ndl.mem_erase_iff
 have hn:∀ z∈(c r).erase y,D.day z≠D.day x:=fun z hz q=>by
  obtain ⟨n,m⟩:=mem_e.mp hz
  rcases hd with hd | hd
  ·exact n (ZeX ndc m hy (q.trans hd))
  ·exact hd z m q
 have hrow:(rowT f T)[b+1]?=some y:=by
  unfold rowT
  rw [List.getElem?_cons_succ,qGm,e]; rfl
 have hxy:x≠y:=fun q=>by
  subst q
  have:=Zni t.nd hx hrow
  lia
 have hxc:x∉c r:=fun m=>by
  have hz:=mem_e.mpr ⟨hxy,m⟩
  exact hn x hz rfl
 refine ⟨hy,hn,ZhL Q.ok (Zj0 ?_ hn) (fun z hz=>?_) ?_,fun z=>?_,fun b' y' x' a' r' hb e'=>?_⟩
 ·exact List.Nodup.sublist ((List.erase_sublist).map _) ndc
 ·rcases qMp hz with hz | hz
  ·exact Q.ok.ft r z (mem_e.mp hz).2
  ·rw [qMs hz]; exact h2
 ·rw [qLa,List.length_erase_of_mem hy]
  have:=List.length_pos_of_mem hy
  have:=Q.ok.mo r
  simp only [List.length_cons,List.length_nil]
  lia
 ·have l1:=ZhS (c:=c) (l:=(c r).erase y++[x]) (x:=z) hP hr
  have l2:=Q.ld z
  rw [hrow] at l2
  rw [hx]
  simp only [Option.some.injEq] at l2 ⊢
  by_cases e1:x=z
  ·subst e1
   rw [if_neg hxc,if_pos (List.mem_append_right _ (.head _))] at l1
   rw [if_neg (Ne.symm hxy)] at l2
   rw [if_pos rfl]; lia
  ·rw [if_neg e1]
   by_cases e2:y=z
   ·subst e2
    have:y∉(c r).erase y++[x]:=fun m=>by
     rcases qMp m with m | m
     ·exact (mem_e.mp m).1 rfl
     ·exact e1 (qMs m).symm
    rw [if_pos hy,if_neg this] at l1
    rw [if_pos rfl] at l2; lia
   ·have:(z∈(c r).erase y++[x])↔z∈c r:=by
     rw [List.mem_append,List.mem_singleton,mem_e]
     exact ⟨fun q=>q.elim And.right fun q=>absurd q.symm e1,fun q=>.inl ⟨Ne.symm e2,q⟩⟩
    simp only [this] at l1
    rw [if_neg e2] at l2; lia
 ·obtain ⟨hy',hd'⟩:=Q.st b' y' x' a' r' (by lia) e'
  by_cases er:r'=r
  ·subst er
   rw [Zcv]
   have hyy:y'≠y:=fun q=>by
    subst q
    have w1:(T.map (·.1))[b']?=some y':=by rw [qGm,e']; rfl
    have w2:(T.map (·.1))[b]?=some y':=by rw [qGm,e]; rfl
    have:=Zni (List.nodup_cons.mp t.nd).2 w1 w2
    lia
   have my:y'∈(c r').erase y:=mem_e.mpr ⟨hyy,hy'⟩
   obtain ⟨hab',k1,k2,k3,k4⟩:=t.par b' y' x' a' r' e'
   refine ⟨List.mem_append_left _ my,k4.elim .inl fun F=>?_⟩
   ·exfalso
    rcases F.all y h3 with q | ⟨x2,a2,r2,m,l⟩
    ·have:y∈T.map (·.1):=List.mem_map_of_mem (qMo e)
     exact (List.nodup_cons.mp t.nd).1 (q▸this)
    ·obtain ⟨b2,hb2⟩:=List.getElem?_of_mem m
     have w1:(T.map (·.1))[b2]?=some y:=by rw [qGm,hb2]; rfl
     have w2:(T.map (·.1))[b]?=some y:=by rw [qGm,e]; rfl
     have:=Zni (List.nodup_cons.mp t.nd).2 w1 w2
     subst this
     cases hb2.symm.trans e
     lia
  ·rw [ZbM er]
   exact ⟨hy',hd'⟩
theorem ZfE (M:List Nat):(M.map fun x=>load P h x).sum=(P.map fun r=>M.countP fun x=>decide (x∈h r)).sum:=by
 unfold load
 induction M with
 | nil =>
  show 0=_
  induction P with
  | nil=>rfl
  | cons r s ih=>rw [List.map_cons,List.sum_cons,← ih]; rfl
 | cons x M ih =>
  rw [List.map_cons,List.sum_cons,ih]
  clear ih
  induction P with
  | nil=>rfl
  | cons r s ih =>
   rw [List.map_cons,List.sum_cons,List.map_cons,List.sum_cons,List.countP_cons,← ih,List.countP_cons]
   lia
theorem Zmt {α:Type} {l:List α} {u v:α→Nat} (q:∀ x∈l,u x≤v x):(l.map u).sum≤(l.map v).sum:=by
 induction l with
 | nil=>exact Nat.le_refl _
 | cons x l ih =>
  rw [List.map_cons,List.map_cons,List.sum_cons,List.sum_cons]
  exact Nat.add_le_add (q x (.head _)) (ih fun y hy=>q y (.tail _ hy))
theorem ZoQ {α:Type} {l:List α} {u v:α→Nat} (q:∀ x∈l,u x≤v x) {y:α} (hy:y∈l) (hlt:u y<v y):(l.map u).sum<(l.map v).sum:=by
 induction l with
 | nil=>cases hy
 | cons x l ih =>
  rw [List.map_cons,List.map_cons,List.sum_cons,List.sum_cons]
  have q':∀ x∈l,u x≤v x:=fun z hz=>q z (.tail _ hz)
  rcases List.mem_cons.mp hy with rfl | hy
  ·have:=Zmt q'
   lia
  ·have:=ih q' hy
   have:=q x (.head _)
   lia
theorem Zjo {M:List Nat} {ds:List Int} {m:Nat} (H:Hold D h) (ndM:M.Nodup) (s:∀ x∈M,r∈D.fits x→(∃ y∈h r,D.day y=D.day x∧y∈M)∨(D.most r≤(h r).length∧∀ z∈h r,z∈M)) (hd:ds.Nodup) (hs:∀ d∈ds,∃ x∈M,D.day x=d∧r∈D.fits x) (hm:(m:Int)≤D.most r) (hl:m≤ds.length):m≤M.countP fun x=>decide (x∈h r):=by
 rw [List.countP_eq_length_filter]
 have hm':∀ {x},x∈M→x∈h r→x∈M.filter fun x=>decide (x∈h r):=fun {x} q w=>List.mem_filter.mpr ⟨q,decide_eq_true w⟩
 by_cases k:D.most r≤(h r).length∧∀ z∈h r,z∈M
 ·have l2:=Zca (Zf8 (H.nd r)) fun x hx=>hm' (k.2 x hx) hx
  exact Nat.le_trans (Int.ofNat_le.mp (Int.le_trans hm k.1)) l2
 ·have l1:ds.length≤((M.filter fun x=>decide (x∈h r)).map D.day).length:=by
   refine Zca hd fun d hd=>?_
   obtain ⟨x,mx,rfl,mf⟩:=hs d hd
   rcases s x mx mf with ⟨y,hy,e,m⟩ | q
   ·rw [← e]
    exact List.mem_map_of_mem (hm' m hy)
   ·exact absurd q k
  rw [qLm] at l1
  exact Nat.le_trans hl l1
end
noncomputable def Rt (P:OutS→Prop):OutS→Prop
 | .ret a H=>P (.ret a H)
 | _=>False
theorem ZiZ (o:OutS):o.calm.calm=o.calm:=by cases o<;>rfl
theorem ZiM {t:DE} {b:DS}:∀ (n:Nat) (ρ:RE) (H:AH),(whileS t b n ρ H).calm=whileS t b n ρ H
 | 0,_,_=>rfl
 | n+1,ρ,H=>ZiZ _
section
variable {P:OutS→Prop} {ρ:RE} {H H₁ H₂:AH} {r:List DS} {t:DE} {b:DS}
theorem ZgC (Inv:Nat→RE→AH→Prop) (step:∀ (J:RE→AH→Prop) (m:Nat) ρ H,Inv m ρ H→(∀ m' ρ' H',m'<m→Inv m' ρ' H'→J ρ' H')→(t ρ H=.ok (.bool true) H∧Nx J (Rt P) (b ρ H))∨(t ρ H=.ok (.bool false) H∧P (seqS r ρ H))) :
  ∀ (n m:Nat) (ρ:RE) (H:AH),m<n→Inv m ρ H→P ((whileS t b n ρ H).then (seqS r))
 | 0,m,_,_,h,_=>absurd h (Nat.not_lt_zero _)
 | n+1,m,ρ,H,h,I=>by
  rcases step (fun ρ' H'=>∃ m':Nat,m'<m∧Inv m' ρ' H') m ρ H I (fun m' ρ' H' l i=>⟨m',l,i⟩) with ⟨e,q⟩ | ⟨e,q⟩
  ·show P (OutS.then (OutS.calm ((t ρ H).inS ρ _)) _)
   rw [e]
   show P (OutS.then (OutS.calm ((b ρ H).then (whileS t b n))) _)
   cases hb:b ρ H with
   | next ρ' H' =>
    rw [hb] at q
    refine x1_2 q fun m' l i=>?_
    show P (OutS.then (OutS.calm (whileS t b n ρ' H')) _)
    rw [ZiM]
    exact ZgC Inv step n m' ρ' H' (by lia) i
   | ret a H'=>rw [hb] at q; exact q
   | exc c ρ' H'=>rw [hb] at q; exact q.elim
   | bad=>rw [hb] at q; exact q.elim
  ·show P (OutS.then (OutS.calm ((t ρ H).inS ρ _)) _)
   rw [e]
   exact q
theorem Zj6 (Inv:Nat→RE→AH→Prop) {m:Nat} (hm:m<1000000) (i0:Inv m ρ H) (step:∀ (J:RE→AH→Prop) (m:Nat) ρ H,Inv m ρ H→(∀ m' ρ' H',m'<m→Inv m' ρ' H'→J ρ' H')→(t ρ H=.ok (.bool true) H∧Nx J (Rt P) (b ρ H))∨(t ρ H=.ok (.bool false) H∧P (seqS r ρ H))) :
  P (seqS (whileS t b whileFuel::r) ρ H):=ZgC Inv step whileFuel m ρ H (Nat.lt_of_lt_of_le hm ZgB) i0
theorem Zcd {es:List (Key×AV)} (hn:(es.map (·.1)).Nodup) {k:Key} {v:AV} (h:(k,v)∈es):es.lookup k=some v:=by
 induction es with
 | nil=>cases h
 | cons e r ih =>
  rw [List.map_cons,List.nodup_cons] at hn
  obtain ⟨k',v'⟩:=e
  rw [List.lookup_cons]
  by_cases q:k=k'
  ·subst q
   rw [beq_self_eq_true]
   rcases List.mem_cons.mp h with h | h
   ·cases h; rfl
   ·exact absurd (List.mem_map_of_mem (f:=(·.1)) h) hn.1
  ·rw [beq_false_of_ne q]
   rcases List.mem_cons.mp h with h | h
   ·cases h; exact absurd rfl q
   ·exact ih hn.2 h
theorem ZjS {es:List (Key×AV)} {k:Key} (h:k∉es.map (·.1)):es.lookup k=none:=by
 induction es with
 | nil=>rfl
 | cons e r ih =>
  obtain ⟨k',v'⟩:=e
  rw [List.map_cons,List.mem_cons,not_or] at h
  rw [List.lookup_cons,beq_false_of_ne h.1]
  exact ih h.2
theorem ZiS {es:List (Key×AV)} {k:Key}:(es.any fun e=>decide (e.1=k))=decide (k∈es.map (·.1)):=by
 rw [Bool.eq_iff_iff,List.any_eq_true,decide_eq_true_eq,List.mem_map]
 exact ⟨fun ⟨e,he,q⟩=>⟨e,he,of_decide_eq_true q⟩,fun ⟨e,he,q⟩=>⟨e,he,decide_eq_true q⟩⟩
theorem ZlW {es:List (Key×AV)} {k:Key} {v:AV} (h:k∉es.map (·.1)):setD es k v=es++[(k,v)]:=by
 unfold setD
 rw [ZiS,decide_eq_false h]; rfl
variable {n:Nat} {es:List (Key×AV)} {k:Key} {a v:AV}
theorem dsub (h:H[n]?=some (.dict es)) (hk:keyOf a=some k) (hx:es.lookup k=some v):subA (.ref n) a H=.ok v H:=by
 unfold subA
 rw [ZaN h]
 show orBad (keyOf a) _=_
 rw [hk]
 show orBad (es.lookup k) _=_
 rw [hx]; rfl
theorem din (h:H[n]?=some (.dict es)) (hk:keyOf a=some k):cmpA H .In a (.ref n)=some (decide (k∈es.map (·.1))):=by
 show inA H a (.ref n)=_
 unfold inA
 rw [ZaN h]
 show (keyOf a).map _=_
 rw [hk]
 show some (es.any fun e=>decide (e.1=k))=_
 rw [ZiS]
theorem dset (h:H[n]?=some (.dict es)) (hk:keyOf a=some k) (hl:es.length≤1000) (hn:k∉es.map (·.1)):setItemA (.ref n) a v H=some (H.set n (.dict (es++[(k,v)]))):=by
 rw [Zbd h]
 show (if es.length≤1000000 then (keyOf a).map fun k=>H.set n (.dict (setD es k v)) else none)=_
 rw [if_pos (le_t ‹_› rfl),hk,← ZlW hn]; rfl
theorem Zc7 (h:H[n]?=some (.dict es)):kindM (.ref n) H=3:=by
 show (match H[n]? with | some (.lst _)=>2 | some (.dict _)=>3 | _=>0)=3; rw [h]
theorem ZmR {e k':DE} (h1:e ρ H=.ok (.ref n) H) (h2:k' ρ H=.ok a H) (h:H[n]?=some (.dict es)) (hk:keyOf a=some k) (hl:es.length≤1000):mbE .get e [k'] ρ H=.ok ((es.lookup k).getD .none) H:=by
 unfold mbE
 rw [h1]
 show orBad (bmId (kindM (.ref n) H) .get) _=_
 rw [Zc7 h]
 show (evL [k'] ρ H).bind _=_
 rw [Zaa h2]
 show (if 3=kindM (.ref n) H then mbA .get (.ref n) [a] H else .bad)=_
 rw [Zc7 h,if_pos rfl,Ziv h]
 show (if es.length≤1000000 then orBad (keyOf a) fun k=>Out.ok ((es.lookup k).getD .none) H else .bad)=_
 rw [if_pos (le_t ‹_› rfl),hk]; rfl
theorem ZoW {e k':DE} (h1:e ρ H=.ok (.ref n) H) (h2:k' ρ H=.ok a H) (h:H[n]?=some (.dict es)) (hk:keyOf a=some k) (hl:es.length≤1000) (hx:es.lookup k=some v):mbE .pop e [k'] ρ H=.ok v (H.set n (.dict (es.filter fun e=>decide (e.1≠k)))):=by
 unfold mbE
 rw [h1]
 show orBad (bmId (kindM (.ref n) H) .pop) _=_
 rw [Zc7 h]
 show (evL [k'] ρ H).bind _=_
 rw [Zaa h2]
 show (if 3=kindM (.ref n) H then mbA .pop (.ref n) [a] H else .bad)=_
 rw [Zc7 h,if_pos rfl,Ziv h]
 show (if es.length≤1000000 then orBad (keyOf a) fun k=>orBad (es.lookup k) fun v=>Out.ok v (H.set n (.dict (es.filter fun e=>decide (e.1≠k)))) else .bad)=_
 rw [if_pos (le_t ‹_› rfl),hk]
 show orBad (es.lookup k) _=_
 rw [hx]; rfl
theorem dlen {hot:Bool} (h:H[n]?=some (.dict es)) (hl:es.length≤1000):biA hot .len [.ref n] H=.ok (.int es.length) H:=by
 show orBad (lenA H (.ref n)) _=_
 rw [Zfw h]
 exact if_pos (lt_t ‹_› rfl)
theorem Zod {i j:Nat} (hi:ρ[i]?=some (some (.ref n))) (hj:ρ.length=j) (h:H[n]?=some (.dict es)) (hn:(es.map (·.1)).Nodup) (hl:es.length≤1000):compE false false (subE (varE i) (varE j)) (varE i) (cstE (.bool true)) ρ H=.ok (.lst (es.map (·.2))) H:=by
 have hlt:=(gsi h).1
 have hlk:(H.set n (.ldict es))[n]?=some (.ldict es):=by rw [List.getElem?_set,if_pos rfl,if_pos hlt]
 unfold compE
 rw [ZeJ hi]
 show orBad (srcOf H (.ref n)) _=_
 rw [ZbK h]
 show (if false=false∧es.length≤1000000 then (compL _ _ (.seq (es.map fun e=>e.1.av)) es.length 0 [] (lockH (some n) H)).calm.bind _ else _)=_
 rw [if_pos ⟨rfl,le_t ‹_› rfl⟩]
 have lk:lockH (some n) H=H.set n (.ldict es):=by
  show (match H[n]? with | some (.dict es)=>H.set n (.ldict es) | _=>H)=_
  rw [h]
 have fr':∀ H':AH,H'[n]?=some (.ldict es)→freeH (some n) H'=H'.set n (.dict es):=fun H' h=>by
  show (match H'[n]? with | some (.ldict es)=>H'.set n (.dict es) | _=>H')=_
  rw [h]
 have fr:freeH (some n) (H.set n (.ldict es))=H:=by
  rw [fr' _ hlk,List.set_set]
  have e:=(gsi h).2
  rw [← e,List.set_getElem_self]
 rw [lk]
 have key:=ZdM (T:=fun v=>cstE (.bool true) (ρ++[some v])) (E:=fun v=>subE (varE i) (varE j) (ρ++[some v])) (l:=es) (fx:=fun e=>e.1.av) (fy:=fun e=>e.2) (p:=fun _=>true) (H:=H.set n (.ldict es)) (src:=.seq (es.map fun e=>e.1.av)) (fun _=>rfl) (fun _ _=>rfl) (fun e he _=>Zab (Zak hi) (Zag hj) (by
  unfold subA
  rw [ZaN hlk]
  show orBad (keyOf e.1.av) _=_
  rw [show keyOf e.1.av=some e.1 by cases e.1<;>rfl]
  show orBad (es.lookup e.1) _=_
  rw [Zcd hn (v:=e.2) he]; rfl)) es.length 0 [] (by simp)
 rw [key,List.drop_zero,List.filter_eq_self.mpr fun _ _=>rfl]
 show (newL false _ (freeH (some n) _))=_
 rw [fr]; rfl
end
structure DealR (R:Nat→Bool→FT):Prop where
 init:RunAt R 28 2 5 ZbR
 left_by:RunAt R 29 3 5 Zba
 sought:RunAt R 30 2 9 Zbo
 done:RunAt R 31 4 6 ZbQ
 shift_on:RunAt R 32 4 5 Za2
 dealt:RunAt R 33 1 9 Zfe
noncomputable def nI (x:Nat):AV:=.int x
noncomputable def heldD (D:Dk) (l:List Nat):List (Key×AV):=l.map fun x=>(.int (D.day x),nI x)
noncomputable def atD (b:Nat) (P:List Str):List (Key×AV):=(P.zipIdx b).map fun e=>(.str e.1,.ref e.2)
noncomputable def mostD (D:Dk) (P:List Str):List (Key×AV):=P.map fun r=>(.str r,.int (D.most r))
noncomputable def fitsL (D:Dk) (n:Nat):List AV:=(List.range n).map fun x=>.lst ((D.fits x).map .str)
noncomputable def heldO (D:Dk) (P:List Str) (h:Str→List Nat):AH:=P.map fun r=>.dict (heldD D (h r))
noncomputable def Sd.hp (S:Sd) (h:Str→List Nat) (G:AH):AH:=S.H0++(.inst 3 S.inst::.lst S.pl::.lst (fitsL S.D S.n)::.dict (atD (S.b+5) S.P)::.dict (mostD S.D S.P)::(heldO S.D S.P h++G))
structure SdOK (S:Sd):Prop where
 nd:S.P.Nodup
 pf:S.P.length≤100
 nf:S.n≤600
 ft:∀ x r,r∈S.D.fits x→x<S.n∧r∈S.P
 mo:∀ r,S.D.most r≤100
section
variable {S:Sd} {h:Str→List Nat} {G:AH} {r:Str} {i x y:Nat}
theorem ZaF {H L:AH} {i:Nat}:(H++L)[H.length+i]?=L[i]?:=by rw [List.getElem?_append_right (Nat.le_add_right _ _),Nat.add_sub_cancel_left]
theorem Zks {H L:AH} {i:Nat} {o:AO}:(H++L).set (H.length+i) o=H++L.set i o:=by rw [List.set_append_right _ _ (Nat.le_add_right _ _),Nat.add_sub_cancel_left]
theorem hp_0:(S.hp h G)[S.b]?=some (.inst 3 S.inst):=ZaF (i:=0)
theorem hp_1:(S.hp h G)[S.b+1]?=some (.lst S.pl):=ZaF (i:=1)
theorem hp_2:(S.hp h G)[S.b+2]?=some (.lst (fitsL S.D S.n)):=ZaF (i:=2)
theorem hp_3:(S.hp h G)[S.b+3]?=some (.dict (atD (S.b+5) S.P)):=ZaF (i:=3)
theorem hp_4:(S.hp h G)[S.b+4]?=some (.dict (mostD S.D S.P)):=ZaF (i:=4)
theorem Zdt (hi:S.P[i]?=some r):(S.hp h G)[S.b+5+i]?=some (.dict (heldD S.D (h r))):=by
 have hl:=(gsi hi).1
 rw [Nat.add_assoc]
 refine ZaF.trans ?_
 rw [Nat.add_comm 5 i]
 show (heldO S.D S.P h++G)[i]?=_
 unfold heldO
 rw [qGl (by rw [qLm]; exact hl),qGm,hi]; rfl
theorem hp_G:(S.hp h G)[S.b+5+S.P.length+i]?=G[i]?:=by
 rw [Nat.add_assoc,Nat.add_assoc]
 refine ZaF.trans ?_
 rw [Nat.add_comm 5]
 show (heldO S.D S.P h++G)[S.P.length+i]?=_
 have e:(heldO S.D S.P h).length=S.P.length:=List.length_map _
 rw [← e]
 exact ZaF
theorem Zll {D:Dk} {P:List Str} (hP:P.Nodup) {l:List Nat}:∀ {i:Nat},P[i]?=some r→(heldO D P h).set i (.dict (heldD D l))=heldO D P (upd h r l):=by
 unfold heldO
 induction P with
 | nil=>exact fun {i} e=>nomatch e
 | cons q s ih =>
  intro i e
  rw [List.nodup_cons] at hP
  cases i with
  | zero =>
   cases e
   rw [List.map_cons,List.set_cons_zero,List.map_cons,Zcv]
   congr 1
   exact List.map_congr_left fun z hz=>by rw [ZbM (show z≠r from fun e=>hP.1 (e▸hz))]
  | succ i =>
   rw [List.getElem?_cons_succ] at e
   rw [List.map_cons,List.set_cons_succ,ih hP.2 e,List.map_cons,ZbM (show q≠r from fun w=>hP.1 (w▸qMo e))]
theorem ZjC (K:SdOK S) (hi:S.P[i]?=some r) {l:List Nat}:(S.hp h G).set (S.b+5+i) (.dict (heldD S.D l))=S.hp (upd h r l) G:=by
 have hl:=(gsi hi).1
 rw [Nat.add_assoc,Nat.add_comm 5 i]
 refine (Zks (H:=S.H0)).trans ?_
 unfold Sd.hp
 congr 1
 rw [List.set_cons_succ,List.set_cons_succ,List.set_cons_succ,List.set_cons_succ,List.set_cons_succ,List.set_append_left _ _ (by unfold heldO; rw [qLm]; exact hl),Zll K.nd hi]
theorem ZgY {j:Nat} {o:AO} (hj:j<G.length):(S.hp h G).set (S.b+5+S.P.length+j) o=S.hp h (G.set j o):=by
 rw [Nat.add_assoc,Nat.add_assoc,Nat.add_comm 5]
 refine (Zks (H:=S.H0)).trans ?_
 unfold Sd.hp
 congr 1
 have e:(heldO S.D S.P h).length=S.P.length:=List.length_map _
 rw [List.set_cons_succ,List.set_cons_succ,List.set_cons_succ,List.set_cons_succ,List.set_cons_succ,List.set_append_right _ _ (by lia),e,Nat.add_sub_cancel_left]
theorem ZjA {L:AH}:S.hp h G++L=S.hp h (G++L):=by unfold Sd.hp; simp
theorem ZjB:(S.hp h G).length=S.b+5+S.P.length+G.length:=by
 unfold Sd.hp heldO Sd.b
 simp only [qLa,List.length_cons,qLm]; lia
theorem Zf4:Up S.H0.length S.H0 (S.hp h G):=Up.app
theorem ZmC (K:SdOK S) (hi:S.P[i]?=some r):(atD (S.b+5) S.P).lookup (.str r)=some (.ref (S.b+5+i)):=by
 unfold atD
 refine Zcd ?_ (List.mem_map.mpr ⟨(r,S.b+5+i),?_,rfl⟩)
 ·rw [List.map_map]
  have:((fun e:Key×AV=>e.1) ∘ fun e:Str×Nat=>(Key.str e.1,AV.ref e.2))=Key.str ∘ (·.1):=rfl
  rw [this,← List.map_map,List.zipIdx_map_fst]
  exact Zat (fun a _ b _ e=>by cases e; rfl) K.nd
 ·exact List.mk_add_mem_zipIdx_iff_getElem?.mpr hi
theorem ZjY (K:SdOK S) (hr:r∈S.P):(mostD S.D S.P).lookup (.str r)=some (.int (S.D.most r)):=by
 unfold mostD
 refine Zcd ?_ (List.mem_map_of_mem hr)
 rw [List.map_map]
 exact Zat (fun a _ b _ e=>by cases e; rfl) K.nd
theorem Zc4 {D:Dk} {l:List Nat}:(heldD D l).map (·.1)=(l.map D.day).map Key.int:=by unfold heldD; rw [List.map_map,List.map_map]; rfl
theorem Zjy {D:Dk} {l:List Nat} (hn:(l.map D.day).Nodup):((heldD D l).map (·.1)).Nodup:=by
 rw [Zc4]
 exact Zat (fun a _ b _ e=>by cases e; rfl) hn
theorem ZbZ {D:Dk} {l:List Nat} (hn:(l.map D.day).Nodup) (hy:y∈l):(heldD D l).lookup (.int (D.day y))=some (nI y):=Zcd (Zjy hn) (List.mem_map.mpr ⟨y,hy,rfl⟩)
theorem Zfp {D:Dk} {l:List Nat} (h:∀ z∈l,D.day z≠D.day x):Key.int (D.day x)∉(heldD D l).map (·.1):=fun q=>by
 rw [Zc4] at q
 refine x1_2 (qMm q) fun d hd e=>?_
 refine x1_2 (qMm hd) fun z hz e'=>?_
 cases e
 exact h z hz e'
theorem Zlk {D:Dk} {l:List Nat} (hn:(l.map D.day).Nodup) (hy:y∈l):(heldD D l).filter (fun e=>decide (e.1≠Key.int (D.day y)))=heldD D (l.erase y):=by
 unfold heldD
 induction l with
 | nil=>cases hy
 | cons z s ih =>
  rw [List.map_cons,List.nodup_cons] at hn
  by_cases e:z=y
  ·subst e
   rw [List.erase_cons_head,List.map_cons,List.filter_cons_of_neg (by simp)]
   refine List.filter_eq_self.mpr fun e he=>?_
   refine x1_2 (qMm he) fun w hw e'=>?_; subst e'
   refine decide_eq_true fun q=>hn.1 ?_
   have q:D.day w=D.day z:=Key.int.inj q
   exact q▸List.mem_map_of_mem hw
  ·have hy':=(List.mem_cons.mp hy).resolve_left (Ne.symm e)
   have hne:(Key.int (D.day z),nI z).1≠Key.int (D.day y):=fun q=>by
    have q:D.day z=D.day y:=Key.int.inj q
    exact hn.1 (q▸List.mem_map_of_mem hy')
   rw [List.erase_cons_tail (by simpa using e),List.map_cons,List.filter_cons_of_pos (p:=fun e:Key×AV=>decide (e.1≠Key.int (D.day y))) (decide_eq_true hne),ih hn.2 hy',List.map_cons]
theorem Zf3 {D:Dk} {l:List Nat}:heldD D l++[(.int (D.day x),nI x)]=heldD D (l++[x]):=by unfold heldD; rw [qMa]; rfl
theorem ZmJ {H:AH} (K:SdOK S) (hx:x<S.n):subA (.lst (daysL S.D S.n)) (nI x) H=.ok (.int (S.D.day x)) H:=by
 have:=K.nf
 refine subL (Int.natCast_nonneg _) ?_ (by unfold daysL; rw [qLm,List.length_range]; exact le_t ‹_› rfl)
 unfold daysL
 rw [Int.toNat_natCast,qGm,List.getElem?_range hx]; rfl
theorem Zc5 {D:Dk} {l:List Nat}:(heldD D l).length=l.length:=List.length_map _
end
section
variable {R:Nat→Bool→FT} {k:Nat} {S:Sd} {h:Str→List Nat} {G:AH} {r:Str} {i x y:Nat} {PG:OutS→Prop}
inductive LeftV (D:Dk) (l:List Nat) (m:Int) (x:Nat):AV→Prop
 | one (y:Nat) (h1:y∈l) (h2:D.day y=D.day x):LeftV D l m x (.lst [nI y])
 | free (h1:∀ z∈l,D.day z≠D.day x) (h2:(l.length:Int)<m):LeftV D l m x .none
 | full (h1:∀ z∈l,D.day z≠D.day x) (h2:m≤l.length):LeftV D l m x (.lst (l.map nI))
theorem Zc3 (K:SdOK S) (Hh:Hold S.D h):(heldD S.D (h r)).length≤1000:=by
 have:=Hh.mo r
 have:=K.mo r
 rw [Zc5]; lia
theorem ZfM (K:SdOK S) (hi:S.P[i]?=some r) {ρ:RE} {e f:DE} (he:e ρ (S.hp h G)=.ok (.ref S.b) (S.hp h G)) (hf:f ρ (S.hp h G)=.ok (.str r) (S.hp h G)):subE (attrE 10 e) f ρ (S.hp h G)=.ok (.ref (S.b+5+i)) (S.hp h G):=Zab (Zas he hp_0 rfl) hf (dsub hp_3 rfl (ZmC K hi))
theorem ZgM (K:SdOK S) (hx:x<S.n) {ρ:RE} {e f:DE} (he:e ρ (S.hp h G)=.ok (.ref S.b) (S.hp h G)) (hf:f ρ (S.hp h G)=.ok (nI x) (S.hp h G)):subE (attrE 8 e) f ρ (S.hp h G)=.ok (.int (S.D.day x)) (S.hp h G):=Zab (Zas he hp_0 rfl) hf (ZmJ K hx)
theorem Zol (K:SdOK S) (Hh:Hold S.D h) (hr:r∈S.P) (hx:x<S.n) (fin:∀ v,LeftV S.D (h r) (S.D.most r) x v→PG (.ret v (S.hp h G))):PG (Zba (R k) false (rho0 [.ref S.b,.str r,nI x] 5) (S.hp h G)):=by
 obtain ⟨i,hi⟩:=List.getElem?_of_mem hr
 have hl:=Zc3 (r:=r) K Hh
 have hd:=Zdt (h:=h) (G:=G) hi
 refine Zal (ZfM K hi rfl rfl) ?_
 refine Zal (ZgM K hx rfl rfl) ?_
 refine p_if (Zai rfl rfl (din hd rfl)) (fun q=>?_) fun q=>?_
 ·have q:=of_decide_eq_true q
  rw [Zc4] at q
  refine x1_2 (qMm q) fun d hd' e=>?_
  refine x1_2 (qMm hd') fun y hy e'=>?_
  cases e
  refine ZaZ (P:=Th _ _) (ZeI (Zaa (Zab rfl rfl (dsub hd rfl (e'▸ZbZ (Hh.nd r) hy)))) (by simp) rfl) (fin _ (.one y hy e'))
 ·have q:∀ z∈h r,S.D.day z≠S.D.day x:=fun z hz e=>of_decide_eq_false q (by
   rw [Zc4]
   exact List.mem_map_of_mem (e▸List.mem_map_of_mem hz))
  refine ZdH (p_if (Zai (e_bi (Zaa rfl) (dlen hd hl)) (Zab (Zas rfl hp_0 rfl) rfl (dsub hp_4 rfl (ZjY K hr))) rfl) (fun w=>?_) fun w=>?_)
  ·have w:((heldD S.D (h r)).length:Int)<S.D.most r:=of_decide_eq_true w
   rw [Zc5] at w
   exact ZaZ (P:=Th _ _) rfl (fin _ (.free q w))
  ·have w:¬ ((heldD S.D (h r)).length:Int)<S.D.most r:=of_decide_eq_false w
   rw [Zc5] at w
   refine ZdH (ZaZ ((Zod rfl rfl hd (Zjy (Hh.nd r)) hl).trans ?_) (fin _ (.full q (Int.not_lt.mp w))))
   unfold heldD
   rw [List.map_map]; rfl
theorem Zlx (Q:DealR R) (K:SdOK S) (Hh:Hold S.D h) (hr:r∈S.P) (hx:x<S.n):∃ v,R (k+1) false 29 [.ref S.b,.str r,nI x] (S.hp h G)=.ok v (S.hp h G)∧LeftV S.D (h r) (S.D.most r) x v:=by
 rw [Q.left_by _ _ _ _ rfl]
 exact Zol (PG:=fun o=>∃ v,o.done=.ok v (S.hp h G)∧LeftV S.D (h r) (S.D.most r) x v) K Hh hr hx fun v q=>⟨v,rfl,q⟩
theorem ZmS {H:AH}:cmpA H .Eq (nI x) (nI y)=some (decide (x=y)):=by
 show some (PyData.eqv (.int x) (.int y))=_
 congr 1
 show ((x:Int) == (y:Int))=_
 rw [Bool.eq_iff_iff,beq_iff_eq,decide_eq_true_eq]; lia
theorem Zkt (K:SdOK S) (Hh:Hold S.D h) (hr:r∈S.P) (hy:y∈h r) (hx:x<S.n) (hd:∀ z∈(h r).erase y,S.D.day z≠S.D.day x) (fin:∀ ρ,PG (.next ρ (S.hp (upd h r ((h r).erase y++[x])) G))):PG (Za2 (R k) false (rho0 [.ref S.b,.str r,nI y,nI x] 5) (S.hp h G)):=by
 obtain ⟨i,hi⟩:=List.getElem?_of_mem hr
 have hl:=Zc3 (r:=r) K Hh
 have hh:=Zdt (h:=h) (G:=G) hi
 have hyn:=(K.ft y r (Hh.ft r y hy)).1
 have hlook:=ZbZ (Hh.nd r) hy
 refine Zal (ZfM K hi rfl rfl) ?_
 refine p_if (x:=true) (Zai (ZmR rfl (ZgM K hyn rfl rfl) hh rfl hl) rfl (by rw [hlook]; exact ZmS.trans (by rw [decide_eq_true rfl]))) (fun _=>?_) fun q=>nomatch q
 refine ZaA (P:=Th _ _) (ZoW rfl (ZgM K hyn rfl rfl) hh rfl hl hlook) (ZdH ?_)
 rw [Zlk (Hh.nd r) hy,ZjC K hi]
 have hh2:=Zdt (h:=upd h r ((h r).erase y)) (G:=G) hi
 rw [Zcv] at hh2
 refine Ze2 rfl rfl (ZgM K hx rfl rfl) (dset (v:=nI x) hh2 rfl (by rw [Zc5,List.length_erase_of_mem hy]; rw [Zc5] at hl; exact Nat.le_trans (Nat.sub_le _ _) ‹_›) (Zfp hd)) ?_
 rw [Zf3,ZjC K hi]
 have:upd (upd h r ((h r).erase y)) r ((h r).erase y++[x])=upd h r ((h r).erase y++[x]):=by
  funext q
  by_cases e:q=r
  ·subst e; rw [Zcv,Zcv]
  ·rw [ZbM e,ZbM e,ZbM e]
 rw [this]
 exact Zno (fin _)
theorem ZiG (Q:DealR R) (K:SdOK S) (Hh:Hold S.D h) (hr:r∈S.P) (hy:y∈h r) (hx:x<S.n) (hd:∀ z∈(h r).erase y,S.D.day z≠S.D.day x):R (k+1) false 32 [.ref S.b,.str r,nI y,nI x] (S.hp h G)=.ok .none (S.hp (upd h r ((h r).erase y++[x])) G):=by
 rw [Q.shift_on _ _ _ _ rfl]
 exact Zkt (PG:=fun o=>o.done=.ok .none (S.hp (upd h r ((h r).erase y++[x])) G)) K Hh hr hy hx hd fun _=>rfl
noncomputable def metD (f:Nat) (T:List Ent):List (Key×AV):=(.int f,.none)::T.map fun e=>(.int e.1,.tup [nI e.2.1,.str e.2.2.2])
variable {f:Nat} {T:List Ent} {g:Nat}
theorem Zfy:(metD f T).map (·.1)=(rowT f T).map fun x:Nat=>Key.int x:=by unfold metD rowT; rw [List.map_cons,List.map_map,List.map_cons,List.map_map]; rfl
theorem Zmn (t:Tr S.D h f T):((metD f T).map (·.1)).Nodup:=by
 rw [Zfy]
 exact Zat (fun a _ b _ e=>by cases e; rfl) t.nd
theorem Zgk (K:SdOK S) (t:Tr S.D h f T) (hf:f<S.n) (Hh:Hold S.D h) {z:Nat} (hz:z∈rowT f T):z<S.n:=by
 unfold rowT at hz
 rcases List.mem_cons.mp hz with rfl | hz
 ·exact hf
 ·refine x1_2 (qMm hz) fun e he q=>?_; subst q
  obtain ⟨b,hb⟩:=List.getElem?_of_mem he
  obtain ⟨y,x,a,r⟩:=e
  have:=t.par b y x a r hb
  exact (K.ft y r (Hh.ft r y this.2.2.2.1)).1
theorem Zn8 (Q:DealR R) (K:SdOK S) (Hh:Hold S.D h) (hf:f<S.n) (t:Tr S.D h f T) (hg:G[g]?=some (.dict (metD f T))) (hr:r∈S.P) (hi:(rowT f T)[i]?=some x) (hfit:r∈S.D.fits x) (hd:∀ z∈h r,S.D.day z≠S.D.day x) (hm:((h r).length:Int)<S.D.most r)
  (fin:∀ ρ c,Dn S.D h S.P f T 0 c→PG (.next ρ (S.hp c G))):PG (ZbQ (R (k+1)) false (rho0 [.ref S.b,.ref (S.b+5+S.P.length+g),nI x,.str r] 6) (S.hp h G)):=by
 obtain ⟨p,hp⟩:=List.getElem?_of_mem hr
 have hl:=Zc3 (r:=r) K Hh
 have hh:=Zdt (h:=h) (G:=G) hp
 refine Ze2 rfl (ZfM K hp rfl rfl) (ZgM K (K.ft x r hfit).1 rfl rfl) (dset (v:=nI x) hh rfl hl (Zfp hd)) ?_
 rw [Zf3,ZjC K hp]
 refine Zj6 (m:=i) (fun m ρ H'=>Ex5 fun (c:Str→List Nat) (x:Nat) (a3 a4 a5:Option AV)=>A4 (Dn S.D h S.P f T m c) ((rowT f T)[m]?=some x) (H'=S.hp c G) (ρ=[some (.ref S.b),some (.ref (S.b+5+S.P.length+g)),some (nI x),a3,a4,a5])) ?_ ⟨_,x,_,_,_,Zlb Hh K.nd hr t hi hfit hd hm,hi,rfl,rfl⟩ ?_
 ·have h1:=(gsi hi).1
  have h2:=Zca (m:=List.range S.n) t.nd fun z hz=>List.mem_range.mpr (Zgk K t hf Hh hz)
  rw [List.length_range] at h2
  have:=K.nf
  lia
 ·rintro J m ρ H' ⟨c,x,a3,a4,a5,dn,hx,rfl,rfl⟩ hJ
  have hmet:(S.hp c G)[S.b+5+S.P.length+g]?=some (.dict (metD f T)):=hp_G.trans hg
  cases m with
  | zero =>
   have hx:f=x:=by unfold rowT at hx; exact Option.some.inj hx
   subst hx
   exact .inr ⟨Zai (Zab rfl rfl (dsub hmet rfl (Zcd (Zmn t) (.head _)))) rfl rfl,Zno (fin _ c dn)⟩
  | succ b =>
   unfold rowT at hx
   rw [List.getElem?_cons_succ,qGm] at hx
   refine x1_2 (oms hx) fun e he q=>?_
   obtain ⟨y,x',a,r'⟩:=e
   have q:y=x:=q
   subst q
   have par:=t.par b y x' a r' he
   have hr':r'∈S.P:=(K.ft x' r' par.2.2.1).2
   obtain ⟨s1,s2,s3⟩:=ZmO K.nd hr' t he dn
   have lk:subA (.ref (S.b+5+S.P.length+g)) (nI y) (S.hp c G)=.ok (.tup [nI x',.str r']) (S.hp c G):=dsub hmet rfl (Zcd (Zmn t) (.tail _ (List.mem_map.mpr ⟨_,qMo he,rfl⟩)))
   refine .inl ⟨Zai (Zab rfl rfl lk) rfl rfl,?_⟩
   refine Zal (Zab (Zab rfl rfl lk) rfl rfl) ?_
   refine Zal (Zab (Zab rfl rfl lk) rfl rfl) ?_
   refine ZaA (e_mo rfl hp_0 (i:=32) rfl (ZaE rfl rfl rfl) (ZiG (k:=k) Q K dn.ok hr' s1 (K.ft x' r' par.2.2.1).1 s2)) ?_
   exact Zal rfl (Zam (hJ a _ _ (by lia) ⟨_,x',_,_,_,s3,par.2.1,rfl,rfl⟩))
theorem Zlc (Q:DealR R) (K:SdOK S) (Hh:Hold S.D h) (hf:f<S.n) (t:Tr S.D h f T) (hg:G[g]?=some (.dict (metD f T))) (hr:r∈S.P) (hi:(rowT f T)[i]?=some x) (hfit:r∈S.D.fits x) (hd:∀ z∈h r,S.D.day z≠S.D.day x) (hm:((h r).length:Int)<S.D.most r) :
  ∃ c,R (k+2) false 31 [.ref S.b,.ref (S.b+5+S.P.length+g),nI x,.str r] (S.hp h G)=.ok .none (S.hp c G)∧Dn S.D h S.P f T 0 c:=by
 rw [Q.done _ _ _ _ rfl]
 exact Zn8 (PG:=fun o=>∃ c,o.done=.ok .none (S.hp c G)∧Dn S.D h S.P f T 0 c) Q K Hh hf t hg hr hi hfit hd hm fun ρ c q=>⟨c,rfl,q⟩
end
noncomputable def Sd.hs (S:Sd) (h:Str→List Nat) (G:AH) (f:Nat) (T:List Ent):AH:=S.hp h (G++[.dict (metD f T),.lst ((rowT f T).map nI)])
section
variable {R:Nat→Bool→FT} {k:Nat} {S:Sd} {h:Str→List Nat} {G:AH} {r:Str} {i x y a f:Nat} {T:List Ent} {PG:OutS→Prop} {J:RE→AH→Prop}
theorem G_0 {o o':AO}:(G++[o,o'])[G.length]?=some o:=ZaF (i:=0)
theorem G_1 {o o':AO}:(G++[o,o'])[G.length+1]?=some o':=ZaF (i:=1)
theorem ZjD:(S.hs h G f T)[S.m G]?=some (.dict (metD f T)):=hp_G.trans G_0
theorem ZjE:(S.hs h G f T)[S.m G+1]?=some (.lst ((rowT f T).map nI)):=by
 unfold Sd.m
 rw [Nat.add_assoc]
 exact hp_G.trans G_1
theorem Zog {o o':AO}:((S.hs h G f T).set (S.m G) o).set (S.m G+1) o'=S.hp h (G++[o,o']):=by
 unfold Sd.m Sd.hs
 rw [ZgY (by simp),Nat.add_assoc,ZgY (by simp)]
 congr 1
 rw [List.set_append_right _ _ (Nat.le_refl _),Nat.sub_self,List.set_append_right _ _ (Nat.le_add_right _ _),Nat.add_sub_cancel_left]; rfl
theorem Zha (K:SdOK S) (Hh:Hold S.D h) (hf:f<S.n) (t:Tr S.D h f T):(rowT f T).length≤600:=by
 have h2:=Zca (m:=List.range S.n) t.nd fun z hz=>List.mem_range.mpr (Zgk K t hf Hh hz)
 rw [List.length_range] at h2
 exact Nat.le_trans h2 K.nf
theorem Zng:(metD f T).length=(rowT f T).length:=by unfold metD rowT; rw [List.length_cons,List.length_cons,qLm,qLm]
theorem ZjK {y:Nat}:Key.int y∈(metD f T).map (·.1)↔y∈rowT f T:=by
 rw [Zfy,List.mem_map]
 constructor
 ·rintro ⟨z,hz,e⟩
  have e:(z:Int)=y:=Key.int.inj e
  rw [← Int.ofNat.inj e]
  exact hz
 ·exact fun q=>⟨y,q,rfl⟩
theorem Zli {l:List Nat} {T:List Ent}:(rowT f (l.foldl (add1 f x a r) T)).length≤(rowT f T).length+l.length:=by
 induction l generalizing T with
 | nil=>exact Nat.le_refl _
 | cons z l ih =>
  rw [List.foldl_cons]
  refine Nat.le_trans ih ?_
  unfold add1
  split
  ·rw [List.length_cons]; lia
  ·rw [ZcI,qLa,qLm,List.length_cons,List.length_cons,List.length_nil]; lia
theorem Zn0 {l:List Nat} {b8:Option AV} {r':List DS} (hl:(rowT f T).length≤600) (hn:l.length≤300) (fin:∀ a8,PG (seqS r' [some (.ref S.b),some (nI f),some (.ref (S.m G)),some (.ref (S.m G+1)),some (nI (a+1)),some (nI x),some (.str r),some (.lst (l.map nI)),a8] (S.hs h G f (l.foldl (add1 f x a r) T)))) :
  PG (seqS (forS false (.one 8) (varE 7) (seqS [ifS (cmpE (varE 8) [.NotIn] [(varE 2)]) (seqS [setItemS (varE 2) (varE 8) (tupE [(varE 5),(varE 6)]),exprS (mbE .append (varE 3) [(varE 8)])]) (seqS [])])::r') [some (.ref S.b),some (nI f),some (.ref (S.m G)),some (.ref (S.m G+1)),some (nI (a+1)),some (nI x),some (.str r),some (.lst (l.map nI)),b8] (S.hs h G f T)):=by
 refine Zbt (a:=.lst (l.map nI)) (H₁:=S.hs h G f T) (xs:=l.map nI) rfl rfl rfl
  (fun j ρ H'=>A2 (H'=S.hs h G f ((l.take j).foldl (add1 f x a r) T)) (∃ a8,ρ=[some (.ref S.b),some (nI f),some (.ref (S.m G)),some (.ref (S.m G+1)),some (nI (a+1)),some (nI x),some (.str r),some (.lst (l.map nI)),a8])) ⟨rfl,_,rfl⟩ ?_ ?_
 ·rintro J j v ρ H' hv ⟨rfl,a8,rfl⟩ hJ
  rw [qGm] at hv
  refine x1_2 (oms hv) fun y hj e2'=>?_; subst e2'
  have hjl:=(gsi hj).1
  have e:(l.take (j+1)).foldl (add1 f x a r) T=add1 f x a r ((l.take j).foldl (add1 f x a r) T) y:=by
   rw [List.take_add_one,hj,List.foldl_append]; rfl
  have hb:=Zli (f:=f) (x:=x) (a:=a) (r:=r) (l:=l.take j) (T:=T)
  rw [qLt] at hb
  rw [e] at hJ
  clear e hv
  generalize (l.take j).foldl (add1 f x a r) T=T' at hb hJ
  show Nx _ _ ((_:DS) [some (.ref S.b),some (nI f),some (.ref (S.m G)),some (.ref (S.m G+1)),some (nI (a+1)),some (nI x),some (.str r),some (.lst (l.map nI)),some (nI y)] _)
  refine p_if (x:=!decide (y∈rowT f T')) (Zai rfl rfl ((congrArg (Option.map (!·)) (din ZjD rfl)).trans (by rw [decide_eq_decide.mpr (ZjK (y:=y))]; rfl))) (fun q=>?_) fun q=>?_
  ·have q:y∉rowT f T':=by simpa using q
   unfold add1 at hJ
   rw [if_neg q] at hJ
   refine Ze2 (P:=Th _ _) (ZcC (ZaI rfl rfl) (by simp)) rfl rfl (dset ZjD rfl (by rw [Zng]; lia) fun w=>q (ZjK.mp w)) ?_
   have hrow:((S.hs h G f T').set (S.m G) (.dict (metD f T'++[(Key.int y,.tup [nI x,.str r])])))[S.m G+1]?=some (.lst ((rowT f T').map nI)):=(Zaf (by lia)).trans ZjE
   refine ZaA (P:=Th _ _) (Zax rfl hrow (Zaa rfl) hrow (by rw [qLm]; lia)) (ZaG (hJ _ _ ⟨?_,_,rfl⟩))
   refine Zog.trans ?_
   unfold Sd.hs
   rw [ZcI,qMa]
   unfold metD
   rw [qMa]; rfl
  ·have q:y∈rowT f T':=by simpa using q
   unfold add1 at hJ
   rw [if_pos q] at hJ
   exact ZaG (hJ _ _ ⟨rfl,_,rfl⟩)
 ·rintro ρ H' ⟨rfl,a8,rfl⟩
  rw [qLm,List.take_length]
  exact fin a8
theorem Zop {H:AH}:cmpA H .NotEq (nI x) (nI y)=some (!decide (x=y)):=congrArg (Option.map (!·)) (ZmS (H:=H) (x:=x) (y:=y))
theorem ZoB (Q:DealR R) (K:SdOK S) (Hh:Hold S.D h) (hf:f<S.n) (t:Tr S.D h f T) (ht:∀ e∈T,e.2.2.1≤a) (ha:(rowT f T)[a]?=some x) (hr:r∈S.D.fits x) {a7 a8:Option AV}
  (hJ:∀ T' a7 a8,Tr S.D h f (T++T')→(∀ e∈T',e.2=(x,a,r))→Seen S.D h f (T++T') x r→J [some (.ref S.b),some (nI f),some (.ref (S.m G)),some (.ref (S.m G+1)),some (nI (a+1)),some (nI x),some (.str r),a7,a8] (S.hs h G f (T++T')))
  (finT:∀ c L,Dn S.D h S.P f T 0 c→PG (.ret (.bool true) (S.hp c (G++L)))) :
  Nx J PG (Zbx (R (k+2)) false [some (.ref S.b),some (nI f),some (.ref (S.m G)),some (.ref (S.m G+1)),some (nI (a+1)),some (nI x),some (.str r),a7,a8] (S.hs h G f T)):=by
 have hxn:=(K.ft x r hr).1
 have hrP:=(K.ft x r hr).2
 obtain ⟨p,hp⟩:=List.getElem?_of_mem hrP
 have hl:=Zc3 (r:=r) K Hh
 have hh:=Zdt (h:=h) (G:=G++[.dict (metD f T),.lst ((rowT f T).map nI)]) hp
 have hT0:T++[]=T:=List.append_nil T
 have hrow:=Zha K Hh hf t
 have gt:=ZmR (ρ:=[some (.ref S.b),some (nI f),some (.ref (S.m G)),some (.ref (S.m G+1)),some (nI (a+1)),some (nI x),some (.str r),a7,a8]) (ZfM K hp (h:=h) (G:=G++[.dict (metD f T),.lst ((rowT f T).map nI)]) (e:=varE 0) (f:=varE 6) rfl rfl) (ZgM K hxn (e:=varE 0) (f:=varE 5) rfl rfl) hh rfl hl
 by_cases hx:x∈h r
 ·rw [ZbZ (Hh.nd r) hx] at gt
  refine p_if (x:=false) (Zai gt rfl (Zop.trans (by rw [decide_eq_true rfl]; rfl))) (fun q=>nomatch q) fun _=>?_
  have:=hJ [] a7 a8 (by rw [hT0]; exact t) (fun _ q=>absurd q List.not_mem_nil) (by rw [hT0]; exact .inl ⟨x,hx,rfl,qMo ha⟩)
  rw [hT0] at this
  exact ZaG this
 ·refine p_if (x:=true) (Zai gt rfl ?_) (fun _=>?_) fun q=>nomatch q
  ·by_cases q:∃ y∈h r,S.D.day y=S.D.day x
   ·refine x1_2 q fun y hy e=>?_
    rw [← e,ZbZ (Hh.nd r) hy]
    exact Zop.trans (by rw [decide_eq_false (show ¬ y=x from fun w=>hx (w▸hy))]; rfl)
   ·rw [ZjS (Zfp fun z hz e=>q ⟨z,hz,e⟩)]; rfl
  ·refine x1_2 (Zlx (k:=k+1) (G:=G++[.dict (metD f T),.lst ((rowT f T).map nI)]) Q K Hh hrP hxn) fun v run lv=>?_
   refine Zal (P:=Th _ _) (e_mo rfl hp_0 (i:=29) rfl (ZaI rfl rfl) run) ?_
   cases lv with
   | one y h1 h2 =>
    refine ZaK (P:=Th _ _) (Zai rfl rfl rfl) ?_
    refine Zn0 (PG:=Th _ _) (l:=[y]) hrow (by simp) fun a8=>ZaG ?_
    obtain ⟨T',e1,e2,e3,e4⟩:=tr_S t ha hr h1 h2
    show J _ (S.hs h G f (add1 f x a r T y))
    rw [e1]
    exact hJ T' _ _ e2 e3 e4
   | free h1 h2 =>
    refine p_if (P:=Th _ _) (x:=true) (Zai rfl rfl rfl) (fun _=>?_) fun q=>nomatch q
    refine x1_2 (Zlc (k:=k) (g:=G.length) (G:=G++[.dict (metD f T),.lst ((rowT f T).map nI)]) Q K Hh hf t G_0 hrP ha hr h1 h2) fun c run dn=>?_
    exact ZaA (P:=Th _ _) (e_mo rfl hp_0 (i:=31) rfl (ZaE rfl rfl rfl) run) (ZaZ (P:=Th _ _) rfl (finT c _ dn))
   | full h1 h2 =>
    refine ZaK (P:=Th _ _) (Zai rfl rfl rfl) ?_
    refine Zn0 (PG:=Th _ _) (l:=h r) hrow (by have:=Hh.mo r; have:=K.mo r; lia) fun a8=>ZaG ?_
    obtain ⟨T',e1,e2,e3,e4⟩:=tr_F t ht ha hr h1 h2
    rw [e1]
    exact hJ T' _ _ e2 e3 e4
theorem Zl9 (Q:DealR R) (K:SdOK S) (Hh:Hold S.D h) (hf:f<S.n)
  (finT:∀ c L T,Dn S.D h S.P f T 0 c→PG (.ret (.bool true) (S.hp c (G++L)))) (finF:∀ T,Tr S.D h f T→(∀ x∈rowT f T,∀ r∈S.D.fits x,Seen S.D h f T x r)→PG (.ret (.ref (S.m G)) (S.hs h G f T))) :
  PG (Zbo (R (k+2)) false (rho0 [.ref S.b,nI f] 9) (S.hp h G)):=by
 have e1:dct1E (varE 1) (cstE .none) (rho0 [.ref S.b,nI f] 9) (S.hp h G)=.ok (.ref (S.m G)) (S.hp h (G++[.dict (metD f [])])):=by
  have hl:(S.hp h G).length=S.m G:=ZjB
  show (if (dcOf (S.hp h G++[.dict []]) (.ref (S.hp h G).length)).isSome=true then orBad (setItemA (.ref (S.hp h G).length) (nI f) .none (S.hp h G++[.dict []])) _ else _)=_
  rw [ZaN Zaj]
  show orBad (setItemA (.ref (S.hp h G).length) (nI f) .none (S.hp h G++[.dict []])) _=_
  rw [dset (es:=[]) (k:=.int f) Zaj rfl (by simp) (by simp)]
  show Out.ok _ _=_
  rw [← hl,List.set_append_right _ _ (Nat.le_refl _),Nat.sub_self]
  show Out.ok _ (S.hp h G++[.dict [(Key.int f,.none)]])=_
  rw [ZjA]; rfl
 refine Zal e1 ?_
 refine Zal (a:=.ref (S.m G+1)) (H₁:=S.hs h G f []) (ZeI (Zaa rfl) (by simp) (by
  show Out.ok (AV.ref (S.hp h (G++[.dict (metD f [])])).length) _=_
  rw [ZjB,ZjA,qAa,qLa]; rfl)) ?_
 refine Zal (a:=nI 0) (H₁:=S.hs h G f []) rfl ?_
 refine Zj6 (m:=S.n) (fun m ρ H'=>Ex6 fun (T:List Ent) (a:Nat) (a5 a6 a7 a8:Option AV)=>A4 (Srch S.D h f T a) (m=S.n-a) (H'=S.hs h G f T) (ρ=[some (.ref S.b),some (nI f),some (.ref (S.m G)),some (.ref (S.m G+1)),some (nI a),a5,a6,a7,a8])) (by have:=K.nf; exact lt_t ‹_› rfl) ⟨[],0,none,none,none,none,⟨⟨?_,fun b y x a r q=>nomatch q⟩,fun _ q=>(List.not_mem_nil q).elim,fun i x q=>absurd q (Nat.not_lt_zero _)⟩,rfl,rfl,rfl⟩ ?_
 ·exact List.pairwise_singleton _ _
 ·rintro W m ρ H' ⟨T,a,a5,a6,a7,a8,s,rfl,rfl,rfl⟩ hW
  have hrow:=Zha K Hh hf s.tr
  have len:biE false .len [varE 3] [some (.ref S.b),some (nI f),some (.ref (S.m G)),some (.ref (S.m G+1)),some (nI a),a5,a6,a7,a8] (S.hs h G f T)=.ok (nI (rowT f T).length) (S.hs h G f T):=e_bi (Zaa rfl) ((IsL.len (N:=S.m G+2) (.inr ⟨_,rfl,by exact Nat.lt_add_one _,ZjE⟩) (by rw [qLm]; exact le_t ‹_› rfl)).trans (by rw [qLm]; rfl))
  have lt:cmpE (varE 4) [.Lt] [biE false .len [varE 3]] [some (.ref S.b),some (nI f),some (.ref (S.m G)),some (.ref (S.m G+1)),some (nI a),a5,a6,a7,a8] (S.hs h G f T)=.ok (.bool (decide (a<(rowT f T).length))) (S.hs h G f T):=Zai rfl len (by
   show some (decide ((a:Int)<((rowT f T).length:Int)))=_
   rw [decide_eq_decide.mpr Int.ofNat_lt])
  by_cases q:a<(rowT f T).length
  ·rw [decide_eq_true q] at lt
   refine .inl ⟨lt,?_⟩
   obtain ⟨x,hx⟩:∃ x,(rowT f T)[a]?=some x:=⟨_,qGg q⟩
   have hxn:=Zgk K s.tr hf Hh (qMo hx)
   refine Zal (a:=nI x) (Zab rfl rfl (ZcK ZjE (Int.natCast_nonneg _) (by rw [Int.toNat_natCast,qGm,hx]; rfl) (by rw [qLm]; exact le_t ‹_› rfl))) ?_
   refine Zal (a:=nI (a+1)) (H₁:=S.hs h G f T) (Zay rfl rfl rfl) ?_
   have hfits:(fitsL S.D S.n)[x]?=some (.lst ((S.D.fits x).map .str)):=by unfold fitsL; rw [qGm,List.getElem?_range hxn]; rfl
   refine Zbt (a:=.lst ((S.D.fits x).map .str)) (H₁:=S.hs h G f T) (xs:=(S.D.fits x).map .str) (Zab (Zas rfl hp_0 rfl) rfl (ZcK hp_2 (Int.natCast_nonneg _) (by rw [Int.toNat_natCast]; exact hfits) (by unfold fitsL; rw [qLm,List.length_range]; have:=K.nf; exact le_t ‹_› rfl))) rfl rfl
    (fun j ρ H'=>Ex4 fun (T:List Ent) (a6 a7 a8:Option AV)=>A5 (Srch S.D h f T a) ((rowT f T)[a]?=some x) (∀ r∈(S.D.fits x).take j,Seen S.D h f T x r) (H'=S.hs h G f T) (ρ=[some (.ref S.b),some (nI f),some (.ref (S.m G)),some (.ref (S.m G+1)),some (nI (a+1)),some (nI x),a6,a7,a8])) ⟨T,_,_,_,s,hx,fun r q=>by rw [List.take_zero] at q; exact absurd q List.not_mem_nil,rfl,rfl⟩ ?_ ?_
   ·rintro J j v ρ H' hv ⟨T,a6,a7,a8,s,hx,hs,rfl,rfl⟩ hJ
    rw [qGm] at hv
    refine x1_2 (oms hv) fun r hj e2'=>?_; subst e2'
    refine ZoB (k:=k) Q K Hh hf s.tr s.le hx (qMo hj) (fun T' a7 a8 t' e' sn=>hJ _ _ ⟨T++T',_,_,_,⟨t',fun e he=>?_,fun i z hi hz r' hr'=>?_⟩,Zhb hx,fun r' hr'=>?_,rfl,rfl⟩) fun c L dn=>finT c L T dn
    ·rcases qMp he with he | he
     ·exact s.le e he
     ·rw [e' e he]; exact Nat.le_refl _
    ·have hz':(rowT f T)[i]?=some z:=by
      have:=(gsi hx).1
      rw [ZcI,qGl (Nat.lt_trans ‹_› ‹_›)] at hz
      exact hz
     exact (s.seen i z hi hz' r' hr').mono
    ·rw [List.take_add_one,hj] at hr'
     rcases qMp hr' with hr' | hr'
     ·exact (hs r' hr').mono
     ·have:r'=r:=qMs hr'
      rw [this]; exact sn
   ·rintro ρ H' ⟨T,a6,a7,a8,s,hx,hs,rfl,rfl⟩
    rw [qLm,List.take_length] at hs
    have hrow:=Zha K Hh hf s.tr
    have hlt:=(gsi hx).1
    have hrn:(rowT f T).length≤S.n:=by
     have h2:=Zca (m:=List.range S.n) s.tr.nd fun z hz=>List.mem_range.mpr (Zgk K s.tr hf Hh hz)
     rw [List.length_range] at h2
     exact h2
    refine Zam (hW (S.n-(a+1)) _ _ (by exact Nat.sub_lt_sub_left (Nat.lt_of_lt_of_le ‹_› ‹_›) (Nat.lt_succ_self _)) ⟨T,a+1,_,_,_,_,⟨s.tr,fun e he=>Nat.le_succ_of_le (s.le e he),fun i z hi hz r' hr'=>?_⟩,rfl,rfl,rfl⟩)
    rcases Nat.lt_succ_iff_lt_or_eq.mp hi with hi | rfl
    ·exact s.seen i z hi hz r' hr'
    ·cases hx.symm.trans hz
     exact hs r' hr'
  ·rw [decide_eq_false q] at lt
   refine .inr ⟨lt,ZaZ rfl (finF T s.tr fun x hx r hr=>?_)⟩
   obtain ⟨i,hi⟩:=List.getElem?_of_mem hx
   exact s.seen i x (by have:=(gsi hi).1; lia) hi r hr
theorem ZiK (Q:DealR R) (K:SdOK S) (Hh:Hold S.D h) (hf:f<S.n) :
  (∃ c L T,R (k+3) false 30 [.ref S.b,nI f] (S.hp h G)=.ok (.bool true) (S.hp c (G++L))∧Dn S.D h S.P f T 0 c)∨∃ T,R (k+3) false 30 [.ref S.b,nI f] (S.hp h G)=.ok (.ref (S.m G)) (S.hs h G f T)∧Tr S.D h f T∧∀ x∈rowT f T,∀ r∈S.D.fits x,Seen S.D h f T x r:=by
 rw [Q.sought _ _ _ _ rfl]
 exact Zl9 (PG:=fun o=>(∃ c L T,o.done=.ok (.bool true) (S.hp c (G++L))∧Dn S.D h S.P f T 0 c)∨∃ T,o.done=.ok (.ref (S.m G)) (S.hs h G f T)∧Tr S.D h f T∧∀ x∈rowT f T,∀ r∈S.D.fits x,Seen S.D h f T x r) Q K Hh hf (fun c L T dn=>.inl ⟨c,L,T,rfl,dn⟩) fun T t s=>.inr ⟨T,rfl,t,s⟩
end
noncomputable def dkOf (ps:List Pm) (ss:List Sm):Dk where
 day x:=match (allSN ss)[x]? with | some e=>e.1.hours.1 / 24 | none=>0
 fits x:=match (allSN ss)[x]? with | some e=>(ps.filter fun p=>mayM p e.1 e.2.1).map (·.name) | none=>[]
 most r:=match ps.find? (fun p=>decide (p.name=r)) with | some p=>p.limit | none=>0
noncomputable def sdOf (H0:AH) (ps:List Pm) (ss:List Sm):Sd:=⟨H0,dkOf ps ss,ps.map (·.name),(allSN ss).length,(postsM ss).map postAV⟩
section
variable {R:Nat→Bool→FT} {k:Nat} {H0:AH} {N bk:Nat} {ps:List Pm} {ss:List Sm} {PG:OutS→Prop} {x:Nat}
theorem ZhD {e:Sm×(Str×Int)} (h:(allSN ss)[x]?=some e):(dkOf ps ss).day x=e.1.hours.1 / 24:=by
 show (match (allSN ss)[x]? with | some e=>e.1.hours.1 / 24 | none=>0)=_
 rw [h]
theorem ZgR {e:Sm×(Str×Int)} (h:(allSN ss)[x]?=some e):(dkOf ps ss).fits x=(ps.filter fun p=>mayM p e.1 e.2.1).map (·.name):=by
 show (match (allSN ss)[x]? with | some e=>(ps.filter fun p=>mayM p e.1 e.2.1).map (fun p:Pm=>p.name) | none=>[])=_
 rw [h]
theorem ZgS (hn:(ps.map (·.name)).Nodup) {p:Pm} (hp:p∈ps):(dkOf ps ss).most p.name=p.limit:=by
 show (match ps.find? (fun q=>decide (q.name=p.name)) with | some p=>p.limit | none=>0)=_
 cases q:ps.find? (fun q=>decide (q.name=p.name)) with
 | none=>exact absurd (decide_eq_true rfl) (List.find?_eq_none.mp q p hp)
 | some y =>
  have e:y.name=p.name:=of_decide_eq_true (List.find?_some (p:=fun (q:Pm)=>decide (q.name=p.name)) q)
  rw [ZeX hn (List.mem_of_find?_eq_some q) hp e]
theorem Zo5 (G:Good ps ss) (hl:∀ p∈ps,p.limit≤100):SdOK (sdOf H0 ps ss):=by
 refine ⟨G.pn,by show (ps.map _).length≤_; rw [qLm]; exact G.pf,ZiQ G,fun x r hr=>?_,fun r=>?_⟩
 ·cases e:(allSN ss)[x]? with
  | none =>
   have hr:r∈(dkOf ps ss).fits x:=hr
   unfold dkOf at hr
   simp only [e] at hr
   exact absurd hr List.not_mem_nil
  | some z =>
   have hr:r∈(dkOf ps ss).fits x:=hr
   rw [ZgR e] at hr
   refine x1_2 (qMm hr) fun p hp q=>?_; subst q
   exact ⟨(gsi e).1,List.mem_map_of_mem (List.mem_filter.mp hp).1⟩
 ·show (match ps.find? (fun p=>decide (p.name=r)) with | some p=>p.limit | none=>0)≤100
  split
  ·rename_i p h
   exact hl p (List.mem_of_find?_eq_some h)
  ·decide
theorem Zgf {P:OutS→Prop} {ρ:RE} {H H₁ H₂:AH} {e e':DE} {v:AV} {r:List DS} {i n c:Nat} {fs:List (Option AV)} (h1:e ρ H=.ok v H₁) (h2:e' ρ H₁=.ok (.ref n) H₂) (h3:H₂[n]?=some (.inst c fs)) (h4:i<fs.length) (q:P (seqS r ρ (H₂.set n (.inst c (fs.set i (some v)))))):P (seqS (setAttrS i e' e::r) ρ H):=by rw [ZdF h1 h2 h3 h4 rfl]; exact q
theorem Zcu {fs:List (Option AV)} {L:AH}:(H0++(AO.inst 3 fs::L))[H0.length]?=some (.inst 3 fs):=ZaF (i:=0)
theorem Zgt {fs fs':List (Option AV)} {L:AH}:(H0++(AO.inst 3 fs::L)).set H0.length (.inst 3 fs')=H0++(AO.inst 3 fs'::L):=by
 rw [List.set_append_right _ _ (Nat.le_refl _),Nat.sub_self]; rfl
theorem Zhi {i:Nat} {L:AH} {o:AO}:(H0++L).set (H0.length+i) o=H0++L.set i o:=by
 rw [List.set_append_right _ _ (Nat.le_add_right _ _),Nat.add_sub_cancel_left]
theorem Zg8:((postsM ss).map postAV).length=(allSN ss).length:=by rw [qLm,ZaT,qLm]
theorem Zjr {D:Dk} {j:Nat}:fitsL D (j+1)=fitsL D j++[.lst ((D.fits j).map .str)]:=by unfold fitsL; rw [List.range_succ,qMa]; rfl
theorem ZmD {b j:Nat} {P:List Str} {r:Str} (h:P[j]?=some r):atD b (P.take (j+1))=atD b (P.take j)++[(.str r,.ref (b+j))]:=by
 unfold atD
 have hl:=(gsi h).1
 rw [List.take_add_one,h,List.zipIdx_append,qMa,qLt,Nat.min_eq_left (Nat.le_of_lt hl)]; rfl
theorem ZjZ {D:Dk} {j:Nat} {P:List Str} {r:Str} (h:P[j]?=some r):mostD D (P.take (j+1))=mostD D (P.take j)++[(.str r,.int (D.most r))]:=by
 unfold mostD
 rw [List.take_add_one,h,qMa]; rfl
theorem Ziq {D:Dk} {j:Nat} {P:List Str} {r:Str} {h:Str→List Nat} (e:P[j]?=some r):heldO D (P.take (j+1)) h=heldO D (P.take j) h++[.dict (heldD D (h r))]:=by
 unfold heldO
 rw [List.take_add_one,e,qMa]; rfl
theorem Zoh (C:BookR R) (My:MayR R) (Rd:ReadR R) (B:BookOf N H0 bk ps ss) (G:Good ps ss) (fin:∀ ρ,PG (.next ρ ((sdOf H0 ps ss).hp (fun _=>[]) []))):PG (ZbR (R (k+3)) false (rho0 [.ref H0.length,.ref bk] 5) (H0++[.inst 3 (List.replicate 12 none)])):=by
 have Bu:∀ L:AH,BookOf N (H0++L) bk ps ss:=fun L=>B.up Up.app
 obtain ⟨f0,hb⟩:=B.at
 have hb:∀ L:AH,(H0++L)[bk]?=some (.inst 2 f0):=fun L=>(Up.app (H:=H0) (l:=L)).get hb
 have hn:=ZiQ G
 have hpn:=Zg8 (ss:=ss)
 have hpf:=G.pf
 refine Zgf (e_mo rfl (hb _) (i:=20) rfl Zek (Zh0 (k:=k+2) Rd (Bu _) G)) rfl (by rw [qAa]; exact Zcu) (by show _<12; decide) ?_
 rw [qAa,show [AO.inst 3 (List.replicate 12 none)]++[.lst ((postsM ss).map postAV)]=.inst 3 (List.replicate 12 none)::[.lst ((postsM ss).map postAV)] from rfl,Zgt,show (H0++[AO.inst 3 (List.replicate 12 none)]).length=H0.length+1 by simp]
 have hpl:∀ (fs:List (Option AV)) (L:AH),(H0++(AO.inst 3 fs::.lst ((postsM ss).map postAV)::L))[H0.length+1]?=some (.lst ((postsM ss).map postAV)):=fun fs L=>ZaF (i:=1)
 refine Zgf (v:=.lst (daysL (dkOf ps ss) (allSN ss).length)) (H₁:=H0++(AO.inst 3 [none,none,none,none,none,none,none,some (.ref (H0.length+1)),none,none,none,none]::[.lst ((postsM ss).map postAV)])) (Zea (l:=List.range (allSN ss).length) (fx:=fun x=>((postsM ss).map postAV).getD x .none) (fy:=fun x=>.int ((dkOf ps ss).day x)) (Zas rfl Zcu rfl) ?_ (by rw [List.length_range]; exact le_t ‹_› rfl) (fun x hx=>?_) rfl) rfl Zcu (by show _<12; decide) ?_
 ·refine .inr ⟨_,rfl,by simp,?_⟩
  rw [hpl]
  congr 2
  refine List.ext_getElem? fun x=>?_
  rw [List.getElem?_map (f:=fun x=>((postsM ss).map postAV).getD x .none)]
  by_cases q:x<(allSN ss).length
  ·rw [List.getElem?_range q,qGg (by rw [hpn]; exact q)]
   show _=some (((postsM ss).map postAV).getD x .none)
   rw [List.getD_eq_getElem?_getD,qGg (by rw [hpn]; exact q)]; rfl
  ·rw [List.getElem?_eq_none (by rw [hpn]; exact Nat.not_lt.mp ‹_›),List.getElem?_eq_none (by rw [List.length_range]; exact Nat.not_lt.mp ‹_›)]; rfl
 ·have q:=List.mem_range.mp hx
  obtain ⟨e,he⟩:∃ e,(allSN ss)[x]?=some e:=⟨_,qGg q⟩
  have hp:((postsM ss).map postAV).getD x .none=.tup [.str e.1.name,.str e.2.1]:=by
   rw [List.getD_eq_getElem?_getD,ZaT,List.map_map,qGm,he]; rfl
  rw [hp,ZhD he]
  exact Zac (ZaI (Zak rfl) (Zab (Zag rfl) rfl rfl)) (day_at (k:=k) C Rd (Bu _) G.sn (ZbA (qMo he)).1)
 rw [Zgt]
 refine Zgf (ZeI Zek (by simp) rfl) rfl (by rw [qAa]; exact Zcu) (by show _<12; decide) ?_
 rw [qAa,show ∀ fs,(AO.inst 3 fs::[AO.lst ((postsM ss).map postAV)])++[.lst []]=.inst 3 fs::[.lst ((postsM ss).map postAV),.lst []] from fun _=>rfl,Zgt,show ∀ fs,(H0++(AO.inst 3 fs::[AO.lst ((postsM ss).map postAV)])).length=H0.length+2 from fun fs=>by simp]
 refine Zg6 (N:=H0.length+2) (a:=.ref (H0.length+1)) (xs:=(postsM ss).map postAV) (Zas rfl Zcu rfl) (.inr ⟨_,rfl,by exact Nat.lt_add_one _,hpl _ _⟩)
  (fun j ρ H'=>A2 (H'=H0++(AO.inst 3 [none,none,none,none,none,none,none,some (.ref (H0.length+1)),some (.lst (daysL (dkOf ps ss) (allSN ss).length)),some (.ref (H0.length+2)),none,none]::[.lst ((postsM ss).map postAV),.lst (fitsL (dkOf ps ss) j)])) (Ex2 fun a2 a3=>ρ=[some (.ref H0.length),some (.ref bk),a2,a3,none])) ⟨rfl,_,_,rfl⟩ (fun j ρ H' q=>by
   rw [q.1]
   refine ⟨by simp,fun z hz=>?_⟩
   rcases Nat.lt_or_ge z H0.length with w | w
   ·rw [qGl w,qGl w]
   ·obtain ⟨d,rfl⟩:∃ d,z=H0.length+d:=⟨z-H0.length,by exact (Nat.add_sub_cancel' ‹_›).symm⟩
    rw [ZaF,ZaF]
    match d,hz with
    | 0,_=>rfl
    | 1,_=>rfl
    | d+2,hz=>exact absurd hz (by lia)) ?_ ?_
 ·rintro J j v ρ H' hv ⟨rfl,a2,a3,rfl⟩ hJ
  rw [ZaT,List.map_map,qGm] at hv
  refine x1_2 (oms hv) fun e hj e2'=>?_; subst e2'
  have hm:=ZbA (qMo hj)
  have hjl:=(gsi hj).1
  refine ⟨[some (.ref H0.length),some (.ref bk),some (.str e.1.name),some (.str e.2.1),none],rfl,?_⟩
  have hfi:∀ fs:List (Option AV),(H0++(AO.inst 3 fs::[.lst ((postsM ss).map postAV),.lst (fitsL (dkOf ps ss) j)]))[H0.length+2]?=some (.lst (fitsL (dkOf ps ss) j)):=fun fs=>ZaF (i:=2)
  refine ZaA (Zax (Zas rfl Zcu rfl) (hfi _) (Zaa (Zbq (l:=ps) (fx:=fun p=>.str p.name) (fy:=fun p=>.str p.name) (p:=fun p=>mayM p e.1 e.2.1) (e_mo rfl (hb _) (i:=18) rfl Zek (Zc9 (k:=k+2) Rd (Bu _))) (.inl rfl) (le_t ‹_› rfl) (fun p hp=>e_mo (Zak rfl) (hb _) (i:=26) rfl (ZaE (Zag rfl) (Zak rfl) (Zak rfl)) (Zoo (k:=k+1) C My (Bu _) G hp hm.1)) (fun p _ _=>Zag rfl) rfl)) (hfi _) (by unfold fitsL; rw [qLm,List.length_range]; exact Nat.le_of_lt (Nat.lt_of_lt_of_le ‹_› (le_t ‹_› rfl)))) (Zam (hJ _ _ ⟨?_,_,_,rfl⟩))
  rw [Zhi,Zjr,ZgR hj,List.map_map]; rfl
 ·rintro ρ H' ⟨rfl,a2,a3,rfl⟩
  rw [hpn]
  refine Zgf (v:=.ref (H0.length+3)) (e:=dct0E) (by show Out.ok (AV.ref _) _=_; rw [qLa]; rfl) rfl (by rw [qAa]; exact Zcu) (by show _<12; decide) ?_
  rw [qAa,show ∀ fs,(AO.inst 3 fs::[AO.lst ((postsM ss).map postAV),.lst (fitsL (dkOf ps ss) (allSN ss).length)])++[.dict []]=.inst 3 fs::[.lst ((postsM ss).map postAV),.lst (fitsL (dkOf ps ss) (allSN ss).length),.dict []] from fun _=>rfl,Zgt]
  refine Zgf (v:=.ref (H0.length+4)) (e:=dct0E) (by show Out.ok (AV.ref _) _=_; rw [qLa]; rfl) rfl (by rw [qAa]; exact Zcu) (by show _<12; decide) ?_
  rw [qAa,show ∀ fs,(AO.inst 3 fs::[AO.lst ((postsM ss).map postAV),.lst (fitsL (dkOf ps ss) (allSN ss).length),.dict []])++[.dict []]=.inst 3 fs::[.lst ((postsM ss).map postAV),.lst (fitsL (dkOf ps ss) (allSN ss).length),.dict [],.dict []] from fun _=>rfl,Zgt]
  refine Zbt (a:=.lst (ps.map fun p=>.str p.name)) (xs:=ps.map fun p=>.str p.name) (e_mo rfl (hb _) (i:=18) rfl Zek (Zc9 (k:=k+2) Rd (Bu _))) rfl rfl
   (fun j ρ H'=>A2 (H'=H0++(AO.inst 3 (sdOf H0 ps ss).inst::.lst ((postsM ss).map postAV)::.lst (fitsL (dkOf ps ss) (allSN ss).length)::.dict (atD (H0.length+5) ((ps.map (·.name)).take j))::.dict (mostD (dkOf ps ss) ((ps.map (·.name)).take j))::heldO (dkOf ps ss) ((ps.map (·.name)).take j) fun _=>[])) (∃ a4,ρ=[some (.ref H0.length),some (.ref bk),a2,a3,a4])) ⟨rfl,_,rfl⟩ ?_ ?_
  ·rintro J j v ρ H' hv ⟨rfl,a4,rfl⟩ hJ
   rw [qGm] at hv
   refine x1_2 (oms hv) fun p hj e2'=>?_; subst e2'
   have hp:=qMo hj
   have hjn:(ps.map (·.name))[j]?=some p.name:=by rw [qGm,hj]; rfl
   have hjl:=(gsi hj).1
   have hno:p.name∉(ps.map (·.name)).take j:=Za7 G.pn hjn
   have hlen:(heldO (dkOf ps ss) ((ps.map (·.name)).take j) fun _=>[]).length=j:=by unfold heldO; rw [qLm,qLt,qLm]; lia
   rw [ZmD hjn,ZjZ hjn,Ziq hjn,ZgS G.pn hp] at hJ
   have hal:(atD (H0.length+5) ((ps.map (·.name)).take j)).length≤1000:=by unfold atD; rw [qLm,List.length_zipIdx,qLt]; lia
   have hml:(mostD (dkOf ps ss) ((ps.map (·.name)).take j)).length≤1000:=by unfold mostD; rw [qLm,qLt]; lia
   have hak:Key.str p.name∉(atD (H0.length+5) ((ps.map (·.name)).take j)).map (·.1):=fun q=>by
    refine x1_2 (qMm q) fun e he e'=>?_
    refine x1_2 (qMm he) fun w hw e2=>?_; subst e2
    have e':w.1=p.name:=Key.str.inj e'
    exact hno (e'▸List.fst_mem_of_mem_zipIdx hw)
   have hmk:Key.str p.name∉(mostD (dkOf ps ss) ((ps.map (·.name)).take j)).map (·.1):=fun q=>by
    refine x1_2 (qMm q) fun e he e'=>?_
    refine x1_2 (qMm he) fun w hw e2=>?_; subst e2
    have e':w=p.name:=Key.str.inj e'
    exact hno (e'▸hw)
   generalize atD (H0.length+5) ((ps.map (·.name)).take j)=A at hal hak hJ
   generalize mostD (dkOf ps ss) ((ps.map (·.name)).take j)=M at hml hmk hJ
   generalize (heldO (dkOf ps ss) ((ps.map (·.name)).take j) fun _=>[])=Q at hlen hJ
   show Nx _ _ ((_:DS) [some (.ref H0.length),some (.ref bk),a2,a3,some (.str p.name)] _)
   refine Ze2 (v:=.ref (H0.length+5+j)) (by show Out.ok (AV.ref _) _=_; rw [qLa]; simp only [List.length_cons,hlen]; congr 2; lia) (Zas (v:=.ref (H0.length+3)) rfl (by rw [qAa]; exact Zcu) rfl) rfl (dset (es:=A) (k:=.str p.name) (by rw [qAa]; exact ZaF (i:=3)) rfl hal hak) ?_
   rw [qAa,Zhi]
   refine Ze2 (v:=.int p.limit) (e_mo rfl (hb _) (i:=23) rfl (Zaa rfl) (limit_of (k:=k+1) C Rd (Bu _) G.pn hp)) (Zas (v:=.ref (H0.length+4)) rfl Zcu rfl) rfl (dset (es:=M) (k:=.str p.name) (ZaF (i:=4)) rfl hml hmk) ?_
   rw [Zhi]
   exact Zam (hJ _ _ ⟨rfl,_,rfl⟩)
  ·rintro ρ H' ⟨rfl,a4,rfl⟩
   rw [qLm,List.take_of_length_le (by rw [qLm]; exact Nat.le_refl _)]
   have:=fin [some (.ref H0.length),some (.ref bk),a2,a3,a4]
   unfold Sd.hp at this
   rw [List.append_nil] at this
   exact Zno this
theorem Zlm (Q:DealR R) (C:BookR R) (My:MayR R) (Rd:ReadR R) (B:BookOf N H0 bk ps ss) (G:Good ps ss):R (k+4) false 28 [.ref H0.length,.ref bk] (H0++[.inst 3 (List.replicate 12 none)])=.ok .none ((sdOf H0 ps ss).hp (fun _=>[]) []):=by
 rw [Q.init _ _ _ _ rfl]
 exact Zoh (PG:=fun o=>o.done=.ok .none ((sdOf H0 ps ss).hp (fun _=>[]) [])) C My Rd B G fun _=>rfl
end
section
variable {P:OutS→Prop} {ρ ρ₁:RE} {H H₁:AH} {a:AV} {e:DE} {r:List DS} {hot:Bool}
theorem Zmo {is:List Nat} (h:e ρ H=.ok a H₁) (hb:bindT hot (.many is) a ρ=some ρ₁) (q:P (seqS r ρ₁ H₁)):P (seqS (assignS hot (.many is) e::r) ρ H):=by
 have:assignS hot (.many is) e ρ H=.next ρ₁ H₁:=by
  unfold assignS
  rw [h]
  show orBadS (bindT hot (.many is) a ρ) _=_
  rw [hb]; rfl
 exact Zoz this q
end
theorem ZlE {α β:Type} {f:β→AV} {g:α→β} {l:List α} {H:AH}:newL true (l.map fun x=>f (g x)) H=.ok (.ref H.length) (H++[.lst ((l.map g).map f)]):=by rw [List.map_map]; rfl
noncomputable def toldS (ss:List Sm) (M:List Nat):List (Str×Str):=(sortI (M.map fun x:Nat=>(x:Int))).map fun i=>(postsM ss).getD i.toNat ("", "")
noncomputable def cntS (ss:List Sm) (x:Nat):Nat:=match (allSN ss)[x]? with | some e=>e.2.2.toNat | none=>0
noncomputable def rowX (P:List Str) (h:Str→List Nat) (x:Nat) (e:Sm×(Str×Int)):List AV:=(P.filter fun r=>decide (x∈h r)).map fun r=>.tup [.str e.1.name,.str e.2.1,.str r]
noncomputable def rowsH (P:List Str) (h:Str→List Nat) (ss:List Sm) (n:Nat):List AV:=(List.range n).flatMap fun x=>match (allSN ss)[x]? with | some e=>rowX P h x e | none=>[]
section
variable {R:Nat→Bool→FT} {k:Nat} {H0:AH} {N bk:Nat} {ps:List Pm} {ss:List Sm} {PG:OutS→Prop} {x:Nat} {h:Str→List Nat} {S:Sd}
theorem Zof {H:AH} {D:Dk} {l:List Nat} (hn:(l.map D.day).Nodup):cmpA H .Eq (((heldD D l).lookup (.int (D.day x))).getD .none) (nI x)=some (decide (x∈l)):=by
 by_cases q:∃ y∈l,D.day y=D.day x
 ·refine x1_2 q fun y hy e=>?_
  rw [← e,ZbZ hn hy]
  refine ZmS.trans ?_
  congr 1
  exact decide_eq_decide.mpr ⟨fun w=>w▸hy,fun w=>ZeX hn hy w e⟩
 ·rw [ZjS (Zfp fun z hz e=>q ⟨z,hz,e⟩),decide_eq_false fun w=>q ⟨x,w,rfl⟩]; rfl
theorem Zlp {l:List Nat}:intsOf (l.map nI)=some (l.map fun x:Nat=>(x:Int)):=by
 induction l with
 | nil=>rfl
 | cons x l ih=>show (intsOf (l.map nI)).map _=_; rw [ih]; rfl
theorem Zjz {D:Dk} (hm:∀ r,0≤D.most r):Hold D fun _=>[]:=⟨fun r=>List.nodup_nil,fun r x q=>absurd q List.not_mem_nil,hm⟩
theorem ZjR {P:List Str}:load P (fun _=>[]) x=0:=List.countP_eq_zero.mpr fun r _=>by simp
theorem Zo4 (hl:∀ p∈ps,0≤p.limit) (r:Str):0≤(dkOf ps ss).most r:=by
 show 0≤(match ps.find? (fun p=>decide (p.name=r)) with | some p=>p.limit | none=>0)
 split
 ·rename_i p h
  exact hl p (List.mem_of_find?_eq_some h)
 ·decide
def Fills (ps:List Pm) (ss:List Sm) (g:Str→List Nat):Prop:=Hold (dkOf ps ss) g∧∀ x<(allSN ss).length,load (ps.map (·.name)) g x=cntS ss x
structure Half (ps:List Pm) (ss:List Sm) (j t:Nat) (h:Str→List Nat):Prop where
 ok:Hold (dkOf ps ss) h
 ld:∀ x,load (ps.map (·.name)) h x=if x<j then cntS ss x else if x=j then t else 0
theorem Zjx (Z:Half ps ss x (cntS ss x) h):Half ps ss (x+1) 0 h:=⟨Z.ok,fun y=>by
 rw [Z.ld]
 by_cases q:y<x
 ·rw [if_pos q,if_pos (Nat.lt_succ_of_lt ‹_›)]
 ·by_cases w:y=x
  ·subst w; rw [if_neg q,if_pos rfl,if_pos (by exact Nat.lt_add_one _)]
  ·rw [if_neg q,if_neg w,if_neg (by lia)]; split<;>rfl⟩
theorem Zjw {t:Nat} {T:List Ent} {c:Str→List Nat} (Z:Half ps ss x t h) (d:Dn (dkOf ps ss) h (ps.map (·.name)) x T 0 c):Half ps ss x (t+1) c:=⟨d.ok,fun y=>by
 rw [d.ld,Z.ld]
 show _+(if some x=some y then 1 else 0)=_
 by_cases w:x=y
 ·subst w; rw [if_neg (Nat.lt_irrefl _),if_pos rfl,if_pos rfl,if_neg (Nat.lt_irrefl _),if_pos rfl]
 ·rw [if_neg (fun q=>w (Option.some.inj q)),if_neg (c:=y=x) (Ne.symm w),if_neg (c:=y=x) (Ne.symm w)]; rfl⟩
structure Short (ps:List Pm) (ss:List Sm) (M:List Nat) (h:Str→List Nat):Prop where
 ok:Hold (dkOf ps ss) h
 nd:M.Nodup
 lt:∀ y∈M,y<(allSN ss).length
 wt:(M.map fun x=>load (ps.map (·.name)) h x).sum<(M.map fun x=>cntS ss x).sum
 sn:∀ y∈M,∀ r∈(dkOf ps ss).fits y,(∃ z∈h r,(dkOf ps ss).day z=(dkOf ps ss).day y∧z∈M)∨((dkOf ps ss).most r≤(h r).length∧∀ z∈h r,z∈M)
theorem Zip {t:Nat} {T:List Ent} (Z:Half ps ss x t h) (ht:t<cntS ss x) (hr:∀ y∈rowT x T,y<(allSN ss).length) (t':Tr (dkOf ps ss) h x T) (s:∀ y∈rowT x T,∀ r∈(dkOf ps ss).fits y,Seen (dkOf ps ss) h x T y r):Short ps ss (rowT x T) h:=by
 refine ⟨Z.ok,t'.nd,hr,ZoQ (fun y hy=>?_) (y:=x) (.head _) ?_,s⟩
 ·rw [Z.ld]
  split
  ·exact Nat.le_refl _
  ·split
   ·rename_i q; subst q; exact Nat.le_of_lt ht
   ·exact Nat.zero_le _
 ·rw [Z.ld,if_neg (Nat.lt_irrefl _),if_pos rfl]; exact ht
theorem Short.no {M:List Nat} {g:Str→List Nat} (S:Short ps ss M h) (F:Fills ps ss g):False:=by
 refine Nat.lt_irrefl _ (Nat.lt_of_lt_of_le S.wt ?_)
 rw [← List.map_congr_left fun x hx=>F.2 x (S.lt x hx),ZfE,ZfE]
 refine Zmt fun r _=>?_
 have gm:∀ {x},x∈M.filter (fun x=>decide (x∈g r))→x∈M∧x∈g r:=fun {x} q=>⟨(List.mem_filter.mp q).1,of_decide_eq_true (List.mem_filter.mp q).2⟩
 have ndg:(M.filter fun x=>decide (x∈g r)).Nodup:=List.Nodup.sublist List.filter_sublist S.nd
 rw [List.countP_eq_length_filter (l:=M) (p:=fun x=>decide (x∈g r))]
 refine Zjo (ds:=(M.filter fun x=>decide (x∈g r)).map (dkOf ps ss).day) S.ok S.nd (fun x hx=>S.sn x hx r) (Zat (fun x hx y hy e=>ZeX (F.1.nd r) (gm hx).2 (gm hy).2 e) ndg) (fun d hd=>?_) (Int.le_trans (Int.ofNat_le.mpr (Zca ndg fun x hx=>(gm hx).2)) (F.1.mo r)) (by rw [qLm]; exact Nat.le_refl _)
 refine x1_2 (qMm hd) fun x hx e=>?_
 exact ⟨x,(gm hx).1,e,F.1.ft r x (gm hx).2⟩
theorem Zka {e:Sm×(Str×Int)} (he:(allSN ss)[x]?=some e):((postsM ss).map postAV)[x]?=some (.tup [.str e.1.name,.str e.2.1]):=by rw [ZaT,List.map_map,qGm,he]; rfl
theorem Zh3 {P:List Str} {e:Sm×(Str×Int)}:(rowX P h x e).length≤P.length:=by
 unfold rowX
 rw [qLm]
 exact List.length_filter_le _ _
theorem ZlU {P:List Str} (hP:P.length≤100) {j:Nat}:j≤(allSN ss).length→(rowsH P h ss j).length≤100*j:=by
 unfold rowsH
 induction j with
 | zero=>exact fun _=>Nat.le_refl _
 | succ j ih =>
  intro hj
  obtain ⟨e,he⟩:∃ e,(allSN ss)[j]?=some e:=⟨_,qGg (by lia)⟩
  have h1:=ih (by exact Nat.le_of_succ_le ‹_›)
  have h2:=Zh3 (h:=h) (x:=j) (P:=P) (e:=e)
  rw [List.range_succ,List.flatMap_append,List.flatMap_singleton,qLa]
  simp only [he]
  lia
theorem ZoE (Rd:ReadR R) (B:BookOf N H0 bk ps ss) (G:Good ps ss) (K:SdOK (sdOf H0 ps ss)) (Hh:Hold (dkOf ps ss) h) {L:AH} {a2 a3 a4 a5 a6 a8:Option AV}
  (fin:∀ H' m,H'[m]?=some (.lst (rowsH (ps.map (·.name)) h ss (allSN ss).length))→Up H0.length H0 H'→H0.length≤m→PG (.ret (.tup [.str "rota", .ref m]) H')) :
  PG (seqS [assignS false (.one 7) (lstE true []),forS false (.one 2) (biE false .range [(biE false .len [(attrE 7 (varE 1))])]) (Zd5 (R (k+1)) false),retS (tupE [(cstE (.str "rota")),(varE 7)])] [some (.ref bk),some (.ref H0.length),a2,a3,a4,a5,a6,none,a8] ((sdOf H0 ps ss).hp h L)):=by
 have hn:(allSN ss).length≤600:=K.nf
 have hpf:=G.pf
 obtain ⟨f0,hb⟩:=B.at
 have Bu:∀ L:AH,BookOf N ((sdOf H0 ps ss).hp h L) bk ps ss:=fun L=>B.up (Zf4 (S:=sdOf H0 ps ss))
 have hb:∀ L:AH,((sdOf H0 ps ss).hp h L)[bk]?=some (.inst 2 f0):=fun L=>(Zf4 (S:=sdOf H0 ps ss)).get hb
 have hpl:((postsM ss).map postAV).length=(allSN ss).length:=Zg8
 refine Zal (a:=.ref ((sdOf H0 ps ss).m L)) (H₁:=(sdOf H0 ps ss).hp h (L++[.lst []])) (ZeI Zek (by simp) (by
  show Out.ok (AV.ref ((sdOf H0 ps ss).hp h L).length) _=_
  rw [ZjB,ZjA]; rfl)) ?_
 have hrow:∀ l:List AV,((sdOf H0 ps ss).hp h (L++[.lst l]))[(sdOf H0 ps ss).m L]?=some (.lst l):=fun l=>hp_G.trans Zaj
 refine Zbt (a:=.rng 0 (allSN ss).length) (H₁:=(sdOf H0 ps ss).hp h (L++[.lst []])) (xs:=span 0 (allSN ss).length) (e_bi (Zaa (e_bi (Zaa (Zas rfl hp_0 rfl)) ((IsL.len (N:=H0.length+2) (.inr ⟨_,rfl,by show H0.length+1<_; exact Nat.lt_add_one _,hp_1⟩) (by show ((postsM ss).map postAV).length≤_; rw [hpl]; exact le_t ‹_› rfl)).trans (by show Out.ok (AV.int (((postsM ss).map postAV).length:Nat)) _=_; rw [hpl])))) rfl) (Zan (Int.natCast_nonneg _) (n_lt hn rfl)) (by rw [Zae,Int.sub_zero])
  (fun j ρ H'=>Ex4 fun a2 a3 a4 a8=>A2 (H'=(sdOf H0 ps ss).hp h (L++[.lst (rowsH (ps.map (·.name)) h ss j)])) (ρ=[some (.ref bk),some (.ref H0.length),a2,a3,a4,a5,a6,some (.ref ((sdOf H0 ps ss).m L)),a8])) ⟨_,_,_,_,rfl,rfl⟩ ?_ ?_
 ·rintro J j v ρ H' hv ⟨a2,a3,a4,a8,rfl,rfl⟩ hJ
  obtain ⟨hd,X,hX,rfl⟩:=Zbl hv
  have hjl:j<(allSN ss).length:=by assumption
  obtain ⟨e,he⟩:∃ e,(allSN ss)[j]?=some e:=⟨_,qGg hjl⟩
  have hXj:AV.int X=nI j:=by rw [hX]; rfl
  rw [hXj]
  have e1:rowsH (ps.map (·.name)) h ss (j+1)=rowsH (ps.map (·.name)) h ss j++rowX (ps.map (·.name)) h j e:=by
   unfold rowsH
   rw [List.range_succ,List.flatMap_append,List.flatMap_singleton]
   simp only [he]
  rw [e1] at hJ
  have hrl:(rowsH (ps.map (·.name)) h ss j).length≤100*j:=by
   exact ZlU (by rw [qLm]; exact hpf) (Nat.le_of_lt ‹_›)
  generalize rowsH (ps.map (·.name)) h ss j=Z at hJ hrl
  show Nx _ _ ((_:DS) [some (.ref bk),some (.ref H0.length),some (nI j),a3,a4,a5,a6,some (.ref ((sdOf H0 ps ss).m L)),a8] _)
  refine Zmo (ρ₁:=[some (.ref bk),some (.ref H0.length),some (nI j),some (.str e.1.name),some (.str e.2.1),a5,a6,some (.ref ((sdOf H0 ps ss).m L)),a8]) (Zab (Zas rfl hp_0 rfl) rfl (ZcK hp_1 (Int.natCast_nonneg _) (by rw [Int.toNat_natCast]; exact Zka he) (by show ((postsM ss).map postAV).length≤_; rw [hpl]; exact le_t ‹_› rfl))) rfl ?_
  refine Zbt (a:=.lst (ps.map fun p=>.str p.name)) (xs:=ps.map fun p=>.str p.name) (e_mo rfl (hb _) (i:=18) rfl Zek (Zc9 (k:=k) Rd (Bu _))) rfl rfl
   (fun i ρ H'=>A2 (H'=(sdOf H0 ps ss).hp h (L++[.lst (Z++rowX ((ps.map (·.name)).take i) h j e)])) (∃ a8,ρ=[some (.ref bk),some (.ref H0.length),some (nI j),some (.str e.1.name),some (.str e.2.1),a5,a6,some (.ref ((sdOf H0 ps ss).m L)),a8])) ⟨by unfold rowX; rw [List.take_zero]; simp,_,rfl⟩ ?_ ?_
  ·rintro J' i v ρ H' hv ⟨rfl,a8,rfl⟩ hJ'
   rw [qGm] at hv
   refine x1_2 (oms hv) fun p hi e2'=>?_; subst e2'
   have hin:(ps.map (·.name))[i]?=some p.name:=by rw [qGm,hi]; rfl
   have hil:=(gsi hi).1
   have e2:rowX ((ps.map (·.name)).take (i+1)) h j e=rowX ((ps.map (·.name)).take i) h j e++(if j∈h p.name then [.tup [.str e.1.name,.str e.2.1,.str p.name]] else []):=by
    unfold rowX
    rw [List.take_add_one,hin,List.filter_append,qMa]
    congr 1
    by_cases q:j∈h p.name
    ·rw [if_pos q,Option.toList_some,List.filter_cons_of_pos (p:=fun r=>decide (j∈h r)) (decide_eq_true q)]; rfl
    ·rw [if_neg q,Option.toList_some,List.filter_cons_of_neg (p:=fun r=>decide (j∈h r)) (by simpa using q)]; rfl
   rw [e2] at hJ'
   have hql:(rowX ((ps.map (·.name)).take i) h j e).length≤100:=by
    refine Nat.le_trans Zh3 ?_
    rw [qLt,qLm]; exact Nat.le_trans (Nat.min_le_right _ _) (le_t ‹_› rfl)
   generalize rowX ((ps.map (·.name)).take i) h j e=Y at hJ' hql
   show Nx _ _ ((_:DS) [some (.ref bk),some (.ref H0.length),some (nI j),some (.str e.1.name),some (.str e.2.1),a5,a6,some (.ref ((sdOf H0 ps ss).m L)),some (.str p.name)] _)
   refine p_if (Zai (ZmR (ZfM K (S:=sdOf H0 ps ss) hin rfl rfl) (ZgM K (S:=sdOf H0 ps ss) hjl rfl rfl) (Zdt hin) rfl (Zc3 K Hh)) rfl (Zof (Hh.nd _))) (fun q=>?_) fun q=>?_
   ·have q:=of_decide_eq_true q
    rw [if_pos q] at hJ'
    refine ZaA (P:=Th _ _) (Zax rfl (hrow _) (Zaa (ZcC (ZaE rfl rfl rfl) (by simp))) (hrow _) (by rw [qLa]; lia)) (ZaG (hJ' _ _ ⟨?_,_,rfl⟩))
    unfold Sd.m
    rw [ZgY (by simp),List.set_append_right _ _ (Nat.le_refl _),Nat.sub_self,← qAa]; rfl
   ·have q:=of_decide_eq_false q
    rw [if_neg q,List.append_nil] at hJ'
    exact ZaG (hJ' _ _ ⟨rfl,_,rfl⟩)
  ·rintro ρ H' ⟨rfl,a8,rfl⟩
   rw [qLm,List.take_of_length_le (by rw [qLm]; exact Nat.le_refl _)]
   exact Zam (hJ _ _ ⟨_,_,_,_,rfl,rfl⟩)
 ·rintro ρ H' ⟨a2,a3,a4,a8,rfl,rfl⟩
  rw [Zae,Int.sub_zero,Int.toNat_natCast]
  exact ZaZ (ZcC (ZaI rfl rfl) (by simp)) (fin _ _ (hrow _) (Zf4 (S:=sdOf H0 ps ss)) (by show H0.length≤H0.length+5+_+_; lia))
theorem ZmL (Q:DealR R) (C:BookR R) (My:MayR R) (Rd:ReadR R) (B:BookOf N H0 bk ps ss) (G:Good ps ss) (hl:∀ p∈ps,0≤p.limit∧p.limit≤100) (hn:(allSN ss).length≤60) (hc:∀ e∈allSN ss,0≤e.2.2∧e.2.2≤1000)
  (finS:∀ M h H' m,Short ps ss M h→0<(toldS ss M).length→(toldS ss M).length≤60→(∀ z,z∈toldS ss M↔∃ x∈M,(postsM ss)[x]?=some z)→H'[m]?=some (.lst ((toldS ss M).map postAV))→Up H0.length H0 H'→H0.length≤m→PG (.ret (.tup [.str "short", .ref m]) H'))
  (finR:∀ h H' m,Fills ps ss h→H'[m]?=some (.lst (rowsH (ps.map (·.name)) h ss (allSN ss).length))→Up H0.length H0 H'→H0.length≤m→PG (.ret (.tup [.str "rota", .ref m]) H')) :
  PG (Zfe (R (k+4)) false (rho0 [.ref bk] 9) H0):=by
 have K:SdOK (sdOf H0 ps ss):=Zo5 G fun p hp=>(hl p hp).2
 have hpl:((postsM ss).map postAV).length=(allSN ss).length:=Zg8
 obtain ⟨f0,hb⟩:=B.at
 have Bu:∀ h L,BookOf N ((sdOf H0 ps ss).hp h L) bk ps ss:=fun h L=>B.up (Zf4 (S:=sdOf H0 ps ss))
 have hb:∀ h L,((sdOf H0 ps ss).hp h L)[bk]?=some (.inst 2 f0):=fun h L=>(Zf4 (S:=sdOf H0 ps ss)).get hb
 refine Zal (a:=.ref H0.length) (Zld (Zaa rfl) (i:=28) rfl (Zlm (k:=k) Q C My Rd B G)) ?_
 refine Zbt (a:=.rng 0 (allSN ss).length) (H₁:=(sdOf H0 ps ss).hp (fun _=>[]) []) (xs:=span 0 (allSN ss).length) (e_bi (Zaa (e_bi (Zaa (Zas rfl hp_0 rfl)) ((IsL.len (N:=H0.length+2) (.inr ⟨_,rfl,by show H0.length+1<_; exact Nat.lt_add_one _,hp_1⟩) (by show ((postsM ss).map postAV).length≤_; rw [hpl]; exact le_t ‹_› rfl)).trans (by show Out.ok (AV.int (((postsM ss).map postAV).length:Nat)) _=_; rw [hpl])))) rfl) (Zan (Int.natCast_nonneg _) (n_lt hn rfl)) (by rw [Zae,Int.sub_zero])
  (fun j ρ H'=>Ex7 fun (h:Str→List Nat) (L:AH) (a2 a3 a4 a5 a6:Option AV)=>A3 (Half ps ss j 0 h) (H'=(sdOf H0 ps ss).hp h L) (ρ=[some (.ref bk),some (.ref H0.length),a2,a3,a4,a5,a6,none,none])) ⟨fun _=>[],[],_,_,_,_,_,⟨Zjz (Zo4 fun p hp=>(hl p hp).1),fun x=>?_⟩,rfl,rfl⟩ ?_ ?_
 ·rw [ZjR,if_neg (Nat.not_lt_zero _)]; split<;>rfl
 ·rintro J j v ρ H' hv ⟨h,L,a2,a3,a4,a5,a6,Z,rfl,rfl⟩ hJ
  obtain ⟨hd,X,hX,rfl⟩:=Zbl hv
  have hjl:j<(allSN ss).length:=by assumption
  obtain ⟨e,he⟩:∃ e,(allSN ss)[j]?=some e:=⟨_,qGg hjl⟩
  have hm:=ZbA (qMo he)
  have hce:=hc e (qMo he)
  have hct:cntS ss j=e.2.2.toNat:=by unfold cntS; simp only [he]
  have hc':e.2.2=(cntS ss j:Int):=by rw [hct]; lia
  have hXj:AV.int X=nI j:=by rw [hX]; rfl
  rw [hXj]
  clear hX hXj hv
  show Nx _ _ ((_:DS) [some (.ref bk),some (.ref H0.length),some (nI j),a3,a4,a5,a6,none,none] _)
  refine Zmo (ρ₁:=[some (.ref bk),some (.ref H0.length),some (nI j),some (.str e.1.name),some (.str e.2.1),a5,a6,none,none]) (Zab (Zas rfl hp_0 rfl) rfl (ZcK hp_1 (Int.natCast_nonneg _) (by rw [Int.toNat_natCast]; exact Zka he) (by show ((postsM ss).map postAV).length≤_; rw [hpl]; exact le_t ‹_› rfl))) rfl ?_
  refine Zbt (a:=.rng 0 (cntS ss j)) (xs:=span 0 (cntS ss j)) (e_bi (Zaa (e_mo rfl (hb _ _) (i:=25) rfl (ZaI rfl rfl) ((count_of (k:=k+2) C Rd (Bu _ _) G hm.1 hm.2).trans (by rw [hc'])))) rfl) (Zan (Int.natCast_nonneg _) (by lia)) (by rw [Zae,Int.sub_zero])
   (fun t ρ H'=>Ex4 fun (h:Str→List Nat) (L:AH) (a5 a6:Option AV)=>A3 (Half ps ss j t h) (H'=(sdOf H0 ps ss).hp h L) (ρ=[some (.ref bk),some (.ref H0.length),some (nI j),some (.str e.1.name),some (.str e.2.1),a5,a6,none,none])) ⟨h,L,_,_,Z,rfl,rfl⟩ ?_ ?_
  ·rintro J' t v ρ H' hv ⟨h,L,a5,a6,Z,rfl,rfl⟩ hJ'
   obtain ⟨hd',X,hX,rfl⟩:=Zbl hv
   show Nx _ _ ((_:DS) [some (.ref bk),some (.ref H0.length),some (nI j),some (.str e.1.name),some (.str e.2.1),some (.int X),a6,none,none] _)
   rcases ZiK (k:=k+1) (G:=L) Q K Z.ok (f:=j) hjl with ⟨c,L',T,run,dn⟩ | ⟨T,run,tr,sn⟩
   ·refine Zal (e_mo rfl hp_0 (i:=30) rfl (Zaa rfl) run) ?_
    exact ZaK (Zai rfl rfl rfl) (Zam (hJ' _ _ ⟨c,_,_,_,Zjw Z dn,rfl,rfl⟩))
   ·have hlt:∀ y∈rowT j T,y<(allSN ss).length:=fun y hy=>Zgk K tr hjl Z.ok hy
    have hrl:(rowT j T).length≤60:=by
     have h2:=Zca (m:=List.range (allSN ss).length) tr.nd fun z hz=>List.mem_range.mpr (hlt z hz)
     rw [List.length_range] at h2
     exact Nat.le_trans ‹_› ‹_›
    refine Zal (e_mo rfl hp_0 (i:=30) rfl (Zaa rfl) run) ?_
    refine p_if (x:=true) (Zai rfl rfl rfl) (fun _=>?_) fun q=>nomatch q
    have srt:biA false .sorted [.ref ((sdOf H0 ps ss).m L)] ((sdOf H0 ps ss).hs h L j T)=.ok (.lst ((sortI ((rowT j T).map fun x:Nat=>(x:Int))).map .int)) ((sdOf H0 ps ss).hs h L j T):=by
     show (match dcOf ((sdOf H0 ps ss).hs h L j T) (.ref ((sdOf H0 ps ss).m L)) with | some (_,es)=>orBad (intsOf (es.map fun (e:Key×AV)=>e.1.av)) fun is=>if (!false && decide (is.length<64))=true then Out.ok (AV.lst ((sortI is).map .int)) ((sdOf H0 ps ss).hs h L j T) else .bad | none=>.bad)=_
     rw [ZaN ZjD]
     have e1:(metD j T).map (fun e=>e.1.av)=(rowT j T).map nI:=by
      have:=congrArg (List.map Key.av) (Zfy (f:=j) (T:=T))
      rw [List.map_map,List.map_map] at this
      exact this
     show orBad (intsOf ((metD j T).map fun e=>e.1.av)) _=_
     rw [e1,Zlp]
     show (if (!false && decide (((rowT j T).map fun x:Nat=>(x:Int)).length<64))=true then _ else _)=_
     rw [if_pos (by rw [qLm,Bool.not_false,Bool.true_and]; exact decide_eq_true (lt_t ‹_› rfl))]
    have hperm:=Zcg ((rowT j T).map fun x:Nat=>(x:Int))
    have hsl:=hperm.length_eq
    rw [qLm] at hsl
    have hpm:∀ y,y<(allSN ss).length→(postsM ss)[y]?=some ((postsM ss).getD y ("", "")):=fun y hy=>by
     rw [List.getD_eq_getElem?_getD,qGg (by rw [← hpl,qLm] at hy; exact hy)]; rfl
    have hmem:∀ z,z∈(sortI ((rowT j T).map fun x:Nat=>(x:Int))).map (fun i=>(postsM ss).getD i.toNat ("", ""))↔∃ x∈rowT j T,(postsM ss)[x]?=some z:=fun z=>⟨fun q=>by
     refine x1_2 (qMm q) fun i hi e=>?_
     refine x1_2 (qMm (hperm.mem_iff.mp hi)) fun y hy e2=>?_
     subst e2
     exact ⟨y,hy,(hpm y (hlt y hy)).trans (by rw [← e,Int.toNat_natCast])⟩,fun ⟨x,hx,e⟩=>List.mem_map.mpr ⟨x,hperm.mem_iff.mpr (List.mem_map_of_mem hx),by
     rw [Int.toNat_natCast]; exact Option.some.inj ((hpm x (hlt x hx)).symm.trans e)⟩⟩
    refine ZaZ (P:=Th _ _) (ZcC (ZaI rfl (Zea (l:=sortI ((rowT j T).map fun x:Nat=>(x:Int))) (fx:=.int) (fy:=fun i:Int=>postAV ((postsM ss).getD i.toNat ("", ""))) (e_bi (Zaa rfl) srt) (.inl rfl) (by lia) (fun i hi=>?_) (ZlE (g:=fun i:Int=>(postsM ss).getD i.toNat ("", ""))))) (by simp)) (finS _ _ _ _ (Zip Z hd' hlt tr sn) (by rw [toldS,qLm,hsl]; exact Nat.succ_pos _) (by rw [toldS,qLm]; lia) hmem Zaj (Up.trans (Zf4 (S:=sdOf H0 ps ss)) (Up.app.mono (Zf4 (S:=sdOf H0 ps ss)).1)) (Zf4 (S:=sdOf H0 ps ss)).1)
    have hi:=hperm.mem_iff.mp hi
    refine x1_2 (qMm hi) fun y hy e=>?_; subst e
    refine Zab (Zas (Zak rfl) hp_0 rfl) (Zag rfl) (ZcK hp_1 (Int.natCast_nonneg _) ?_ (by show ((postsM ss).map postAV).length≤_; rw [hpl]; exact le_t ‹_› rfl))
    rw [Int.toNat_natCast]
    show ((postsM ss).map postAV)[y]?=_
    rw [qGm,hpm y (hlt y hy)]; rfl
  ·rintro ρ H' ⟨h,L,a5,a6,Z,rfl,rfl⟩
   rw [Zae,Int.sub_zero,Int.toNat_natCast] at Z
   exact Zam (hJ _ _ ⟨h,L,_,_,_,_,_,Zjx Z,rfl,rfl⟩)
 ·rintro ρ H' ⟨h,L,a2,a3,a4,a5,a6,Z,rfl,rfl⟩
  rw [Zae,Int.sub_zero,Int.toNat_natCast] at Z
  refine ZoE (k:=k+3) Rd B G K Z.ok fun H' m q u hm=>finR h H' m ⟨Z.ok,fun x hx=>?_⟩ q u hm
  rw [Z.ld,if_pos hx]
inductive Dealt (N:Nat) (ps:List Pm) (ss:List Sm) (H':AH):AV→Prop
 | short (M:List Nat) (h:Str→List Nat) (m:Nat):Short ps ss M h→0<(toldS ss M).length→(toldS ss M).length≤60→(∀ z,z∈toldS ss M↔∃ x∈M,(postsM ss)[x]?=some z)→H'[m]?=some (.lst ((toldS ss M).map postAV))→N≤m→Dealt N ps ss H' (.tup [.str "short", .ref m])
 | rota (h:Str→List Nat) (m:Nat):Fills ps ss h→H'[m]?=some (.lst (rowsH (ps.map (·.name)) h ss (allSN ss).length))→N≤m→Dealt N ps ss H' (.tup [.str "rota", .ref m])
theorem Zjd (Q:DealR R) (C:BookR R) (My:MayR R) (Rd:ReadR R) (B:BookOf N H0 bk ps ss) (G:Good ps ss) (hl:∀ p∈ps,0≤p.limit∧p.limit≤100) (hn:(allSN ss).length≤60) (hc:∀ e∈allSN ss,0≤e.2.2∧e.2.2≤1000) :
  ∃ v H',R (k+5) false 33 [.ref bk] H0=.ok v H'∧Up H0.length H0 H'∧Dealt H0.length ps ss H' v:=by
 rw [Q.dealt _ _ _ _ rfl]
 exact ZmL (PG:=fun o=>∃ v H',o.done=.ok v H'∧Up H0.length H0 H'∧Dealt H0.length ps ss H' v) Q C My Rd B G hl hn hc (fun M h H' m S h1 h2 h3 q u hm=>⟨_,H',rfl,u,.short M h m S h1 h2 h3 q hm⟩) fun h H' m F q u hm=>⟨_,H',rfl,u,.rota h m F q hm⟩
end
noncomputable def ZaP (Φ:Bool→FT) (hot:Bool):DS:=(seqS [retS (biE hot (.list false) [(attrE 0 (moE gmC (Φ hot) 4 (varE 0) [(varE 1)]))])])
noncomputable def ZaW (Φ:Bool→FT) (hot:Bool):DS:=(seqS [retS (biE hot (.list false) [(attrE 2 (moE gmC (Φ hot) 4 (varE 0) [(varE 1)]))])])
noncomputable def Zd0 (Φ:Bool→FT) (hot:Bool):DS:=(seqS [assignS hot (.one 1) (binE false .Add (varE 1) (binE false .Mult (lstE false [(tupE [(subE (varE 2) (cstE (.int 0))),(subE (varE 3) (cstE (.int 0)))])]) (subE (varE 3) (cstE (.int 1)))))])
noncomputable def ZbO (Φ:Bool→FT) (hot:Bool):DS:=(seqS [assignS hot (.one 1) (lstE false []),forS hot (.one 2) (varE 0) (seqS [forS hot (.one 3) (subE (varE 2) (cstE (.int 2))) (Zd0 Φ hot)]),retS (varE 1)])
noncomputable def Za9 (Φ:Bool→FT) (hot:Bool):DS:=(seqS [assignS hot (.one 4) (compE hot false (varE 8) (varE 2) (cmpE (subE (varE 8) (cstE (.int 0))) [.Eq] [(subE (varE 0) (cstE (.int 2)))])),assignS hot (.one 5) (compE hot false (varE 8) (varE 3) (cmpE (subE (varE 8) (cstE (.int 0))) [.Eq] [(subE (varE 0) (cstE (.int 0)))])),ifS (bopE false [(cmpE (varE 4) [.Eq] [(lstE false [])]),(ntE (callE (Φ hot) 44 [(subE (varE 4) (cstE (.int 0))),(subE (varE 5) (cstE (.int 0))),(subE (varE 0) (cstE (.int 1)))]))]) (seqS [retS (cstE (.bool false))]) (seqS []),assignS hot (.one 6) (compE hot false (subE (varE 8) (cstE (.int 0))) (varE 1) (cmpE (subE (varE 8) (cstE (.int 2))) [.Eq] [(subE (varE 0) (cstE (.int 2)))])),assignS hot (.one 7) (compE hot false (binE false .FloorDiv (subE (subE (varE 8) (cstE (.int 1))) (cstE (.int 0))) (cstE (.int 24))) (varE 3) (cmpE (subE (varE 8) (cstE (.int 0))) [.In] [(varE 6)])),retS (bopE true [(cmpE (binE false .FloorDiv (subE (subE (subE (varE 5) (cstE (.int 0))) (cstE (.int 1))) (cstE (.int 0))) (cstE (.int 24))) [.NotIn] [(varE 7)]),(cmpE (biE hot .len [(varE 6)]) [.Lt] [(subE (subE (varE 4) (cstE (.int 0))) (cstE (.int 2)))])])])
noncomputable def ZdK (Φ:Bool→FT) (hot:Bool):DS:=(seqS [ifS (bopE false [(ntE (isiE gmC (subE (subE (varE 0) (varE 3)) (cstE (.int 2))) [.str])),(ntE (callE (Φ hot) 50 [(subE (varE 0) (varE 3)),(slcE false (varE 0) (cstE .none) (varE 3) (cstE .none)),(varE 1),(varE 2)]))]) (seqS [retS (cstE (.bool false))]) (seqS [])])
noncomputable def ZbB (Φ:Bool→FT) (hot:Bool):DS:=(seqS [ifS (bopE false [(ntE (isiE gmC (varE 0) [.lst])),(cmpE (compE hot false (varE 4) (varE 0) (bopE false [(ntE (isiE gmC (varE 4) [.tup])),(cmpE (biE hot .len [(varE 4)]) [.NotEq] [(cstE (.int 3))])])) [.NotEq] [(lstE false [])])]) (seqS [retS (cstE (.bool false))]) (seqS []),ifS (cmpE (compE hot false (tupE [(subE (varE 4) (cstE (.int 0))),(subE (varE 4) (cstE (.int 1)))]) (varE 0) (cstE (.bool true))) [.NotEq] [(callE (Φ hot) 49 [(varE 2)])]) (seqS [retS (cstE (.bool false))]) (seqS []),forS hot (.one 3) (biE hot .range [(biE hot .len [(varE 0)])]) (ZdK Φ hot),retS (cstE (.bool true))])
noncomputable def Zbm (Φ:Bool→FT) (hot:Bool):DS:=(seqS [ifS (bopE false [(ntE (isiE gmC (varE 0) [.lst])),(cmpE (compE hot false (varE 3) (varE 0) (ntE (isiE gmC (varE 3) [.tup]))) [.NotEq] [(lstE false [])])]) (seqS [retS (cstE (.bool false))]) (seqS []),ifS (cmpE (varE 0) [.NotEq] [(compE hot false (varE 3) (callE (Φ hot) 45 [(varE 2)]) (cmpE (varE 3) [.In] [(varE 0)]))]) (seqS [retS (cstE (.bool false))]) (seqS []),retS (cmpE (callE (Φ hot) 48 [(varE 1),(varE 2),(varE 0)]) [.Lt] [(callE (Φ hot) 46 [(varE 2),(varE 0)])])])
noncomputable def ZeC (Φ:Bool→FT) (hot:Bool):DS:=(seqS [ifS (cmpE (compE hot false (moE gmC (Φ hot) 13 (varE 0) [(subE (varE 4) (cstE (.int 0))),(subE (varE 5) (cstE (.int 0)))]) (subE (varE 4) (cstE (.int 2))) (cstE (.bool true))) [.NotEq] [(compE hot false (subE (varE 5) (cstE (.int 1))) (subE (varE 4) (cstE (.int 2))) (cstE (.bool true)))]) (seqS [retS (cstE (.bool false))]) (seqS [])])
noncomputable def ZeD (Φ:Bool→FT) (hot:Bool):DS:=(seqS [ifS (bopE false [(cmpE (moE gmC (Φ hot) 9 (varE 0) [(subE (varE 3) (cstE (.int 0)))]) [.NotEq] [(subE (varE 3) (cstE (.int 1)))]),(cmpE (moE gmC (Φ hot) 10 (varE 0) [(subE (varE 3) (cstE (.int 0)))]) [.NotEq] [(subE (varE 3) (cstE (.int 3)))])]) (seqS [retS (cstE (.bool false))]) (seqS []),ifS (cmpE (moE gmC (Φ hot) 11 (varE 0) [(subE (varE 3) (cstE (.int 0)))]) [.NotEq] [(subE (varE 3) (cstE (.int 2)))]) (seqS [retS (cstE (.bool false))]) (seqS [])])
noncomputable def Zcw (Φ:Bool→FT) (hot:Bool):DS:=(seqS [ifS (bopE false [(cmpE (moE gmC (Φ hot) 6 (varE 0) []) [.NotEq] [(compE hot false (subE (varE 5) (cstE (.int 0))) (varE 1) (cstE (.bool true)))]),(cmpE (moE gmC (Φ hot) 8 (varE 0) []) [.NotEq] [(callE (Φ hot) 45 [(varE 2)])])]) (seqS [retS (cstE (.bool false))]) (seqS []),forS hot (.one 3) (varE 1) (ZeD Φ hot),forS hot (.one 4) (varE 2) (ZeC Φ hot),retS (cstE (.bool true))])
noncomputable def ZeP (Φ:Bool→FT) (hot:Bool):DS:=(seqS [assignS hot (.one 7) (callE (Φ hot) 33 [(varE 2)]),assignS hot (.one 8) (callE (Φ hot) 33 [(varE 2)]),exprS (callE (Φ hot) 33 [(newE gmC (Φ hot) 2 [])]),ifS (bopE false [(ntE (isiE gmC (varE 7) [.tup])),(cmpE (biE hot .len [(varE 7)]) [.NotEq] [(cstE (.int 2))]),(ntE (callE (Φ hot) 53 [(varE 2),(subE (varE 1) (cstE (.int 0))),(subE (varE 1) (cstE (.int 1)))]))]) (seqS [retS (cstE (.bool false))]) (seqS []),ifS (bopE true [(cmpE (subE (varE 7) (cstE (.int 0))) [.Eq] [(cstE (.str "rota"))]),(ntE (callE (Φ hot) 51 [(subE (varE 7) (cstE (.int 1))),(subE (varE 1) (cstE (.int 0))),(subE (varE 1) (cstE (.int 1)))]))]) (seqS [retS (cstE (.bool false))]) (seqS []),ifS (bopE true [(cmpE (subE (varE 7) (cstE (.int 0))) [.Eq] [(cstE (.str "short"))]),(ntE (callE (Φ hot) 52 [(subE (varE 7) (cstE (.int 1))),(subE (varE 1) (cstE (.int 0))),(subE (varE 1) (cstE (.int 1)))]))]) (seqS [retS (cstE (.bool false))]) (seqS []),ifS (bopE true [(cmpE (subE (varE 7) (cstE (.int 0))) [.NotEq] [(cstE (.str "rota"))]),(cmpE (subE (varE 7) (cstE (.int 0))) [.NotEq] [(cstE (.str "short"))])]) (seqS [retS (cstE (.bool false))]) (seqS []),assignS hot (.one 9) (biE hot (.list false) [(subE (varE 8) (cstE (.int 1)))]),exprS (mbE .clear (subE (varE 7) (cstE (.int 1))) []),ifS (bopE false [(cmpE (subE (varE 8) (cstE (.int 0))) [.NotEq] [(subE (varE 7) (cstE (.int 0)))]),(cmpE (subE (varE 8) (cstE (.int 1))) [.NotEq] [(varE 9)])]) (seqS [retS (cstE (.bool false))]) (seqS [])])
noncomputable def Zdi (Φ:Bool→FT) (hot:Bool):DS:=(seqS [exprS (moE gmC (Φ hot) 1 (varE 2) [(subE (varE 6) (cstE (.int 0))),(biE hot (.list false) [(subE (varE 6) (cstE (.int 1)))]),(subE (varE 6) (cstE (.int 2)))]),exprS (callE (Φ hot) 33 [(varE 2)]),exprS (callE (Φ hot) 41 [(varE 2),(varE 6)])])
noncomputable def Zdj (Φ:Bool→FT) (hot:Bool):DS:=(seqS [exprS (moE gmC (Φ hot) 3 (varE 2) [(subE (varE 5) (cstE (.int 0))),(subE (varE 5) (cstE (.int 1))),(biE hot (.list false) [(subE (varE 5) (cstE (.int 2)))])])])
noncomputable def Zdk (Φ:Bool→FT) (hot:Bool):DS:=(seqS [ifS (cmpE (binE false .Mod (binE false .FloorDiv (varE 3) (cstE (.int 2))) (cstE (.int 4))) [.NotEq] [(varE 4)]) (seqS [exprS (callE (Φ hot) 33 [(varE 2)])]) (seqS []),forS hot (.one 5) (slcE false (slcE false (subE (varE 1) (cstE (.int 1))) (negE (cstE (.int 1))) (cstE .none) (cstE .none)) (cstE .none) (binE false .Mod (binE false .Add (varE 3) (varE 4)) (cstE (.int 2))) (cstE .none)) (Zdj Φ hot),forS hot (.one 6) (slcE false (slcE false (subE (varE 1) (cstE (.int 0))) (negE (cstE (.int 1))) (cstE .none) (cstE .none)) (cstE .none) (binE false .Mod (binE false .Add (binE false .Add (varE 3) (varE 4)) (cstE (.int 1))) (cstE (.int 2))) (cstE .none)) (Zdi Φ hot)])
noncomputable def ZgL (Φ:Bool→FT) (hot:Bool):DS:=(seqS [assignS hot (.one 1) (callE (Φ hot) 40 [(varE 0)]),assignS hot (.one 2) (callE (Φ hot) 43 [(slcE false (subE (varE 1) (cstE (.int 0))) (cstE .none) (negE (cstE (.int 1))) (cstE .none)),(slcE false (subE (varE 1) (cstE (.int 1))) (cstE .none) (negE (cstE (.int 1))) (cstE .none)),(callE (Φ hot) 8 [(varE 0),(cstE (.int 25))])]),assignS hot (.one 3) (callE (Φ hot) 8 [(varE 0),(cstE (.int 27))]),forS hot (.one 4) (biE hot .range [(cstE (.int 2))]) (Zdk Φ hot),forS hot (.one 4) (biE hot .range [(cstE (.int 2))]) (ZeP Φ hot),retS (cstE (.bool true))])
theorem tab10:tx10.tab=[some ⟨1,1,Zd6⟩,some ⟨1,1,ZcQ⟩,some ⟨2,2,ZhC⟩,some ⟨1,1,ZfT⟩,some ⟨1,1,ZcP⟩,some ⟨1,2,Zdn⟩,some ⟨1,3,ZaH⟩,some ⟨1,5,ZaM⟩,some ⟨2,2,ZfU⟩,some ⟨1,3,ZfW⟩,some ⟨3,3,Zbp⟩,some ⟨3,3,ZbD⟩,some ⟨1,1,ZbP⟩,some ⟨4,5,Zaz⟩,some ⟨3,4,ZaL⟩,some ⟨4,5,Zav⟩,some ⟨2,2,Zcp⟩,some ⟨2,2,ZcO⟩,some ⟨1,1,Zbn⟩,some ⟨1,1,ZeE⟩,some ⟨1,5,ZbC⟩,some ⟨2,2,ZaP⟩,some ⟨2,2,ZaW⟩,some ⟨2,2,Za1⟩,some ⟨2,2,ZaQ⟩,some ⟨3,5,Za0⟩,some ⟨4,6,Zcx⟩,some ⟨2,2,Zd4⟩,some ⟨2,5,ZbR⟩,some ⟨3,5,Zba⟩,some ⟨2,9,Zbo⟩,some ⟨4,6,ZbQ⟩,some ⟨4,5,Za2⟩,some ⟨1,9,Zfe⟩,some ⟨1,1,Zd9⟩,some ⟨2,2,ZbW⟩,some ⟨3,9,Zcz⟩,some ⟨4,9,ZcA⟩,some ⟨4,8,Zdq⟩,some ⟨3,15,Zdr⟩,some ⟨1,10,Zdo⟩,some ⟨2,3,ZbE⟩,some ⟨4,4,ZaX⟩,some ⟨3,8,ZbS⟩,some ⟨3,4,Zff⟩,some ⟨1,3,Zdp⟩,some ⟨2,4,ZcB⟩,some ⟨3,6,Zd7⟩,some ⟨3,3,Zd8⟩,some ⟨1,4,ZbO⟩,some ⟨4,8,Za9⟩,some ⟨3,4,ZbB⟩,some ⟨3,3,Zbm⟩,some ⟨3,5,Zcw⟩,some ⟨1,10,ZgL⟩]:=by kernel_rfl
noncomputable def knownSN (ss:List Sm) (told:List (Str×Str)):List (Sm×(Str×Int)):=(allSN ss).filter fun x=>decide (postOf x∈told)
noncomputable def insD (ds:List Int) (d:Int):List Int:=if d∈ds then ds else ds++[d]
noncomputable def stepD (p:Pm) (ds:List Int) (x:Sm×(Str×Int)):List Int:=if mayM p x.1 x.2.1 then insD ds (x.1.hours.1 / 24) else ds
noncomputable def daysM (p:Pm) (L:List (Sm×(Str×Int))):List Int:=L.foldl (stepD p) []
noncomputable def wantM (ss:List Sm) (told:List (Str×Str)):Int:=((knownSN ss told).map fun x=>x.2.2).sum
noncomputable def leastM (p:Pm) (L:List (Sm×(Str×Int))):Int:=if p.limit<(daysM p L).length then p.limit else (daysM p L).length
noncomputable def roomM (ps:List Pm) (L:List (Sm×(Str×Int))):Int:=(ps.map fun p=>leastM p L).sum
structure Ease (ps:List Pm) (ss:List Sm) (ps':List Pm) (ss':List Sm):Prop where
 nm:∃ ex,ps'.map (·.name)=ps.map (·.name)++ex
 pn:(ps'.map (·.name)).Nodup
 pp:∀ p∈ps,∃ p'∈ps',p'.name=p.name∧p.limit≤p'.limit∧∀ s x,mayM p s x=true→mayM p' s x=true
 l0:∀ p∈ps',0≤p.limit
 sh:∃ rest,allSN ss=allSN ss'++rest
 sn:(postsM ss).Nodup
 c0:∀ e∈allSN ss,0≤e.2.2
section
variable {ps ps':List Pm} {ss ss':List Sm} {x:Nat} {h g:Str→List Nat} {p:Pm} {e:Sm×(Str×Int)} {r:Str}
theorem Zjq (he:(allSN ss)[x]?=some e):r∈(dkOf ps ss).fits x↔∃ p∈ps,mayM p e.1 e.2.1=true∧p.name=r:=by
 rw [ZgR he]
 simp only [List.mem_map,List.mem_filter]
 exact ⟨fun ⟨p,⟨h1,h2⟩,h3⟩=>⟨p,h1,h2,h3⟩,fun ⟨p,h1,h2,h3⟩=>⟨p,⟨h1,h2⟩,h3⟩⟩
theorem ZmV (h:r∈(dkOf ps ss).fits x):∃ e,(allSN ss)[x]?=some e:=by
 cases q:(allSN ss)[x]? with
 | some e=>exact ⟨e,rfl⟩
 | none =>
  have h:r∈(match (allSN ss)[x]? with | some e=>(ps.filter fun p=>mayM p e.1 e.2.1).map (fun p:Pm=>p.name) | none=>[]):=h
  rw [q] at h; cases h
theorem Zmf (he:(allSN ss)[x]?=some e):cntS ss x=e.2.2.toNat:=by unfold cntS; rw [he]
theorem Ease.get (E:Ease ps ss ps' ss') (he:(allSN ss')[x]?=some e):(allSN ss)[x]?=some e:=by
 obtain ⟨rest,q⟩:=E.sh
 rw [q,qGl (gsi he).1]; exact he
end
theorem ZnT {l m:List Nat} (f:Nat→Nat) (q:l.Nodup) (s:∀ x∈l,x∈m):(l.map f).sum≤(m.map f).sum:=by
 induction l generalizing m with
 | nil=>exact Nat.zero_le _
 | cons x r ih =>
  rw [List.nodup_cons] at q
  have hx:=s x (.head _)
  rw [((List.perm_cons_erase hx).map f).sum_nat,List.map_cons,List.map_cons,List.sum_cons,List.sum_cons]
  exact Nat.add_le_add_left (ih q.2 fun y hy=>(List.mem_erase_of_ne (show y≠x from fun e=>q.1 (e▸hy))).mpr (s y (.tail _ hy))) _
theorem Zm3 {α:Type} {l:List α} {f:α→Int} {u:α→Nat} (q:∀ x∈l,f x≤u x):(l.map f).sum≤((l.map u).sum:Nat):=by
 induction l with
 | nil=>exact Int.le_refl _
 | cons x l ih =>
  rw [List.map_cons,List.map_cons,List.sum_cons,List.sum_cons,Int.natCast_add]
  exact Int.add_le_add (q x (.head _)) (ih fun y hy=>q y (.tail _ hy))
theorem Zm2 {α:Type} {l:List α} {f:α→Int} (q:∀ x∈l,0≤f x):(l.map f).sum=((l.map fun x=>(f x).toNat).sum:Nat):=by
 induction l with
 | nil=>rfl
 | cons x l ih =>
  rw [List.map_cons,List.map_cons,List.sum_cons,List.sum_cons,Int.natCast_add,Int.toNat_of_nonneg (q x (.head _)),ih fun y hy=>q y (.tail _ hy)]
theorem Zkh {α:Type} {A:List α} {f:α→Nat}:((List.range A.length).map fun x=>(A[x]?.map f).getD 0)=A.map f:=by
 refine List.ext_getElem? fun i=>?_
 rw [qGm,qGm]
 by_cases q:i<A.length
 ·rw [List.getElem?_range q,qGg q]
  show some ((A[i]?.map f).getD 0)=_
  rw [qGg q]; rfl
 ·rw [List.getElem?_eq_none (by rw [List.length_range]; exact Nat.le_of_not_lt q),List.getElem?_eq_none (Nat.le_of_not_lt q)]; rfl
theorem Zlg {α:Type} {A:List α} {p:α→Bool} {f:α→Nat}:((A.filter p).map f).sum=(A.map fun e=>if p e=true then f e else 0).sum:=by
 induction A with
 | nil=>rfl
 | cons x A ih =>
  rw [List.map_cons,List.sum_cons,← ih,List.filter_cons]
  split
  ·rw [List.map_cons,List.sum_cons]
  ·rw [Nat.zero_add]
section
variable {ps ps':List Pm} {ss ss':List Sm} {x:Nat} {h g:Str→List Nat} {p:Pm} {e:Sm×(Str×Int)} {r:Str} {M:List Nat} {told:List (Str×Str)}
theorem ZhB {d:Int}:∀ (L:List (Sm×(Str×Int))) (ds:List Int),d∈L.foldl (stepD p) ds→d∈ds∨∃ e∈L,mayM p e.1 e.2.1=true∧e.1.hours.1 / 24=d
 | [],ds,q=>.inl q
 | e::L,ds,q=>by
  rcases ZhB L (stepD p ds e) q with q | ⟨e',m,w⟩
  ·unfold stepD insD at q
   split at q
   ·rename_i hm
    split at q
    ·exact .inl q
    ·rcases qMp q with q | q
     ·exact .inl q
     ·exact .inr ⟨e,.head _,hm,(qMs q).symm⟩
   ·exact .inl q
  ·exact .inr ⟨e',.tail _ m,w⟩
theorem Zjc:∀ (L:List (Sm×(Str×Int))) (ds:List Int),ds.Nodup→(L.foldl (stepD p) ds).Nodup
 | [],ds,q=>q
 | e::L,ds,q=>by
  refine Zjc L _ ?_
  unfold stepD insD
  split
  ·split
   ·exact q
   ·rename_i n
    rw [List.nodup_append]
    refine ⟨q,List.pairwise_singleton _ _,fun u hu v hv e=>?_⟩
    rw [qMs hv] at e
    exact n (e▸hu)
  ·exact q
theorem Zdb:(postsM ss)[x]?=((allSN ss)[x]?).map postOf:=by rw [ZaT,qGm]
theorem Ease.known (E:Ease ps ss ps' ss') (lt:∀ y∈M,y<(allSN ss').length) (ht:∀ z,z∈told↔∃ x∈M,(postsM ss')[x]?=some z) (he:(allSN ss)[x]?=some e):postOf e∈told↔x∈M:=by
 have at_:∀ y∈M,∃ e',(allSN ss')[y]?=some e':=fun y hy=>⟨_,qGg (lt y hy)⟩
 rw [ht]
 constructor
 ·rintro ⟨y,hy,q⟩
  obtain ⟨e',he'⟩:=at_ y hy
  rw [Zdb,he'] at q
  have h1:(postsM ss)[x]?=some (postOf e):=by rw [Zdb,he]; rfl
  have h2:(postsM ss)[y]?=some (postOf e):=by rw [Zdb,E.get he']; exact q
  rw [(List.getElem?_inj (gsi h1).1 E.sn).mp (h1.trans h2.symm)]
  exact hy
 ·intro hx
  obtain ⟨e',he'⟩:=at_ x hx
  cases (E.get he').symm.trans he
  exact ⟨x,hx,by rw [Zdb,he']; rfl⟩
theorem Ease.room (E:Ease ps ss ps' ss') (S:Short ps' ss' M h) (ht:∀ z,z∈told↔∃ x∈M,(postsM ss')[x]?=some z):roomM ps (knownSN ss told)<wantM ss told:=by
 have at_:∀ y∈M,∃ e',(allSN ss')[y]?=some e':=fun y hy=>⟨_,qGg (S.lt y hy)⟩
 have h1:roomM ps (knownSN ss told)≤((ps.map fun p=>M.countP fun x=>decide (x∈h p.name)).sum:Nat):=Zm3 fun p hp=>by
  obtain ⟨p',hp',en,hl,hy⟩:=E.pp p hp
  have hl0:=E.l0 p' hp'
  have c1:leastM p (knownSN ss told)≤p.limit:=by unfold leastM; split<;>lia
  have c2:leastM p (knownSN ss told)≤(daysM p (knownSN ss told)).length:=by unfold leastM; split<;>lia
  refine Int.le_trans (Int.self_le_toNat _) (Int.ofNat_le.mpr (Zjo (ds:=daysM p (knownSN ss told)) S.ok S.nd (fun x hx=>S.sn x hx p.name) (Zjc _ _ .nil) (fun d hd=>?_) ?_ (by lia)))
  ·rcases ZhB _ _ hd with q | ⟨e,m,hm,rfl⟩
   ·cases q
   ·obtain ⟨m1,m2⟩:=List.mem_filter.mp m
    obtain ⟨x,hx⟩:=List.getElem?_of_mem m1
    have hxM:=(E.known S.lt ht hx).mp (of_decide_eq_true m2)
    obtain ⟨e',he'⟩:=at_ x hxM
    cases (E.get he').symm.trans hx
    exact ⟨x,hxM,ZhD he',(Zjq he').mpr ⟨p',hp',hy _ _ hm,en⟩⟩
  ·rw [← en,ZgS E.pn hp']; lia
 have h2:(ps.map fun p=>M.countP fun x=>decide (x∈h p.name)).sum≤((ps'.map (·.name)).map fun r=>M.countP fun x=>decide (x∈h r)).sum:=by
  obtain ⟨ex,qn⟩:=E.nm
  rw [qn,qMa,List.sum_append,List.map_map]
  exact Nat.le_add_right _ _
 rw [← ZfE] at h2
 have h3:(M.map fun x=>cntS ss' x).sum≤((knownSN ss told).map fun e=>e.2.2.toNat).sum:=by
  unfold knownSN
  rw [Zlg,← Zkh (A:=allSN ss),← List.map_congr_left (l:=M) fun x hx=>?_]
  ·exact ZnT _ S.nd fun x hx=>by
    obtain ⟨e,he⟩:=at_ x hx
    exact List.mem_range.mpr (gsi (E.get he)).1
  ·obtain ⟨e,he⟩:=at_ x hx
   rw [Zmf he,E.get he]
   show (if decide (postOf e∈told)=true then _ else _)=_
   rw [if_pos (decide_eq_true ((E.known S.lt ht (E.get he)).mpr hx))]
 have h4:=S.wt
 unfold wantM
 rw [Zm2 (l:=knownSN ss told) fun e he=>E.c0 e (List.mem_filter.mp he).1]
 exact Int.lt_of_le_of_lt h1 (Int.ofNat_lt.mpr (Nat.lt_of_le_of_lt h2 (Nat.lt_of_lt_of_le h4 h3)))
end
structure Law10 (R:Nat→Bool→FT):Prop where
 bk:BookR R
 my:MayR R
 pt:PartsR R
 rd:ReadR R
 dl:DealR R
 l_may:RunAt R 44 3 4 Zff
 l_posts:RunAt R 45 1 3 Zdp
 l_wanted:RunAt R 46 2 4 ZcB
 l_days:RunAt R 47 3 6 Zd7
 l_room:RunAt R 48 3 3 Zd8
 skills_of:RunAt R 21 2 2 ZaP
 rests_of:RunAt R 22 2 2 ZaW
 l_places:RunAt R 49 1 4 ZbO
 l_row_holds:RunAt R 50 4 8 Za9
 l_is_rota:RunAt R 51 3 4 ZbB
 l_is_short:RunAt R 52 3 3 Zbm
 l_stays:RunAt R 53 3 5 Zcw
 law:RunAt R 54 1 10 ZgL
theorem Zir (is:List Int):intsOf (is.map .int)=some is:=by
 induction is with
 | nil=>rfl
 | cons i r ih=>show (intsOf (r.map .int)).map (i::·)=_; rw [ih]; rfl
theorem Zme {is:List Int} {H:AH}:biA false .sum [.lst (is.map .int)] H=.ok (.int is.sum) H:=by
 show orBad ((some (is.map AV.int)).bind intsOf) _=_
 rw [Option.bind_some,Zir]; rfl
theorem Zne {r h:Int×Int} (hr:stOK r=true) (hh:stOK h=true):decide ((if r.1<h.1 then h.1 else r.1)<(if h.2<r.2 then h.2 else r.2))=meet r h:=by
 unfold stOK at hr hh
 simp only [qBt,decide_eq_true_eq] at hr hh
 unfold meet
 rw [Bool.eq_iff_iff]
 simp only [decide_eq_true_eq,qBt]
 split
 ·rename_i f
  split
  ·rename_i g
   exact ⟨fun q=>⟨Int.lt_trans f q,Int.lt_trans q g⟩,fun _=>hh.2.1⟩
  ·exact ⟨fun q=>⟨Int.lt_trans f hh.2.1,q⟩,And.right⟩
 ·rename_i f
  have f:=Int.not_lt.mp f
  split
  ·exact ⟨fun q=>⟨q,Int.lt_of_le_of_lt f hr.2.1⟩,And.left⟩
  ·rename_i g
   exact ⟨fun q=>⟨Int.lt_of_lt_of_le q (Int.not_lt.mp g),Int.lt_of_le_of_lt f q⟩,fun _=>hr.2.1⟩
section
variable {R:Nat→Bool→FT} {k:Nat} {H:AH} {N b:Nat} {p:Pm} {s:Sm} {ss:List Sm} {told:List (Str×Str)} {tA sA a:AV} {PG:OutS→Prop} {x:Str}
theorem ZhR (W:Law10 R) (hl:IsL N H a (p.rests.map stAV)) (hr:∀ r∈p.rests,stOK r=true) (hh:stOK s.hours=true):R (k+1) false 44 [pT p a,SV s,.str x] H=.ok (.bool (mayM p s x)) H:=by
 rw [W.l_may _ _ _ _ rfl]
 suffices key:∀ PG:OutS→Prop,PG (.ret (.bool (mayM p s x)) H)→PG (Zff (R k) false (rho0 [pT p a,SV s,.str x] 4) H) from key (fun o=>o.done=.ok (.bool (mayM p s x)) H) rfl
 intro PG fin
 refine Zbk (N:=N) (a:=a) (H₁:=H) (xs:=p.rests.map stAV) rfl hl
  (fun j ρ H'=>A3 (H'=H) ((p.rests.take j).all (fun r=>!meet r s.hours)=true) (∃ a3,ρ=[some (pT p a),some (SV s),some (.str x),a3])) ⟨rfl,by simp,_,rfl⟩ (fun j ρ H' h=>by rw [h.1]; exact Up.refl) ?_ ?_
 ·rintro J j v ρ H' hv hI hJ
  obtain ⟨rfl,hno,a3,rfl⟩:=hI
  rw [qGm] at hv
  refine x1_2 (oms hv) fun r hj e2'=>?_; subst e2'
  have hm:=qMo hj
  show Nx _ _ ((_:DS) [some (pT p a),some (SV s),some (.str x),some (stAV r)] H')
  refine p_if (x:=meet r s.hours) (H₁:=H') ?_ (fun h=>?_) fun h=>?_
  ·rw [← Zne (hr r hm) hh]
   exact Zai (e_bi (ZaI (Zab rfl rfl rfl) (Zab (Zab rfl rfl rfl) rfl rfl)) rfl) (e_bi (ZaI (Zab rfl rfl rfl) (Zab (Zab rfl rfl rfl) rfl rfl)) rfl) rfl
  ·have e:mayM p s x=false:=by
    unfold mayM
    rw [Bool.and_eq_false_iff]
    right
    rw [List.all_eq_false]
    exact ⟨r,hm,by rw [h]; decide⟩
   rw [e] at fin
   exact ZaZ (P:=Th _ _) rfl fin
  ·refine ZaG (hJ _ _ ⟨rfl,?_,_,rfl⟩)
   rw [List.take_add_one,hj,List.all_append,hno]
   simp [h]
 ·rintro ρ H' ⟨rfl,hno,a3,rfl⟩
  rw [qLm,List.take_length] at hno
  refine ZaZ (a:=.bool (mayM p s x)) ((Zai rfl (Zab rfl rfl rfl) (Zbs (xs:=p.skills) rfl rfl)).trans ?_) fin
  unfold mayM
  rw [hno,Bool.and_true]
theorem Zhn {j:Nat} (h:ss[j]?=some s):allSN (ss.take (j+1))=allSN (ss.take j)++s.needs.map fun n=>(s,n):=by
 unfold allSN
 rw [ZbY h]
theorem ZeW (W:Law10 R) (hl:IsL N H sA (ss.map SV)) (hb:(postsM ss).length≤600):R (k+1) false 45 [sA] H=.ok (.lst ((postsM ss).map postAV)) H:=by
 rw [W.l_posts _ _ _ _ rfl]
 suffices key:∀ PG:OutS→Prop,PG (.ret (.lst ((postsM ss).map postAV)) H)→PG (Zdp (R k) false (rho0 [sA] 3) H) from key (fun o=>o.done=.ok (.lst ((postsM ss).map postAV)) H) rfl
 intro PG fin
 have hz:1000≤sizeLine:=by decide
 refine Zal (a:=.lst []) (H₁:=H) rfl ?_
 refine Zbk (N:=N) (a:=sA) (H₁:=H) (xs:=ss.map SV) rfl hl
  (fun j ρ H'=>A2 (H'=H) (∃ a2,ρ=[some sA,some (.lst ((postsM (ss.take j)).map postAV)),a2])) ⟨rfl,_,rfl⟩ (fun j ρ H' h=>by rw [h.1]; exact Up.refl) ?_ ?_
 ·rintro J j v ρ H' hv ⟨rfl,a2,rfl⟩ hJ
  rw [qGm] at hv
  refine x1_2 (oms hv) fun s hj e2'=>?_; subst e2'
  have hm:=qMo hj
  have e:postsM (ss.take (j+1))=postsM (ss.take j)++postsS s:=ZbY hj
  have hb1:(postsM (ss.take (j+1))).length≤600:=by
   have q:postsM ss=postsM (ss.take (j+1))++postsM (ss.drop (j+1)):=by
    unfold postsM; rw [← List.flatMap_append,List.take_append_drop]
   rw [q,qLa] at hb
   lia
  rw [e,qLa] at hb1
  have hs:(postsS s).length=s.needs.length:=by unfold postsS; simp
  show Nx _ _ ((_:DS) [some sA,some (.lst ((postsM (ss.take j)).map postAV)),some (SV s)] H')
  refine Zal (a:=.lst ((postsM (ss.take (j+1))).map postAV)) (H₁:=H') (Zay rfl (Zea (l:=s.needs) (fx:=needAV) (fy:=fun n=>postAV (s.name,n.1)) (Zab rfl rfl rfl) (.inl rfl) (by lia) (fun n _=>ZcC (ZaI (Zab (Zak rfl) rfl rfl) (Zab (Zag rfl) rfl rfl)) (by simp)) rfl) ((addL (by rw [qLm,qLm]; lia)).trans ?_)) (Zam (hJ _ _ ⟨rfl,_,rfl⟩))
  show Out.ok (AV.lst _) H'=_
  rw [e,qMa]
  unfold postsS
  rw [List.map_map]; rfl
 ·rintro ρ H' ⟨rfl,a2,rfl⟩
  rw [qLm,List.take_length]
  exact ZaZ rfl fin
theorem ZkV {j:Nat} (h:ss[j]?=some s):wantM (ss.take (j+1)) told=wantM (ss.take j) told+((s.needs.filter fun n=>decide ((s.name,n.1)∈told)).map (·.2)).sum:=by
 unfold wantM knownSN
 rw [Zhn h,List.filter_append,qMa,List.sum_append,List.filter_map,List.map_map]
 rfl
theorem Zg4 (W:Law10 R) (hl:IsL N H sA (ss.map SV)) (ht:IsL N H tA (told.map postAV)) (hnf:∀ s∈ss,s.needs.length≤6):R (k+1) false 46 [sA,tA] H=.ok (.int (wantM ss told)) H:=by
 rw [W.l_wanted _ _ _ _ rfl]
 suffices key:∀ PG:OutS→Prop,PG (.ret (.int (wantM ss told)) H)→PG (ZcB (R k) false (rho0 [sA,tA] 4) H) from key (fun o=>o.done=.ok (.int (wantM ss told)) H) rfl
 intro PG fin
 refine Zal (a:=.int 0) (H₁:=H) rfl ?_
 refine Zbk (N:=N) (a:=sA) (H₁:=H) (xs:=ss.map SV) rfl hl
  (fun j ρ H'=>A2 (H'=H) (∃ a3,ρ=[some sA,some tA,some (.int (wantM (ss.take j) told)),a3])) ⟨rfl,_,rfl⟩ (fun j ρ H' h=>by rw [h.1]; exact Up.refl) ?_ ?_
 ·rintro J j v ρ H' hv ⟨rfl,a3,rfl⟩ hJ
  rw [qGm] at hv
  refine x1_2 (oms hv) fun s hj e2'=>?_; subst e2'
  have hm:=qMo hj
  have:=hnf s hm
  show Nx _ _ ((_:DS) [some sA,some tA,some (.int (wantM (ss.take j) told)),some (SV s)] H')
  refine Zal (a:=.int (wantM (ss.take (j+1)) told)) (H₁:=H') ?_ (Zam (hJ _ _ ⟨rfl,_,rfl⟩))
  rw [ZkV hj]
  refine Zay rfl (e_bi (Zaa (Zbq (l:=s.needs) (fx:=needAV) (fy:=fun n=>.int n.2) (p:=fun n=>decide ((s.name,n.1)∈told)) (Zab rfl rfl rfl) (.inl rfl) (le_t ‹_› rfl) (fun n _=>?_) (fun n _ _=>Zab (Zag rfl) rfl rfl) rfl)) ?_) addI
  ·exact Zai (ZcC (ZaI (Zab (Zak rfl) rfl rfl) (Zab (Zag rfl) rfl rfl)) (by simp)) (Zak rfl) (Zfq (x:=(s.name,n.1)) ht.nd ht.ls)
  ·have:(s.needs.filter fun n=>decide ((s.name,n.1)∈told)).map (fun n=>AV.int n.2)=((s.needs.filter fun n=>decide ((s.name,n.1)∈told)).map (·.2)).map .int:=by rw [List.map_map]; rfl
   rw [this]
   exact Zme
 ·rintro ρ H' ⟨rfl,a3,rfl⟩
  rw [qLm,List.take_length]
  exact ZaZ rfl fin
end
section
variable {ρ:RE} {H H₁:AH} {l r r':DE} {a:AV} {mt:Bool}
theorem Zn9 {x y z:Bool} (h1:l ρ H=.ok (.bool x) H₁) (h2:r ρ H₁=.ok (.bool y) H₁) (h3:r' ρ H₁=.ok (.bool z) H₁):bopE true [l,r,r'] ρ H=.ok (.bool (x && (y && z))) H₁:=by
 have:=Zjj h2 h3
 show (l ρ H).bind _=_; rw [h1]; show (if x=true then _ else _)=_
 cases x with
 | false=>rfl
 | true=>exact this
theorem Zk6 {n:Nat} {is:List Int}:denL (den (n+1) H) (is.map .int)=some (is.map .int):=by
 induction is with
 | nil=>rfl
 | cons x r ih=>show ((some (PyData.int x)).bind fun d=>(denL (den (n+1) H) (r.map .int)).map (d::·))=_; rw [ih]; rfl
theorem ZhW {d:Int} {is:List Int} (hd:dcOf H a=none) (h:lsOf H a=some (is.map .int)):cmpA H .NotIn (.int d) a=some (!decide (d∈is)):=by
 show (inA H (.int d) a).map (!·)=_
 have:inA H (.int d) a=some (decide (d∈is)):=by
  unfold inA
  rw [hd,h]
  show ((some (PyData.int d)).bind fun x=>(denL (den deep H) (is.map .int)).map fun ds=>ds.any fun y=>PyData.eqv y x)=_
  rw [show denL (den deep H) (is.map .int)=_ from Zk6 (n:=19)]
  show some ((is.map PyData.int).any fun y=>PyData.eqv y (.int d))=_
  congr 1
  rw [Bool.eq_iff_iff]
  simp only [List.any_eq_true,List.mem_map,decide_eq_true_eq]
  constructor
  ·rintro ⟨_,⟨y,hy,rfl⟩,e⟩
   have e:(y == d)=true:=e
   rw [beq_iff_eq] at e
   exact e▸hy
  ·intro h
   exact ⟨_,⟨d,h,rfl⟩,by show (d == d)=true; simp⟩
 rw [this]; rfl
set_option smartUnfolding false in
theorem ZgK {α:Type} {L:List α} {fx fy:α→AV} {T E:AV→AH→Out AV} (J:AH→Prop) (hT:∀ x∈L,∀ H,J H→T (fx x) H=.ok (.bool true) H) (hE:∀ x∈L,∀ H,J H→∃ H',E (fx x) H=.ok (fy x) H'∧J H') {src:Src} (hs:∀ H,J H→∀ k,itemAt H src k=some ((L.map fx)[k]?)) :
  ∀ (n k:Nat) (acc:List AV) (H:AH),n+k=L.length→J H→∃ H',compL T E src n k acc H=.ok (acc++(L.drop k).map fy) H'∧J H'
 | 0,k,acc,H,e,j=>by
  have:(L.map fx)[k]?=none:=List.getElem?_eq_none (by rw [qLm]; lia)
  refine ⟨H,?_,j⟩
  show (match itemAt H src k with | none=>Out.bad | some none=>.ok acc H | some (some v)=>.bad)=_
  rw [hs H j k,this,List.drop_eq_nil_of_le (by lia)]
  exact congrArg (Out.ok · H) (List.append_nil acc).symm
 | n+1,k,acc,H,e,j=>by
  have hk:k<L.length:=by lia
  have hk':(L.map fx)[k]?=some (fx L[k]):=by rw [qGm,qGg hk]; rfl
  have hm:L[k]∈L:=List.getElem_mem _
  refine x1_2 (hE _ hm H j) fun H1 e1 j1=>?_
  refine x1_2 (ZgK J hT hE hs n (k+1) (acc++[fy L[k]]) H1 (by lia) j1) fun H2 e2 j2=>?_
  refine ⟨H2,?_,j2⟩
  show (match itemAt H src k with | none=>Out.bad | some none=>.ok acc H | some (some v)=>(T v H).bind fun c H₁=>asBool c fun c=>if c then (E v H₁).bind fun a H₂=>compL T E src n (k+1) (acc++[a]) H₂ else compL T E src n (k+1) acc H₁)=_
  rw [hs H j k,hk']
  show (T (fx L[k]) H).bind _=_
  rw [hT _ hm H j]
  show (E (fx L[k]) H).bind (fun a H₂=>compL T E src n (k+1) (acc++[a]) H₂)=_
  rw [e1]
  show compL T E src n (k+1) (acc++[fy L[k]]) H1=_
  rw [e2,List.drop_eq_getElem_cons hk,List.map_cons]
  simp only [qAa,List.singleton_append]
theorem Zob {α:Type} {L:List α} {fx fy:α→AV} {elt it:DE} {N:Nat} (h:it ρ H=.ok a H₁) (hl:IsL N H₁ a (L.map fx)) (hn:L.length≤1000000) (hE:∀ x∈L,∀ H',Up N H₁ H'→∃ H'',elt (ρ++[some (fx x)]) H'=.ok (fy x) H''∧Up N H₁ H'') :
  ∃ H',compE false false elt it (cstE (.bool true)) ρ H=.ok (.lst (L.map fy)) H'∧Up N H₁ H':=by
 rcases hl with rfl | ⟨m,rfl,hm,hl⟩
 ·refine x1_2 (ZgK (T:=fun v=>cstE (.bool true) (ρ++[some v])) (E:=fun v=>elt (ρ++[some v])) (fun H'=>Up N H₁ H') (fun _ _ _ _=>rfl) hE (src:=.seq (L.map fx)) (fun _ _ _=>rfl) L.length 0 [] H₁ (by simp) Up.refl) fun H' e u=>?_
  refine ⟨H',?_,u⟩
  unfold compE
  rw [h]
  show (if false=false∧(L.map fx).length≤1000000 then (Out.calm (compL _ _ (.seq (L.map fx)) (L.map fx).length 0 [] H₁)).bind _ else _)=_
  rw [if_pos ⟨rfl,by rw [qLm]; exact hn⟩,qLm,e]
  rfl
 ·obtain ⟨H',e,u⟩:=ZgK (T:=fun v=>cstE (.bool true) (ρ++[some v])) (E:=fun v=>elt (ρ++[some v])) (fun H'=>Up N H₁ H') (fun _ _ _ _=>rfl) hE (src:=.lref m) (fun H' u k=>by
   show (match H'[m]? with | some (.lst xs)=>some xs[k]? | _=>none)=_
   rw [u.2 m hm,hl]) L.length 0 [] H₁ (by simp) Up.refl
  refine ⟨H',?_,u⟩
  unfold compE
  rw [h]
  have hs:srcOf H₁ (.ref m)=some (.lref m,(L.map fx).length,none):=by
   show (match H₁[m]? with | some (.lst xs)=>some (Src.lref m,xs.length,none) | some (.dict es)=>some (.seq (es.map fun e=>e.1.av),es.length,some m) | _=>none:Option (Src×Nat×Option Nat))=_
   rw [hl]
  show orBad (srcOf H₁ (.ref m)) _=_
  rw [hs]
  show (if false=false∧(L.map fx).length≤1000000 then (Out.calm (compL _ _ (.lref m) (L.map fx).length 0 [] H₁)).bind _ else _)=_
  rw [if_pos ⟨rfl,by rw [qLm]; exact hn⟩,qLm,e]
  rfl
end
section
variable {R:Nat→Bool→FT} {k:Nat} {H:AH} {N b:Nat} {p:Pm} {ps:List Pm} {s:Sm} {ss:List Sm} {told:List (Str×Str)} {tA sA a pA:AV} {PG:OutS→Prop} {qs:List (Option Nat×Pm)}
variable {L:List (Sm×(Str×Int))}
theorem Zil {j:Nat} {x:Sm×(Str×Int)} (h:L[j]?=some x):daysM p (L.take (j+1))=stepD p (daysM p (L.take j)) x:=by
 unfold daysM
 rw [List.take_add_one,h,List.foldl_append]; rfl
theorem Zln (ds:List Int) (d:Int):(insD ds d).length≤ds.length+1:=by
 unfold insD
 split
 ·exact Nat.le_add_right _ _
 ·simp
theorem Zjb (j:Nat):(daysM p (L.take j)).length≤j:=by
 induction j with
 | zero=>simp [daysM]
 | succ j ih =>
  cases h:L[j]? with
  | none =>
   rw [List.take_add_one,h]
   simp only [Option.toList_none,List.append_nil]
   exact Nat.le_succ_of_le ‹_›
  | some x =>
   rw [Zil h]
   unfold stepD
   split
   ·exact Nat.le_trans (Zln _ _) (by exact Nat.succ_le_succ ‹_›)
   ·exact Nat.le_succ_of_le ‹_›
noncomputable def stepT (p:Pm) (told:List (Str×Str)) (ds:List Int) (x:Sm×(Str×Int)):List Int:=if decide (postOf x∈told) then stepD p ds x else ds
theorem ZkG (p:Pm) (ss:List Sm):(allSN ss).foldl (stepT p told) []=daysM p (knownSN ss told):=by
 unfold daysM knownSN
 rw [List.foldl_filter]
 rfl
theorem ZfD (ds:List Int) (x:Sm×(Str×Int)):stepT p told ds x=if (decide (postOf x∈told) && (mayM p x.1 x.2.1 && !decide (x.1.hours.1 / 24∈ds))) then ds++[x.1.hours.1 / 24] else ds:=by
 unfold stepT stepD insD
 by_cases h1:postOf x∈told<;>cases h2:mayM p x.1 x.2.1<;>by_cases h3:x.1.hours.1 / 24∈ds<;>simp [h1,h3]
theorem ZkH (ds:List Int) (x:Sm×(Str×Int)):(stepT p told ds x).length≤ds.length+1:=by
 rw [ZfD]
 split<;>simp
theorem Zjs (l:List (Sm×(Str×Int))):∀ ds:List Int,(l.foldl (stepT p told) ds).length≤ds.length+l.length:=by
 induction l with
 | nil=>intro ds; simp
 | cons x r ih =>
  intro ds
  rw [List.foldl_cons,List.length_cons]
  have:=ih (stepT p told ds x)
  have:=ZkH (p:=p) (told:=told) ds x
  lia
theorem ZjN (W:Law10 R) (hl:IsL H.length H a (p.rests.map stAV)) (hr:∀ r∈p.rests,stOK r=true) (hs:IsL H.length H sA (ss.map SV)) (hh:∀ s∈ss,stOK s.hours=true) (ht:IsL H.length H tA (told.map postAV)) (hb:(allSN ss).length≤600) :
  R (k+2) false 47 [pT p a,sA,tA] H=.ok (.ref H.length) (H++[.lst ((daysM p (knownSN ss told)).map .int)]):=by
 rw [W.l_days _ _ _ _ rfl]
 suffices key:∀ PG:OutS→Prop,PG (.ret (.ref H.length) (H++[.lst ((daysM p (knownSN ss told)).map .int)]))→PG (Zd7 (R (k+1)) false (rho0 [pT p a,sA,tA] 6) H) from key (fun o=>o.done=.ok (.ref H.length) (H++[.lst ((daysM p (knownSN ss told)).map .int)])) rfl
 intro PG fin
 refine Zal (a:=.ref H.length) (H₁:=H++[AO.lst []]) rfl ?_
 have hup:∀ ds:List Int,Up H.length (H++[AO.lst []]) (H++[AO.lst (ds.map .int)]):=fun ds=>⟨by simp,fun n hn=>by rw [qGl hn,qGl hn]⟩
 have hup0:∀ ds:List Int,Up H.length H (H++[AO.lst (ds.map .int)]):=fun ds=>Up.app
 refine Zbk (N:=H.length) (a:=sA) (H₁:=H++[AO.lst []]) (xs:=ss.map SV) rfl (hs.up Up.app)
  (fun j ρ H'=>A2 (H'=H++[AO.lst (((allSN (ss.take j)).foldl (stepT p told) []).map .int)]) (Ex2 fun a4 a5=>ρ=[some (pT p a),some sA,some tA,some (.ref H.length),a4,a5])) ⟨rfl,_,_,rfl⟩ (fun j ρ H' h=>by rw [h.1]; exact hup _) ?_ ?_
 ·rintro J j v ρ H' hv ⟨rfl,a4,a5,rfl⟩ hJ
  rw [qGm] at hv
  refine x1_2 (oms hv) fun s hj e2'=>?_; subst e2'
  have hm:=qMo hj
  have hall:=Zhn hj
  have hblen:(allSN (ss.take (j+1))).length≤600:=by
   have q:allSN ss=allSN (ss.take (j+1))++allSN (ss.drop (j+1)):=by
    unfold allSN; rw [← List.flatMap_append,List.take_append_drop]
   rw [q,qLa] at hb
   lia
  show Nx _ _ ((_:DS) [some (pT p a),some sA,some tA,some (.ref H.length),some (SV s),a5] _)
  refine Zbk (N:=0) (a:=.lst (s.needs.map needAV)) (xs:=s.needs.map needAV) (Zab rfl rfl rfl) (.inl rfl)
   (fun i ρ H'=>A2 (H'=H++[AO.lst (((allSN (ss.take j)++(s.needs.take i).map fun n=>(s,n)).foldl (stepT p told) []).map .int)]) (∃ a5,ρ=[some (pT p a),some sA,some tA,some (.ref H.length),some (SV s),a5])) ⟨by simp,_,rfl⟩ (fun i ρ H' h=>by rw [h.1]; exact ⟨by simp,fun n hn=>absurd hn (Nat.not_lt_zero n)⟩) ?_ ?_
  ·rintro J i v ρ H' hv ⟨rfl,a5,rfl⟩ hJ
   rw [qGm] at hv
   refine x1_2 (oms hv) fun n hi e2'=>?_; subst e2'
   have hil:=(gsi hi).1
   have hfold:=Zjs (p:=p) (told:=told) (allSN (ss.take j)++(s.needs.take i).map fun n=>(s,n)) []
   have e:(allSN (ss.take j)++(s.needs.take (i+1)).map fun n=>(s,n)).foldl (stepT p told) []=stepT p told ((allSN (ss.take j)++(s.needs.take i).map fun n=>(s,n)).foldl (stepT p told) []) (s,n):=by
    rw [ZaO (f:=fun n=>(s,n)) hi,← qAa,List.foldl_append]; rfl
   rw [hall,qLa,qLm] at hblen
   rw [qLa,qLm,qLt] at hfold
   generalize (allSN (ss.take j)++(s.needs.take i).map fun n=>(s,n)).foldl (stepT p told) []=ds at e hfold
   have hdl:ds.length≤1000:=by simp at hfold; lia
   show Nx _ _ ((_:DS) [some (pT p a),some sA,some tA,some (.ref H.length),some (SV s),some (needAV n)] _)
   have ht':=ht.up (hup0 ds)
   refine p_if (x:=decide (postOf (s,n)∈told) && (mayM p s n.1 && !decide (s.hours.1 / 24∈ds))) (H₁:=H++[AO.lst (ds.map .int)]) (Zn9 (Zai (ZcC (ZaI (Zab rfl rfl rfl) (Zab rfl rfl rfl)) (by simp)) rfl (Zfq (x:=postOf (s,n)) ht'.nd ht'.ls)) (Zac (ZaE rfl rfl (Zab rfl rfl rfl)) (ZhR W (hl.up (hup0 ds)) hr (hh s hm))) (Zai (Zay (Zab (Zab rfl rfl rfl) rfl rfl) rfl (Zcq (by decide))) rfl (ZhW (Zc8 Zaj) (Zdw Zaj)))) (fun h=>?_) fun h=>?_
   ·refine ZaA (P:=Th _ _) (a:=.none) (H₁:=H++[AO.lst ((ds++[s.hours.1 / 24]).map .int)]) ((Zax rfl Zaj (Zaa (Zay (Zab (Zab rfl rfl rfl) rfl rfl) rfl (Zcq (by decide)))) Zaj (by rw [qLm]; exact le_t ‹_› rfl)).trans (by rw [Zdf,qMa]; rfl)) (ZaG (hJ _ _ ⟨?_,_,rfl⟩))
    rw [e,ZfD,if_pos h]
   ·refine ZaG (hJ _ _ ⟨?_,_,rfl⟩)
    rw [e,ZfD,if_neg (by rw [h]; decide)]
  ·rintro ρ H' ⟨rfl,a5,rfl⟩
   refine Zam (hJ _ _ ⟨?_,_,_,rfl⟩)
   rw [qLm,List.take_length,hall]
 ·rintro ρ H' ⟨rfl,a4,a5,rfl⟩
  rw [qLm,List.take_length,ZkG]
  exact ZaZ rfl fin
theorem ZjU (W:Law10 R) (F:Folk H H.length qs) (hp:IsL H.length H pA (qs.map pv)) (hs:IsL H.length H sA (ss.map SV)) (hh:∀ s∈ss,stOK s.hours=true) (ht:IsL H.length H tA (told.map postAV)) (hb:(allSN ss).length≤600) :
  ∃ H',R (k+3) false 48 [pA,sA,tA] H=.ok (.int (roomM (qs.map (·.2)) (knownSN ss told))) H'∧Up H.length H H':=by
 rw [W.l_room _ _ _ _ rfl]
 have hdl:∀ p,(daysM p (knownSN ss told)).length≤1000:=fun p=>by
  have:=Zjb (p:=p) (L:=knownSN ss told) (knownSN ss told).length
  rw [List.take_length] at this
  exact Nat.le_trans this (Nat.le_trans (List.length_filter_le _ _) (le_t ‹_› rfl))
 obtain ⟨H',e,u⟩:=Zob (L:=qs) (fx:=pv) (fy:=fun q=>.int (leastM q.2 (knownSN ss told))) (N:=H.length) (H:=H) (H₁:=H) (a:=pA) (ρ:=[some pA,some sA,some tA]) (it:=varE 0) (elt:=(biE false .min [(subE (varE 3) (cstE (.int 2))),(biE false .len [(callE (R (k+2) false) 47 [(varE 3),(varE 1),(varE 2)])])])) rfl hp (by have:=F.few; exact le_t ‹_› rfl) (fun q hq H2 u=>by
  have F2:=F.up u
  refine x1_2 (ZdR (q:=q) (N:=H2.length) (H:=H2) (fun r e=>⟨Nat.lt_of_lt_of_le (F2.rs q hq r e).1 u.1,(F2.rs q hq r e).2⟩)) fun z e hz=>?_
  have lift:∀ {a:AV} {ys:List AV},IsL H.length H a ys→IsL H2.length H2 a ys:=fun h=>by
   rcases h.up u with h | ⟨r,e,hr,h⟩
   ·exact .inl h
   ·exact .inr ⟨r,e,Nat.lt_of_lt_of_le hr u.1,h⟩
  refine ⟨H2++[.lst ((daysM q.2 (knownSN ss told)).map .int)],?_,u.trans ⟨by simp,fun n hn=>qGl (Nat.lt_of_lt_of_le hn u.1)⟩⟩
  have e:pv q=pT q.2 z:=e
  rw [e]
  have hargs:evL [(varE 3),(varE 1),(varE 2)] ([some pA,some sA,some tA]++[some (pT q.2 z)]) H2=.ok [pT q.2 z,sA,tA] H2:=rfl
  have hlim:subE (varE 3) (cstE (.int 2)) ([some pA,some sA,some tA]++[some (pT q.2 z)]) H2=.ok (.int q.2.limit) H2:=rfl
  refine (e_bi (ZaI hlim (e_bi (Zaa (Zac hargs (ZjN (k:=k) W hz (F.ok q hq).rests (lift hs) hh (lift ht) hb))) (IsL.len (N:=H2.length+1) (ys:=(daysM q.2 (knownSN ss told)).map .int) (.inr ⟨_,rfl,by exact Nat.lt_add_one _,Zaj⟩) (by rw [qLm]; have:=hdl q.2; exact le_t ‹_› rfl)))) rfl).trans ?_
  rw [qLm]
  unfold leastM
  generalize (daysM q.2 (knownSN ss told)).length=dl
  show Out.ok (AV.int (if (dl:Int)<q.2.limit then (dl:Int) else q.2.limit)) _=_
  congr 2
  split<;>split<;>lia)
 suffices q:Zd8 (R (k+2)) false (rho0 [pA,sA,tA] 3) H=.ret (.int (roomM (qs.map (·.2)) (knownSN ss told))) H' by exact ⟨H',by rw [q]; rfl,u⟩
 refine Zbh (e_bi (Zaa e) ?_)
 have:qs.map (fun q=>AV.int (leastM q.2 (knownSN ss told)))=((qs.map (·.2)).map fun p=>leastM p (knownSN ss told)).map .int:=by rw [List.map_map,List.map_map]; rfl
 rw [this]
 exact Zme
end
noncomputable def heldL (P:List Str) (h:Str→List Nat) (n:Nat):List (Nat×Str):=(List.range n).flatMap fun x=>(P.filter fun r=>decide (x∈h r)).map fun r=>(x,r)
noncomputable def postX (ss:List Sm) (x:Nat):Sm×(Str×Int):=((allSN ss)[x]?).getD (⟨"", (0,0),[]⟩, "", 0)
noncomputable def rowAV (ss:List Sm) (e:Nat×Str):AV:=.tup [.str (postX ss e.1).1.name,.str (postX ss e.1).2.1,.str e.2]
noncomputable def placesM (ss:List Sm):List (Str×Str):=(allSN ss).flatMap fun e=>List.replicate e.2.2.toNat (postOf e)
section
variable {ps:List Pm} {ss:List Sm} {P:List Str} {h:Str→List Nat} {n k x y:Nat} {r:Str} {e:Sm×(Str×Int)}
theorem ZhZ (he:(allSN ss)[x]?=some e):postX ss x=e:=by unfold postX; rw [he]; rfl
theorem ZlT (hn:n≤(allSN ss).length):rowsH P h ss n=(heldL P h n).map (rowAV ss):=by
 unfold rowsH heldL
 rw [List.map_flatMap]
 unfold List.flatMap
 congr 1
 refine List.map_congr_left fun x hx=>?_
 obtain ⟨e,he⟩:∃ e,(allSN ss)[x]?=some e:=⟨_,qGg (Nat.lt_of_lt_of_le (List.mem_range.mp hx) hn)⟩
 rw [he,List.map_map]
 show rowX P h x e=_
 unfold rowX
 refine List.map_congr_left fun r _=>?_
 show _=rowAV ss (x,r)
 unfold rowAV
 rw [ZhZ he]
theorem Zb0:(x,r)∈heldL P h n↔x<n∧r∈P∧x∈h r:=by
 unfold heldL
 rw [List.mem_flatMap]
 constructor
 ·intro q
  refine x1_2 q fun a h1 q=>?_
  refine x1_2 (qMm q) fun b h2 e=>?_
  cases e
  exact ⟨List.mem_range.mp h1,(List.mem_filter.mp h2).1,of_decide_eq_true (List.mem_filter.mp h2).2⟩
 ·intro q
  exact ⟨x,List.mem_range.mpr q.1,List.mem_map.mpr ⟨r,List.mem_filter.mpr ⟨q.2.1,decide_eq_true q.2.2⟩,rfl⟩⟩
theorem ZhK (hP:P.Nodup):(heldL P h n).Nodup:=by
 unfold heldL
 induction n with
 | zero=>exact List.nodup_nil
 | succ n ih =>
  rw [List.range_succ,List.flatMap_append,List.flatMap_singleton,List.nodup_append]
  refine ⟨ih,Zat (fun a _ b _ e=>(Prod.mk.inj e).2) (List.Nodup.sublist List.filter_sublist hP),fun a ha b hb e=>?_⟩
  subst e
  obtain ⟨x,hx,ha⟩:=List.mem_flatMap.mp ha
  obtain ⟨_,_,e1⟩:=qMm ha
  obtain ⟨_,_,e2⟩:=qMm hb
  rw [← e2] at e1
  exact absurd (Prod.mk.inj e1).1 (Nat.ne_of_lt (List.mem_range.mp hx))
theorem Zfb (hP:P.Nodup) (hk:(heldL P h n)[k]?=some (x,r)) (hy:(y,r)∈(heldL P h n).take k):y∈h r∧y≠x:=by
 obtain ⟨i,hi,e⟩:=List.mem_take_iff_getElem.mp hy
 have e':(heldL P h n)[i]?=some (y,r):=(qGg (Nat.lt_min.mp hi).2).trans (congrArg some e)
 refine ⟨(Zb0.mp (qMo e')).2.2,fun q=>?_⟩
 subst q
 have:i=k:=(List.getElem?_inj (gsi e').1 (ZhK hP)).mp (e'.trans hk.symm)
 have:=Nat.lt_min.mp hi
 lia
theorem ZiO (hP:P.Nodup) (H:Hold (dkOf ps ss) h) (hk:(heldL P h n)[k]?=some (x,r)) (hy:(y,r)∈(heldL P h n).take k):(dkOf ps ss).day y≠(dkOf ps ss).day x:=fun q=>by
 obtain ⟨h1,h2⟩:=Zfb hP hk hy
 exact h2 (ZeX (H.nd r) h1 (Zb0.mp (qMo hk)).2.2 q)
theorem ZiP (hP:P.Nodup) (H:Hold (dkOf ps ss) h) (hk:(heldL P h n)[k]?=some (x,r)):((((heldL P h n).take k).filter fun e=>decide (e.2=r)).length:Int)<(dkOf ps ss).most r:=by
 refine Int.lt_of_lt_of_le (Int.ofNat_lt.mpr ?_) (H.mo r)
 have hm:∀ e∈((heldL P h n).take k).filter (fun e=>decide (e.2=r)),e.2=r∧(e.1,r)∈(heldL P h n).take k:=fun e he=>by
  obtain ⟨h1,h2⟩:=List.mem_filter.mp he
  have h2:e.2=r:=of_decide_eq_true h2
  exact ⟨h2,h2▸h1⟩
 have nd:((((heldL P h n).take k).filter fun e=>decide (e.2=r)).map (·.1)).Nodup:=Zat (fun a ha b hb q=>Prod.ext q ((hm a ha).1.trans (hm b hb).1.symm)) (List.Nodup.sublist List.filter_sublist (List.Nodup.sublist (List.take_sublist _ _) (ZhK hP)))
 have:=Zca (l:=x::(((heldL P h n).take k).filter fun e=>decide (e.2=r)).map (·.1)) (m:=h r) (List.nodup_cons.mpr ⟨fun q=>?_,nd⟩) fun y hy=>?_
 ·rw [List.length_cons,qLm] at this; exact this
 ·obtain ⟨e,he,e1⟩:=qMm q
  exact (Zfb hP hk (hm e he).2).2 e1
 ·rcases List.mem_cons.mp hy with rfl | hy
  ·exact (Zb0.mp (qMo hk)).2.2
  ·obtain ⟨e,he,e1⟩:=qMm hy
   exact e1▸(Zfb hP hk (hm e he).2).1
theorem Zeg (F:Fills ps ss h):((heldL (ps.map (·.name)) h (allSN ss).length).map fun e=>postOf (postX ss e.1))=placesM ss:=by
 have key:∀ n,n≤(allSN ss).length→((heldL (ps.map (·.name)) h n).map fun e=>postOf (postX ss e.1))=((allSN ss).take n).flatMap fun e=>List.replicate e.2.2.toNat (postOf e):=fun n=>by
  unfold heldL
  induction n with
  | zero=>exact fun _=>rfl
  | succ n ih =>
   intro hn
   obtain ⟨e,he⟩:∃ e,(allSN ss)[n]?=some e:=⟨_,qGg hn⟩
   rw [List.range_succ,List.flatMap_append,qMa,ih (Nat.le_of_succ_le hn),List.take_add_one,he,List.flatMap_append,List.flatMap_singleton,Option.toList_some,List.flatMap_singleton]
   congr 1
   rw [List.map_map]
   refine List.eq_replicate_iff.mpr ⟨?_,fun b hb=>?_⟩
   ·rw [qLm,← List.countP_eq_length_filter]
    exact (F.2 n hn).trans (Zmf he)
   ·obtain ⟨_,_,e1⟩:=qMm hb
    rw [← e1]
    show postOf (postX ss n)=_
    rw [ZhZ he]
 have:=key _ (Nat.le_refl _)
 rw [List.take_length] at this
 exact this
end
section
variable {ρ:RE} {H H₁ H₂:AH} {l r e:DE} {o:Out AV} {a:AV} {G:Gm}
theorem ZcW {c:Bool} {rs:List DE} (h1:l ρ H=.ok (.bool c) H₁) (h2:bopE c (r::rs) ρ H₁=o):bopE c (l::r::rs) ρ H=o:=by
 show (l ρ H).bind _=_
 rw [h1]
 show (if c=c then _ else _)=_
 rw [if_pos rfl]; exact h2
theorem Zjl {c:Bool} {rs:List DE} (h1:l ρ H=.ok (.bool (!c)) H₁):bopE c (l::r::rs) ρ H=.ok (.bool (!c)) H₁:=by
 show (l ρ H).bind _=_
 rw [h1]
 show (if (!c)=c then _ else _)=_
 rw [if_neg (by cases c<;>decide)]
theorem Zim {ts:List Ty} {b:Bool} (h:e ρ H=.ok a H₁) (q:isiAny H₁ a ts=some b):isiE G e ts ρ H=.ok (.bool b) H₁:=by
 unfold isiE
 rw [h]
 show orBad (isiAny H₁ a ts) _=_
 rw [q]; rfl
theorem Zki {r:Nat} {ys:List AV} (h:H[r]?=some (.lst ys)):isiAny H (.ref r) [.lst]=some true:=by
 show (kdOf H (.ref r)).map _=_
 rw [Zg0 h]; rfl
end
def PlV (v:AV):Prop:=∃ d,(∀ (H:AH) (n:Nat),den (n+2) H v=some d)∧PyData.eqv d d=true
theorem Zmq {x:Str}:PlV (.str x):=⟨.str x,fun _ _=>rfl,by rw [Zbr]; simp⟩
theorem ZoC {i:Int}:PlV (.int i):=⟨.int i,fun _ _=>rfl,by show (i == i)=true; simp⟩
theorem Zeo {x:Str×Str}:PlV (postAV x):=⟨.tuple [.str x.1,.str x.2],fun _ _=>rfl,by rw [Zfj]; simp⟩
theorem Zo2 {x:Int×Int}:PlV (stAV x):=⟨.tuple [.int x.1,.int x.2],fun _ _=>rfl,by show ((x.1 == x.1) && ((x.2 == x.2) && true))=true; simp⟩
theorem Zmp {ss:List Sm} {e:Nat×Str}:PlV (rowAV ss e):=by
 refine ⟨.tuple [.str (postX ss e.1).1.name,.str (postX ss e.1).2.1,.str e.2],fun _ _=>rfl,?_⟩
 show (PyData.eqv (.str _) (.str _) && (PyData.eqv (.str _) (.str _) && (PyData.eqv (.str _) (.str _) && true)))=true
 rw [Zbr,Zbr,Zbr]; simp
theorem Zb4 {α:Type} {f:α→AV} {l:List α} (h:∀ x,PlV (f x)):∀ v∈l.map f,PlV v:=fun v hv=>by
 refine x1_2 (qMm hv) fun x _ e=>?_
 rw [← e]; exact h x
theorem Zj9:∀ {l:List AV},(∀ v∈l,PlV v)→∃ ds,(∀ (H:AH) (n:Nat),denL (den (n+2) H) l=some ds)∧PyData.eqvAll ds ds=true
 | [],_=>⟨[],fun _ _=>rfl,rfl⟩
 | v::l,h=>by
  obtain ⟨d,h1,h2⟩:=h v (.head _)
  obtain ⟨ds,h3,h4⟩:=Zj9 fun x hx=>h x (.tail _ hx)
  refine ⟨d::ds,fun H n=>?_,?_⟩
  ·show ((den (n+2) H v).bind fun d=>(denL (den (n+2) H) l).map (d::·))=_
   rw [h1,h3]; rfl
  ·show (PyData.eqv d d && PyData.eqvAll ds ds)=true
   rw [h2,h4]; rfl
section
variable {R:Nat→Bool→FT} {k:Nat} {H:AH} {N:Nat} {PG:OutS→Prop} {fA:AV} {l:List AV}
theorem IsL.dn {ds:List PyData} (h:IsL N H fA l) (hd:∀ (H:AH) (n:Nat),denL (den (n+2) H) l=some ds) {n:Nat}:den (n+3) H fA=some (.list ds):=by
 rcases h with rfl | ⟨r,rfl,_,h⟩
 ·show (denL (den (n+2) H) l).map PyData.list=_
  rw [hd]; rfl
 ·rw [Zje h]
  show (denL (den (n+2) H) l).map PyData.list=_
  rw [hd]; rfl
theorem Zb6 {M:Nat} {gA:AV} (hf:∀ v∈l,PlV v) (h1:IsL N H fA l) (h2:IsL M H gA l):cmpA H .NotEq fA gA=some false:=by
 obtain ⟨ds,hd,he⟩:=Zj9 hf
 show (eqA H fA gA).map (!·)=_
 unfold eqA
 rw [show den deep H fA=_ from h1.dn hd (n:=17),show den deep H gA=_ from h2.dn hd (n:=17)]
 show some (!(PyData.eqvAll ds ds))=_
 rw [he]; rfl
end
noncomputable def placesN (s:Sm) (ns:List (Str×Int)):List (Str×Str):=ns.flatMap fun n=>List.replicate n.2.toNat (s.name,n.1)
theorem Zj8 (ss:List Sm):placesM ss=ss.flatMap fun s=>placesN s s.needs:=by
 unfold placesM allSN placesN
 rw [List.flatMap_assoc]
 unfold List.flatMap
 congr 1
 refine List.map_congr_left fun s _=>?_
 rw [List.map_map]; rfl
section
variable {R:Nat→Bool→FT} {k:Nat} {H:AH} {N:Nat} {ss:List Sm} {sA:AV} {PG:OutS→Prop}
theorem mul_one {x:AV} {c:Int} (h:0≤c∧c≤9):binA false .Mult (.lst [x]) (.int c) H=.ok (.lst (List.replicate c.toNat x)) H:=by
 show (if -1000<c∧c<1000∧[x].length<1000 then Out.ok (AV.lst ((List.replicate c.toNat [x]).flatten)) H else .bad)=_
 rw [if_pos ⟨by lia,by lia,by simp⟩,List.flatten_replicate_singleton]
theorem Zg2 (W:Law10 R) (hl:IsL N H sA (ss.map SV)) (ok:∀ s∈ss,SmOK s) (hb:(placesM ss).length≤900):R (k+1) false 49 [sA] H=.ok (.lst ((placesM ss).map postAV)) H:=by
 rw [W.l_places _ _ _ _ rfl]
 suffices key:∀ PG:OutS→Prop,PG (.ret (.lst ((placesM ss).map postAV)) H)→PG (ZbO (R k) false (rho0 [sA] 4) H) from key (fun o=>o.done=.ok (.lst ((placesM ss).map postAV)) H) rfl
 intro PG fin
 have hz:1000≤sizeLine:=by decide
 rw [Zj8] at hb fin
 refine Zal (a:=.lst []) (H₁:=H) rfl ?_
 refine Zbk (N:=N) (a:=sA) (H₁:=H) (xs:=ss.map SV) rfl hl
  (fun j ρ H'=>A2 (H'=H) (Ex2 fun a2 a3=>ρ=[some sA,some (.lst (((ss.take j).flatMap fun s=>placesN s s.needs).map postAV)),a2,a3])) ⟨rfl,_,_,rfl⟩ (fun j ρ H' h=>by rw [h.1]; exact Up.refl) ?_ ?_
 ·rintro J j v ρ H' hv ⟨rfl,a2,a3,rfl⟩ hJ
  rw [qGm] at hv
  refine x1_2 (oms hv) fun s hj e2'=>?_; subst e2'
  have hc:=(ok s (qMo hj)).needs.counts
  have e:((ss.take (j+1)).flatMap fun s=>placesN s s.needs)=((ss.take j).flatMap fun s=>placesN s s.needs)++placesN s s.needs:=ZbY hj
  have hb1:((ss.take (j+1)).flatMap fun s=>placesN s s.needs).length≤900:=by
   have q:(ss.flatMap fun s=>placesN s s.needs)=((ss.take (j+1)).flatMap fun s=>placesN s s.needs)++((ss.drop (j+1)).flatMap fun s=>placesN s s.needs):=by
    rw [← List.flatMap_append,List.take_append_drop]
   rw [q,qLa] at hb
   lia
  rw [e] at hJ hb1
  rw [qLa] at hb1
  generalize ((ss.take j).flatMap fun s=>placesN s s.needs)=Z at hJ hb1
  show Nx _ _ ((_:DS) [some sA,some (.lst (Z.map postAV)),some (SV s),a3] H')
  refine Zbk (N:=N) (a:=.lst (s.needs.map needAV)) (H₁:=H') (xs:=s.needs.map needAV) (Zab rfl rfl rfl) (.inl rfl)
   (fun i ρ H''=>A2 (H''=H') (∃ a3,ρ=[some sA,some (.lst ((Z++placesN s (s.needs.take i)).map postAV)),some (SV s),a3])) ⟨rfl,a3,by unfold placesN; simp⟩ (fun j ρ H' h=>by rw [h.1]; exact Up.refl) ?_ ?_
  ·rintro J' i v ρ H'' hv ⟨rfl,a3,rfl⟩ hJ'
   rw [qGm] at hv
   refine x1_2 (oms hv) fun n hi e2'=>?_; subst e2'
   have hn:=hc n (qMo hi)
   have e1:placesN s (s.needs.take (i+1))=placesN s (s.needs.take i)++List.replicate n.2.toNat (s.name,n.1):=ZbY hi
   have hb2:(placesN s (s.needs.take (i+1))).length≤(placesN s s.needs).length:=by
    have q:placesN s s.needs=placesN s (s.needs.take (i+1))++placesN s (s.needs.drop (i+1)):=by
     unfold placesN; rw [← List.flatMap_append,List.take_append_drop]
    rw [q,qLa]; exact Nat.le_add_right _ _
   rw [e1] at hJ' hb2
   rw [qLa] at hb2
   generalize placesN s (s.needs.take i)=Y at hJ' hb2
   refine Zal (a:=.lst ((Z++(Y++List.replicate n.2.toNat (s.name,n.1))).map postAV)) (H₁:=H'') (Zay rfl (Zay (ZeI (Zaa (ZcC (ZaI (Zab rfl rfl rfl) (Zab rfl rfl rfl)) (by simp))) (by simp) rfl) (Zab rfl rfl rfl) (mul_one ⟨by lia,hn.2⟩)) ((addL (by rw [qLm,qLa,List.length_replicate]; rw [List.length_replicate] at hb2; lia)).trans ?_)) (Zam (hJ' _ _ ⟨rfl,_,rfl⟩))
   show Out.ok (AV.lst _) H''=_
   rw [← qAa,List.map_append (l₂:=List.replicate _ _),List.map_replicate]; rfl
  ·rintro ρ H'' ⟨rfl,a3,rfl⟩
   rw [qLm,List.take_length]
   exact Zam (hJ _ _ ⟨rfl,_,_,rfl⟩)
 ·rintro ρ H' ⟨rfl,a2,a3,rfl⟩
  rw [qLm,List.take_length]
  exact ZaZ rfl fin
end
theorem ZeQ {α β:Type} [DecidableEq β] {f:α→β} {l:List α} (hn:(l.map f).Nodup) {x:α} (hx:x∈l):l.filter (fun y=>decide (f y=f x))=[x]:=by
 induction l with
 | nil=>cases hx
 | cons y r ih =>
  rw [List.map_cons,List.nodup_cons] at hn
  rcases List.mem_cons.mp hx with rfl | hx
  ·rw [List.filter_cons_of_pos (p:=fun y=>decide (f y=f x)) (decide_eq_true rfl),List.filter_eq_nil_iff.mpr fun z hz q=>hn.1 ((of_decide_eq_true (p:=f z=f x) q)▸List.mem_map_of_mem hz)]
  ·rw [List.filter_cons_of_neg (p:=fun y=>decide (f y=f x)) (by rw [decide_eq_true_eq]; exact fun e=>hn.1 (e▸List.mem_map_of_mem hx)),ih hn.2 hx]
section
variable {R:Nat→Bool→FT} {k:Nat} {H:AH} {N x:Nat} {ps:List Pm} {ss:List Sm} {qs:List (Option Nat×Pm)} {q:Option Nat×Pm} {pA sA aA:AV} {PG:OutS→Prop} {L:List (Nat×Str)} {s:Sm} {n:Str×Int}
noncomputable def ownS (ss:List Sm) (L:List (Nat×Str)) (r:Str):List Str:=(L.filter fun e=>decide (e.2=r)).map fun e=>(postX ss e.1).1.name
theorem ZlS (W:Law10 R) (F:Folk H H.length qs) (hp:IsL H.length H pA (qs.map pv)) (hs:IsL H.length H sA (ss.map SV)) (hsn:(ss.map (·.name)).Nodup) (hsf:ss.length≤100) (hh:∀ s∈ss,stOK s.hours=true) (hL:L.length≤1000) (he:postX ss x=(s,n)) (hsm:s∈ss) (hq:q∈qs) (hm:mayM q.2 s n.1=true)
  (hd:∀ t∈ss,t.name∈ownS ss L q.2.name→t.hours.1 / 24≠s.hours.1 / 24) (hf:((ownS ss L q.2.name).length:Int)<q.2.limit):R (k+2) false 50 [rowAV ss (x,q.2.name),.lst (L.map (rowAV ss)),pA,sA] H=.ok (.bool true) H:=by
 rw [W.l_row_holds _ _ _ _ rfl]
 suffices key:∀ PG:OutS→Prop,PG (.ret (.bool true) H)→PG (Za9 (R (k+1)) false (rho0 [rowAV ss (x,q.2.name),.lst (L.map (rowAV ss)),pA,sA] 8) H) from key (fun o:OutS=>o.done=Out.ok (AV.bool true) H) rfl
 intro PG fin
 have hrow:rowAV ss (x,q.2.name)=.tup [.str s.name,.str n.1,.str q.2.name]:=by unfold rowAV; rw [he]
 rw [hrow]
 have hpf:=F.few
 obtain ⟨a,ea,ha⟩:=ZdR (F.rs q hq)
 refine Zal (a:=.lst [pv q]) (H₁:=H) (Zbq (l:=qs) (fx:=pv) (fy:=pv) (p:=fun y=>decide (y.2.name=q.2.name)) rfl hp (le_t F.few rfl) (fun y _=>Zai (Zab (Zag rfl) rfl rfl) (Zab (Zak rfl) rfl rfl) Zfi) (fun y _ _=>Zag rfl) ?_) ?_
 ·rw [ZeQ (f:=fun y:Option Nat×Pm=>y.2.name) F.nodup hq]; rfl
 rw [ea]
 refine Zal (a:=.lst [SV s]) (H₁:=H) (Zbq (l:=ss) (fx:=SV) (fy:=SV) (p:=fun y=>decide (y.name=s.name)) rfl hs (le_t hsf rfl) (fun y _=>Zai (Zab (Zag rfl) rfl rfl) (Zab (Zak rfl) rfl rfl) Zfi) (fun y _ _=>Zag rfl) ?_) ?_
 ·rw [ZeQ (f:=fun y:Sm=>y.name) hsn hsm]; rfl
 refine ZaK (H₁:=H) (ZcW (c:=false) (H₁:=H) (Zai rfl rfl ((IsL.eq_nil (N:=0) (.inl rfl) ?_).trans rfl)) (e_nt (x:=true) ((Zac (ZaE (Zab rfl rfl rfl) (Zab rfl rfl rfl) (Zab rfl rfl rfl)) (ZhR (k:=k) (p:=q.2) (s:=s) (x:=n.1) W ha (F.ok q hq).rests (hh s hsm))).trans (by rw [hm])))) ?_
 ·have:=Zmg (H:=H) (n:=15) (q:=q) fun r e=>(F.rs q hq r e).2
  rw [ea] at this
  obtain ⟨d,hd⟩:=this
  exact ZaR fun y hy=>by rw [qMs hy]; exact ⟨d,hd⟩
 refine Zal (a:=.lst ((ownS ss L q.2.name).map .str)) (H₁:=H) (Zbq (l:=L) (fx:=rowAV ss) (fy:=fun e=>.str (postX ss e.1).1.name) (p:=fun e=>decide (e.2=q.2.name)) rfl (.inl rfl) (le_t hL rfl) (fun y _=>Zai (Zab (Zag rfl) rfl rfl) (Zab (Zak rfl) rfl rfl) Zfi) (fun y _ _=>Zab (Zag rfl) rfl rfl) ?_) ?_
 ·unfold ownS; rw [List.map_map]; rfl
 have hol:(ownS ss L q.2.name).length≤1000:=by
  unfold ownS
  rw [qLm]
  exact Nat.le_trans (List.length_filter_le _ _) hL
 generalize ownS ss L q.2.name=O at hd hf hol
 refine Zal (a:=.lst (((ss.filter fun t=>decide (t.name∈O)).map fun t=>t.hours.1 / 24).map .int)) (H₁:=H) (Zbq (l:=ss) (fx:=SV) (fy:=fun t=>.int (t.hours.1 / 24)) (p:=fun t=>decide (t.name∈O)) rfl hs (le_t hsf rfl) (fun y _=>Zai (Zab (Zag rfl) rfl rfl) (Zak rfl) (Zbs rfl rfl)) (fun y _ _=>Zay (Zab (Zab (Zag rfl) rfl rfl) rfl rfl) rfl (Zla rfl rfl)) ?_) ?_
 ·rw [List.map_map]; rfl
 have hno:¬ s.hours.1 / 24∈(ss.filter fun t=>decide (t.name∈O)).map fun t=>t.hours.1 / 24:=fun h=>by
  refine x1_2 (qMm h) fun t ht e=>?_
  obtain ⟨h1,h2⟩:=List.mem_filter.mp ht
  exact hd t h1 (of_decide_eq_true h2) e
 exact ZaZ (a:=.bool true) (H₁:=H) (ZcW (c:=true) (H₁:=H) (Zai (Zay (Zab (Zab (Zab rfl rfl rfl) rfl rfl) rfl rfl) rfl (Zla rfl rfl)) rfl ((ZhW (d:=s.hours.1 / 24) rfl rfl).trans (by rw [decide_eq_false hno]; rfl))) (Zai (e_bi (Zaa rfl) (Zmd (by rw [qLm]; exact Nat.lt_of_le_of_lt hol (by decide)))) (Zab (Zab rfl rfl rfl) rfl rfl) (ZgJ.trans (by rw [qLm,decide_eq_true hf])))) fin
end
structure ShOK (ss:List Sm):Prop where
 ok:∀ s∈ss,SmOK s
 sn:(ss.map (·.name)).Nodup
 few:∀ s∈ss,s.needs.length≤6
 tot:(allSN ss).length≤60
 sf:ss.length≤13
section
variable {R:Nat→Bool→FT} {k:Nat} {H H' H0:AH} {N b a bb m:Nat} {qs qs':List (Option Nat×Pm)} {ss ss':List Sm} {PG:OutS→Prop} {xs:List Int} {w:Int} {v1 v2 sA:AV}
theorem Zmz:(allSN ss).length=(ss.map fun s=>s.needs.length).sum:=by
 unfold allSN
 rw [List.length_flatMap]
 simp only [qLm]
theorem Made.sh (M:Made H H' a bb qs ss):ShOK ss:=⟨M.sok,M.sn,M.few,by rw [Zmz]; exact M.tot,M.sl⟩
theorem Zmy {s t:List Sm}:allSN (s++t)=allSN s++allSN t:=List.flatMap_append
theorem ShOK.pre (S:ShOK ss) {rest:List Sm} (e:ss=ss'++rest):ShOK ss':=by
 have l:ss'.Sublist ss:=e▸List.sublist_append_left _ _
 refine ⟨fun s hs=>S.ok s (l.subset hs),List.Nodup.sublist (l.map _) S.sn,fun s hs=>S.few s (l.subset hs),Nat.le_trans ?_ S.tot,Nat.le_trans l.length_le S.sf⟩
 rw [e,Zmy,qLa]
 exact Nat.le_add_right _ _
theorem ShOK.cnt (S:ShOK ss):∀ e∈allSN ss,0≤e.2.2∧e.2.2≤1000:=fun e he=>by
 have:=(S.ok e.1 (ZbA he).1).needs.counts e.2 (ZbA he).2
 exact ⟨Int.le_trans (by decide) this.1,Int.le_trans this.2 (by decide)⟩
theorem ZcF:∀ {ss:List Sm},(ss.map (·.name)).Nodup→(∀ s∈ss,(s.needs.map (·.1)).Nodup)→(postsM ss).Nodup
 | [],_,_=>List.nodup_nil
 | s::r,h,q=>by
  rw [List.map_cons,List.nodup_cons] at h
  show (postsS s++postsM r).Nodup
  have e:postsS s=(s.needs.map (·.1)).map fun x=>(s.name,x):=by unfold postsS; rw [List.map_map]; rfl
  rw [List.nodup_append,e]
  refine ⟨Zat (fun a _ b _ e=>(Prod.mk.inj e).2) (q s (.head _)),ZcF h.2 fun t ht=>q t (.tail _ ht),fun x hx y hy e=>h.1 ?_⟩
  refine x1_2 (qMm hx) fun u _ e1=>?_
  refine x1_2 (List.mem_flatMap.mp hy) fun t ht hy=>?_
  refine x1_2 (qMm hy) fun n _ e2=>?_
  rw [← e1,← e2] at e
  rw [(Prod.mk.inj e).1]
  exact List.mem_map_of_mem ht
theorem Zfg (W:Law10 R) {ps:List Pm} (pm:∀ p∈ps,PmOK p) (pn:(ps.map (·.name)).Nodup) (pf:ps.length≤100) (S:ShOK ss) (B:BookOf N H b ps ss):∃ v H',R (k+5) false 33 [.ref b] H=.ok v H'∧Up H.length H H'∧Dealt H.length ps ss H' v :=
 Zjd W.dl W.bk W.my W.rd B ⟨pn,S.sn,S.few,fun s hs=>(S.ok s hs).needs.nodup,pf,le_t S.sf rfl,fun p hp=>le_t (pm p hp).few rfl⟩ (fun p hp=>⟨Int.le_trans (by decide) (pm p hp).limit.1,Int.le_trans (pm p hp).limit.2 (by decide)⟩) S.tot S.cnt
theorem Folk.pm (F:Folk H' N qs):∀ p∈qs.map (·.2),PmOK p:=fun p hp=>by
 refine x1_2 (qMm hp) fun q hq e=>?_
 rw [← e]; exact F.ok q hq
theorem ZgP (W:Law10 R) (F:Folk H' N qs) (S:ShOK ss) (B:BookOf N H b (qs.map (·.2)) ss):∃ v H',R (k+5) false 33 [.ref b] H=.ok v H'∧Up H.length H H'∧Dealt H.length (qs.map (·.2)) ss H' v :=
 Zfg W F.pm (by rw [ZaS]; exact F.nodup) (by rw [qLm]; exact F.few) S B
end
section
variable {R:Nat→Bool→FT} {k i:Nat} {H:AH} {N x:Nat} {ss:List Sm} {qs:List (Option Nat×Pm)} {pA sA rA:AV} {PG:OutS→Prop} {h:Str→List Nat} {e:Nat×Str}
theorem Zef {α:Type} {l:List α}:l.filter (fun _=>false)=[]:=List.filter_eq_nil_iff.mpr fun _ _=>Bool.false_ne_true
theorem ShOK.places (S:ShOK ss):(placesM ss).length≤540:=by
 have key:∀ l:List (Sm×(Str×Int)),(∀ e∈l,e.2.2≤9)→(l.flatMap fun e=>List.replicate e.2.2.toNat (postOf e)).length≤9*l.length:=fun l=>by
  induction l with
  | nil=>exact fun _=>Nat.le_refl _
  | cons e r ih =>
   intro q
   rw [List.flatMap_cons,qLa,List.length_replicate,List.length_cons]
   have:=ih fun x hx=>q x (.tail _ hx)
   have:=q e (.head _)
   lia
 have:=key (allSN ss) fun e he=>((S.ok e.1 (ZbA he).1).needs.counts e.2 (ZbA he).2).2
 have:=S.tot
 unfold placesM
 lia
noncomputable def rowsL (qs:List (Option Nat×Pm)) (ss:List Sm) (h:Str→List Nat):List (Nat×Str):=heldL ((qs.map (·.2)).map (·.name)) h (allSN ss).length
theorem Zcf (S:ShOK ss) (Fl:Fills (qs.map (·.2)) ss h):(rowsL qs ss h).length≤540:=by
 have:=congrArg List.length (Zeg Fl)
 rw [qLm] at this
 exact this▸S.places
theorem ZoD (W:Law10 R) (F:Folk H H.length qs) (hp:IsL H.length H pA (qs.map pv)) (hs:IsL H.length H sA (ss.map SV)) (S:ShOK ss) (Fl:Fills (qs.map (·.2)) ss h) (hi:(rowsL qs ss h)[i]?=some e):R (k+2) false 50 [rowAV ss e,.lst (((rowsL qs ss h).take i).map (rowAV ss)),pA,sA] H=.ok (.bool true) H:=by
 obtain ⟨x,r⟩:=e
 have hP:((qs.map (·.2)).map (·.name)).Nodup:=by rw [ZaS]; exact F.nodup
 have hm:=Zb0.mp (qMo hi)
 have hf:=Fl.1.ft r x hm.2.2
 obtain ⟨⟨s,n⟩,he⟩:=ZmV hf
 obtain ⟨p,h1,h2,h3⟩:=(Zjq he).mp hf
 refine x1_2 (qMm h1) fun q hq e1=>?_
 subst e1
 subst h3
 have hsm:=(ZbA (qMo he)).1
 have hl:=Zcf S Fl
 refine ZlS (s:=s) (n:=n) W F hp hs S.sn (le_t S.sf rfl) (fun s hs=>(S.ok s hs).hours) (by rw [qLt]; exact Nat.le_trans (Nat.min_le_right _ _) (le_t ‹_› rfl)) (ZhZ he) hsm hq h2 (fun t ht ho=>?_) ?_
 ·refine x1_2 (qMm ho) fun e' he' e2=>?_
  obtain ⟨y,r'⟩:=e'
  obtain ⟨h4,h5⟩:=List.mem_filter.mp he'
  obtain rfl:r'=q.2.name:=of_decide_eq_true h5
  have hy:=(Zb0.mp (List.mem_of_mem_take h4)).1
  obtain ⟨⟨s',n'⟩,hy'⟩:∃ e,(allSN ss)[y]?=some e:=⟨_,qGg hy⟩
  have e2:(postX ss y).1.name=t.name:=e2
  rw [ZhZ hy'] at e2
  have:=ZiO (ss:=ss) hP Fl.1 hi h4
  rw [ZhD hy',ZhD he] at this
  rw [← ZeX S.sn (ZbA (qMo hy')).1 ht e2]
  exact this
 ·have:=ZiP (ss:=ss) hP Fl.1 hi
  rw [ZgS hP (List.mem_map_of_mem hq)] at this
  unfold ownS
  rw [qLm]
  exact this
theorem ZlR (W:Law10 R) (F:Folk H H.length qs) (hp:IsL H.length H pA (qs.map pv)) (hs:IsL H.length H sA (ss.map SV)) (S:ShOK ss) (Fl:Fills (qs.map (·.2)) ss h) (hr:IsL H.length H rA ((rowsL qs ss h).map (rowAV ss))) (hi:isiAny H rA [.lst]=some true):R (k+3) false 51 [rA,pA,sA] H=.ok (.bool true) H:=by
 rw [W.l_is_rota _ _ _ _ rfl]
 suffices key:∀ PG:OutS→Prop,PG (.ret (.bool true) H)→PG (ZbB (R (k+2)) false (rho0 [rA,pA,sA] 4) H) from key (fun o=>o.done=.ok (.bool true) H) rfl
 intro PG fin
 have hl:=Zcf S Fl
 have hpl:=Zeg Fl
 have hok:=fun {i e}=>ZoD (k:=k) (i:=i) (e:=e) W F hp hs S Fl
 change (rowsL qs ss h).map _=_ at hpl
 generalize rowsL qs ss h=L at hr hl hpl hok
 refine ZaK (H₁:=H) (ZcW (c:=false) (H₁:=H) (e_nt (x:=true) (Zim rfl hi)) (Zai (a:=.lst []) (Zbq (l:=L) (fx:=rowAV ss) (fy:=rowAV ss) (p:=fun _=>false) rfl hr (le_t hl rfl) (fun y _=>ZcW (c:=false) (e_nt (x:=true) (Zim (Zag rfl) rfl)) (Zai (e_bi (Zaa (Zag rfl)) rfl) rfl rfl)) (fun y _ q=>nomatch q) (by rw [Zef]; rfl)) rfl rfl)) ?_
 refine ZaK (H₁:=H) (Zai (Zea (l:=L) (fx:=rowAV ss) (fy:=fun e=>postAV (postOf (postX ss e.1))) rfl hr (le_t hl rfl) (fun y _=>ZcC (ZaI (Zab (Zag rfl) rfl rfl) (Zab (Zag rfl) rfl rfl)) (by simp)) rfl) (Zac (Zaa rfl) (Zg2 (k:=k+1) W hs S.ok (le_t S.places rfl))) (Zb6 (N:=0) (M:=0) (l:=(placesM ss).map postAV) (Zb4 fun _=>Zeo) (.inl ?_) (.inl rfl))) ?_
 ·rw [← hpl,List.map_map]; rfl
 refine Zbt (a:=.rng 0 L.length) (H₁:=H) (xs:=span 0 L.length) (e_bi (Zaa (e_bi (Zaa rfl) ((hr.len (by rw [qLm]; exact le_t hl rfl)).trans (by rw [qLm])))) rfl) (Zan (Int.natCast_nonneg _) (by lia)) (by rw [Zae,Int.sub_zero])
  (fun j ρ H'=>A2 (H'=H) (∃ a3,ρ=[some rA,some pA,some sA,a3])) ⟨rfl,_,rfl⟩ ?_ ?_
 ·rintro J j v ρ H' hv ⟨rfl,a3,rfl⟩ hJ
  obtain ⟨hd,X,hX,rfl⟩:=Zbl hv
  obtain ⟨e,he⟩:∃ e,L[j]?=some e:=⟨_,qGg hd⟩
  show Nx _ _ ((_:DS) [some rA,some pA,some sA,some (.int X)] H')
  have hX0:0≤X:=by lia
  have hXj:X.toNat=j:=by lia
  have hsub:subA rA (.int X) H'=.ok (rowAV ss e) H':=hr.sub hX0 (by rw [hXj,qGm,he]; rfl) (by rw [qLm]; exact le_t hl rfl)
  have hcut:slcA false rA .none (.int X) .none H'=.ok (.lst ((L.take j).map (rowAV ss))) H':=(hr.cut_to hX0 (by rw [qLm]; lia) (by rw [qLm]; exact le_t hl rfl)).trans (by rw [hXj,List.map_take])
  exact ZaK (H₁:=H') (ZcW (c:=false) (e_nt (x:=true) (Zim (Zab (Zab rfl rfl hsub) rfl rfl) rfl)) (e_nt (x:=true) (Zac (ZeU (Zab rfl rfl hsub) (ZaE (Zec rfl rfl rfl rfl hcut) rfl rfl)) (hok he)))) (Zam (hJ _ _ ⟨rfl,_,rfl⟩))
 ·rintro ρ H' ⟨rfl,a3,rfl⟩
  exact ZaZ rfl fin
end
theorem Ze6:∀ {l m:List Nat},l.Pairwise (·<·)→m.Pairwise (·<·)→(∀ x,x∈l↔x∈m)→l=m
 | [],m,_,_,h=>(List.eq_nil_iff_forall_not_mem.mpr fun x hx=>absurd ((h x).mpr hx) List.not_mem_nil).symm
 | a::l,m,hl,hm,h=>by
  cases m with
  | nil=>exact absurd ((h a).mp (.head _)) List.not_mem_nil
  | cons b m =>
   obtain ⟨l1,l2⟩:=List.pairwise_cons.mp hl
   obtain ⟨m1,m2⟩:=List.pairwise_cons.mp hm
   have e:a=b:=by
    rcases List.mem_cons.mp ((h a).mp (.head _)) with e | q
    ·exact e
    ·rcases List.mem_cons.mp ((h b).mpr (.head _)) with e | w
     ·exact e.symm
     ·exact absurd (m1 a q) (Nat.lt_asymm (l1 b w))
   subst e
   congr 1
   refine Ze6 l2 m2 fun x=>⟨fun q=>?_,fun q=>?_⟩
   ·exact (List.mem_cons.mp ((h x).mp (.tail _ q))).resolve_left fun w=>absurd (l1 x q) (w▸Nat.lt_irrefl _)
   ·exact (List.mem_cons.mp ((h x).mpr (.tail _ q))).resolve_left fun w=>absurd (m1 x q) (w▸Nat.lt_irrefl _)
section
variable {ss:List Sm} {M:List Nat}
theorem Zhm (nd:M.Nodup) {n:Nat} (lt:∀ y∈M,y<n):(sortI (M.map fun x:Nat=>(x:Int))).map Int.toNat=(List.range n).filter fun x=>decide (x∈M):=by
 have hp:=Zcg (M.map fun x:Nat=>(x:Int))
 have mem:∀ i∈sortI (M.map fun x:Nat=>(x:Int)),∃ x∈M,(x:Int)=i:=fun i hi=>by
  refine x1_2 (qMm (hp.mem_iff.mp hi)) fun x hx e=>⟨x,hx,e⟩
 have nd':(sortI (M.map fun x:Nat=>(x:Int))).Nodup:=hp.nodup_iff.mpr (Zat (fun a _ b _ e=>Int.ofNat.inj e) nd)
 refine Ze6 ?_ ?_ fun x=>?_
 ·refine List.pairwise_map.mpr ?_
  refine (List.Pairwise.and (Zb8 _) nd').imp_of_mem fun {a b} ha hb q=>?_
  obtain ⟨x,_,e1⟩:=mem a ha
  obtain ⟨y,_,e2⟩:=mem b hb
  subst e1
  subst e2
  rw [Int.toNat_natCast,Int.toNat_natCast]
  exact Nat.lt_of_le_of_ne (Int.ofNat_le.mp q.1) fun e=>q.2 (congrArg _ e)
 ·exact List.Pairwise.sublist List.filter_sublist List.pairwise_lt_range
 ·rw [List.mem_filter,List.mem_range,decide_eq_true_eq]
  constructor
  ·intro q
   refine x1_2 (qMm q) fun i hi e=>?_
   obtain ⟨y,hy,e1⟩:=mem i hi
   have:y=x:=by lia
   exact ⟨this▸lt y hy,this▸hy⟩
  ·rintro ⟨_,q⟩
   exact List.mem_map.mpr ⟨(x:Int),hp.mem_iff.mpr (List.mem_map_of_mem q),Int.toNat_natCast x⟩
theorem Zhl (hn:(postsM ss).Nodup) (nd:M.Nodup) (lt:∀ y∈M,y<(postsM ss).length):(postsM ss).filter (fun z=>decide (z∈toldS ss M))=toldS ss M:=by
 have et:toldS ss M=((List.range (postsM ss).length).filter fun x=>decide (x∈M)).map fun x=>(postsM ss).getD x ("", ""):=by
  rw [← Zhm nd lt,List.map_map]; rfl
 have el:postsM ss=(List.range (postsM ss).length).map fun x=>(postsM ss).getD x ("", ""):=by
  refine List.ext_getElem? fun i=>?_
  rw [qGm]
  by_cases q:i<(postsM ss).length
  ·rw [List.getElem?_range q]
   show _=some ((postsM ss).getD i ("", ""))
   rw [List.getD_eq_getElem?_getD,qGg q]; rfl
  ·rw [List.getElem?_eq_none (Nat.le_of_not_lt q),List.getElem?_eq_none (by rw [List.length_range]; exact Nat.le_of_not_lt q)]; rfl
 have inj:∀ x y,x<(postsM ss).length→y<(postsM ss).length→(postsM ss).getD x ("", "")=(postsM ss).getD y ("", "")→x=y:=fun x y hx hy e=>by
  rw [List.getD_eq_getElem?_getD,List.getD_eq_getElem?_getD,qGg hx,qGg hy] at e
  exact (List.getElem?_inj hx hn).mp (by rw [qGg hx,qGg hy]; exact congrArg some e)
 generalize hL:postsM ss=L at *
 rw [et]
 refine (congrArg (List.filter _) el).trans ?_
 rw [List.filter_map]
 congr 1
 refine List.filter_congr fun x hx=>?_
 have hx:=List.mem_range.mp hx
 rw [Function.comp_apply]
 refine decide_eq_decide.mpr ⟨fun q=>?_,fun q=>List.mem_map.mpr ⟨x,List.mem_filter.mpr ⟨List.mem_range.mpr hx,decide_eq_true q⟩,rfl⟩⟩
 refine x1_2 (qMm q) fun y hy e=>?_
 obtain ⟨h1,h2⟩:=List.mem_filter.mp hy
 rw [← inj y x (List.mem_range.mp h1) hx e]
 exact of_decide_eq_true h2
end
section
variable {R:Nat→Bool→FT} {k:Nat} {H:AH} {ss:List Sm} {qs:List (Option Nat×Pm)} {pA sA rA:AV} {PG:OutS→Prop} {h:Str→List Nat} {M:List Nat}
theorem Zkn (F:Folk H H.length qs) (S:ShOK ss):Ease (qs.map (·.2)) ss (qs.map (·.2)) ss:=by
 refine ⟨⟨[],(List.append_nil _).symm⟩,by rw [ZaS]; exact F.nodup,fun p hp=>⟨p,hp,rfl,Int.le_refl _,fun _ _ q=>q⟩,fun p hp=>?_,⟨[],(List.append_nil _).symm⟩,ZcF S.sn fun s hs=>(S.ok s hs).needs.nodup,fun e he=>(S.cnt e he).1⟩
 refine x1_2 (qMm hp) fun q hq e=>?_
 rw [← e]
 exact Int.le_trans (by decide) (F.ok q hq).limit.1
theorem Zkw (W:Law10 R) (F:Folk H H.length qs) (hp:IsL H.length H pA (qs.map pv)) (hs:IsL H.length H sA (ss.map SV)) (S:ShOK ss) (Sh:Short (qs.map (·.2)) ss M h) (hl:(toldS ss M).length≤60) (ht:∀ z,z∈toldS ss M↔∃ x∈M,(postsM ss)[x]?=some z) (hr:IsL H.length H rA ((toldS ss M).map postAV)) (hi:isiAny H rA [.lst]=some true) :
  ∃ H',R (k+6) false 52 [rA,pA,sA] H=.ok (.bool true) H'∧Up H.length H H':=by
 rw [W.l_is_short _ _ _ _ rfl]
 suffices key:∀ PG:OutS→Prop,(∀ H',Up H.length H H'→PG (.ret (.bool true) H'))→PG (Zbm (R (k+5)) false (rho0 [rA,pA,sA] 3) H) from key (fun o=>∃ H',o.done=.ok (.bool true) H'∧Up H.length H H') fun H' u=>⟨H',rfl,u⟩
 intro PG fin
 have hpl:(postsM ss).length≤600:=by rw [ZaT,qLm]; exact le_t S.tot rfl
 have hf:=Zhl (ss:=ss) (ZcF S.sn fun s hs=>(S.ok s hs).needs.nodup) Sh.nd fun y hy=>by rw [ZaT,qLm]; exact Sh.lt y hy
 have hlt:=(Zkn F S).room Sh ht
 generalize toldS ss M=L at *
 refine ZaK (H₁:=H) (ZcW (c:=false) (H₁:=H) (e_nt (x:=true) (Zim rfl hi)) (Zai (a:=.lst []) (Zbq (l:=L) (fx:=postAV) (fy:=postAV) (p:=fun _=>false) rfl hr (le_t hl rfl) (fun y _=>e_nt (x:=true) (Zim (Zag rfl) rfl)) (fun y _ q=>nomatch q) (by rw [Zef]; rfl)) rfl rfl)) ?_
 refine ZaK (H₁:=H) (Zai rfl (Zbq (l:=postsM ss) (fx:=postAV) (fy:=postAV) (p:=fun z=>decide (z∈L)) (Zac (Zaa rfl) (ZeW (k:=k+4) W hs hpl)) (.inl rfl) (le_t hpl rfl) (fun y _=>Zai (Zag rfl) (Zak rfl) (Zfq hr.nd hr.ls)) (fun y _ _=>Zag rfl) rfl) (Zb6 (M:=0) (Zb4 fun _=>Zeo) hr (.inl (by rw [hf])))) ?_
 refine x1_2 (ZjU (k:=k+2) W F hp hs (fun s hs=>(S.ok s hs).hours) hr (le_t S.tot rfl)) fun H2 run u=>?_
 exact ZaZ (a:=.bool true) (Zai (Zac (ZaE rfl rfl rfl) run) (Zac (ZaI rfl rfl) (Zg4 (k:=k+4) W (hs.up u) (hr.up u) S.few)) (ZgJ.trans (by rw [decide_eq_true hlt]))) (fin _ u)
end
section
variable {R:Nat→Bool→FT} {k:Nat} {H H':AH} {N b:Nat} {ps:List Pm} {ss:List Sm} {qs:List (Option Nat×Pm)} {pA sA a:AV} {PG:OutS→Prop} {ys:List AV} {mt:Bool}
theorem IsL.list (h:IsL N H a ys) (hl:ys.length≤1000):biA false (.list mt) [a] H=newL mt ys H:=by
 have hs:1000≤sizeLine:=by decide
 show (match dcOf H a with | some (_,es)=>_ | none=>orBad (lsOf H a) _)=_
 rw [h.nd,h.ls]
 exact if_pos (le_t ‹_› rfl)
theorem skills_of (W:Law10 R) (B:BookOf N H b ps ss) (hn:(ps.map (·.name)).Nodup) {p:Pm} (hp:p∈ps) (hl:p.skills.length≤1000):R (k+2) false 21 [.ref b,.str p.name] H=.ok (.lst (p.skills.map .str)) H:=by
 rw [W.skills_of _ _ _ _ rfl]
 refine x4_4 (B.ex) fun fd wd prs srs A e5' e6' hN=>?_; subst e5'; subst e6'
 refine x1_2 (qMm hp) fun q hq e2'=>?_; subst e2'
 have Z:=A.pat q hq
 suffices z:ZaP (R (k+1)) false (rho0 [.ref b,.str q.2.name] 2) H=.ret (.lst (q.2.skills.map .str)) H by rw [z]; rfl
 exact Zbh (e_bi (Zaa (Zas (e_mo rfl A.book (i:=16) rfl (Zaa rfl) (Za8 W.bk A (by simpa [Function.comp_def] using hn) hq)) Z.ob rfl)) (IsL.list (N:=H.length) (.inr ⟨_,rfl,(gsi Z.sk).1,Z.sk⟩) (by rw [qLm]; exact hl)))
theorem rests_of (W:Law10 R) (B:BookOf N H b ps ss) (hn:(ps.map (·.name)).Nodup) {p:Pm} (hp:p∈ps) (hl:p.rests.length≤1000):R (k+2) false 22 [.ref b,.str p.name] H=.ok (.lst (p.rests.map stAV)) H:=by
 rw [W.rests_of _ _ _ _ rfl]
 refine x4_4 (B.ex) fun fd wd prs srs A e5' e6' hN=>?_; subst e5'; subst e6'
 refine x1_2 (qMm hp) fun q hq e2'=>?_; subst e2'
 have Z:=A.pat q hq
 suffices z:ZaW (R (k+1)) false (rho0 [.ref b,.str q.2.name] 2) H=.ret (.lst (q.2.rests.map stAV)) H by rw [z]; rfl
 exact Zbh (e_bi (Zaa (Zas (e_mo rfl A.book (i:=16) rfl (Zaa rfl) (Za8 W.bk A (by simpa [Function.comp_def] using hn) hq)) Z.ob rfl)) (IsL.list (N:=H.length) (.inr ⟨_,rfl,(gsi Z.aw).1,Z.aw⟩) (by rw [qLm]; exact hl)))
theorem Zk3 {i:Int}:cmpA H .NotEq (.int i) (.int i)=some false:=by
 show some (!(i == i))=_
 simp
theorem ZmY (F:Folk H' N qs) (S:ShOK ss):Good (qs.map (·.2)) ss:=by
 refine ⟨by rw [ZaS]; exact F.nodup,S.sn,S.few,fun s hs=>(S.ok s hs).needs.nodup,by rw [qLm]; exact F.few,le_t S.sf rfl,fun p hp=>?_⟩
 refine x1_2 (qMm hp) fun q hq e=>?_
 rw [← e]
 exact le_t (F.ok q hq).few rfl
theorem ZkF (W:Law10 R) (F:Folk H H.length qs) (hp:IsL H.length H pA (qs.map pv)) (hs:IsL H.length H sA (ss.map SV)) (S:ShOK ss) (B:BookOf N H b (qs.map (·.2)) ss):∃ H',R (k+3) false 53 [.ref b,pA,sA] H=.ok (.bool true) H'∧Up H.length H H':=by
 rw [W.l_stays _ _ _ _ rfl]
 suffices key:∀ PG:OutS→Prop,(∀ H',Up H.length H H'→PG (.ret (.bool true) H'))→PG (Zcw (R (k+2)) false (rho0 [.ref b,pA,sA] 5) H) from key (fun o=>∃ H',o.done=.ok (.bool true) H'∧Up H.length H H') fun H' u=>⟨H',rfl,u⟩
 intro PG fin
 have G:=ZmY F S
 have hpl:(postsM ss).length≤600:=by rw [ZaT,qLm]; exact le_t S.tot rfl
 have hqf:=F.few
 obtain ⟨fs,hb⟩:=B.at
 have u:Up H.length H (H++[.lst ((postsM ss).map postAV)]):=Up.app
 have hb1:=u.get hb
 have fin:=fin _ u
 have B1:=B.up u
 have F1:=F.up u
 have hp1:=hp.up u
 have hs1:=hs.up u
 refine ZaK (H₁:=H++[.lst ((postsM ss).map postAV)]) (ZcW (c:=false) (H₁:=H) (Zai (e_mo rfl hb (i:=18) rfl Zek (Zc9 (k:=k+1) W.rd B)) (Zea (l:=qs) (fx:=pv) (fy:=fun q=>.str q.2.name) rfl hp (le_t hqf rfl) (fun y _=>Zab (Zag rfl) rfl rfl) rfl) (Zb6 (N:=0) (M:=0) (l:=qs.map fun q=>.str q.2.name) (Zb4 fun _=>Zmq) (.inl (by rw [List.map_map]; rfl)) (.inl rfl)))
  (Zai (e_mo rfl hb (i:=20) rfl Zek (Zh0 (k:=k+1) W.rd B G)) (Zac (Zaa rfl) (ZeW (k:=k+1) W hs1 hpl)) (Zb6 (N:=H.length+1) (M:=0) (Zb4 fun _=>Zeo) (.inr ⟨_,rfl,Nat.lt_succ_self _,Zaj⟩) (.inl rfl)))) ?_
 have hlen:H.length≤(H++[AO.lst ((postsM ss).map postAV)]).length:=u.1
 clear u hb B F hp hs
 generalize H++[.lst ((postsM ss).map postAV)]=H1 at *
 refine Zbk (N:=H.length) (a:=pA) (H₁:=H1) (xs:=qs.map pv) rfl hp1
  (fun j ρ H'=>A2 (H'=H1) (Ex2 fun a3 a4=>ρ=[some (.ref b),some pA,some sA,a3,a4])) ⟨rfl,_,_,rfl⟩ (fun j ρ H' h=>by rw [h.1]; exact Up.refl) ?_ ?_
 ·rintro J j v ρ H' hv ⟨rfl,a3,a4,rfl⟩ hJ
  rw [qGm] at hv
  refine x1_2 (oms hv) fun q hj e2'=>?_; subst e2'
  have hq:=qMo hj
  have ok:=F1.ok q hq
  have hm:q.2∈qs.map (·.2):=List.mem_map_of_mem hq
  obtain ⟨a,ea,ha⟩:=ZdR (F1.rs q hq)
  rw [ea]
  show Nx _ _ ((_:DS) [some (.ref b),some pA,some sA,some (.tup [.str q.2.name,.lst (q.2.skills.map .str),.int q.2.limit,a]),a4] H')
  refine ZaK (H₁:=H') (ZcW (c:=false) (H₁:=H') (Zai (e_mo rfl hb1 (i:=21) rfl (Zaa (Zab rfl rfl rfl)) (skills_of (k:=k) W B1 G.pn hm ok.skills.few)) (Zab rfl rfl rfl) (Zb6 (N:=0) (M:=0) (Zb4 fun _=>Zmq) (.inl rfl) (.inl rfl)))
   (Zai (e_mo rfl hb1 (i:=22) rfl (Zaa (Zab rfl rfl rfl)) (rests_of (k:=k) W B1 G.pn hm (le_t ok.few rfl))) (Zab rfl rfl rfl) (Zb6 (N:=0) (Zb4 fun _=>Zo2) (.inl rfl) ha))) ?_
  exact ZaK (H₁:=H') (Zai (e_mo rfl hb1 (i:=23) rfl (Zaa (Zab rfl rfl rfl)) (limit_of (k:=k) W.bk W.rd B1 G.pn hm)) (Zab rfl rfl rfl) Zk3) (Zam (hJ _ _ ⟨rfl,_,_,rfl⟩))
 ·rintro ρ H' ⟨rfl,a3,a4,rfl⟩
  refine Zbk (N:=H.length) (a:=sA) (H₁:=H') (xs:=ss.map SV) rfl hs1
   (fun j ρ H''=>A2 (H''=H') (∃ a4,ρ=[some (.ref b),some pA,some sA,a3,a4])) ⟨rfl,_,rfl⟩ (fun j ρ H' h=>by rw [h.1]; exact Up.refl) ?_ ?_
  ·rintro J j v ρ H'' hv ⟨rfl,a4,rfl⟩ hJ
   rw [qGm] at hv
   refine x1_2 (oms hv) fun s hj e2'=>?_; subst e2'
   have hsm:=qMo hj
   have hnf:=S.few s hsm
   show Nx _ _ ((_:DS) [some (.ref b),some pA,some sA,a3,some (SV s)] H'')
   exact ZaK (H₁:=H'') (Zai (Zea (l:=s.needs) (fx:=needAV) (fy:=fun n=>.int n.2) (Zab rfl rfl rfl) (.inl rfl) (le_t hnf rfl) (fun n hn=>e_mo (Zak rfl) hb1 (i:=25) rfl (ZaI (Zab (Zak rfl) rfl rfl) (Zab (Zag rfl) rfl rfl)) (count_of (k:=k) W.bk W.rd B1 G hsm hn)) rfl) (Zea (l:=s.needs) (fx:=needAV) (fy:=fun n=>.int n.2) (Zab rfl rfl rfl) (.inl rfl) (le_t hnf rfl) (fun n _=>Zab (Zag rfl) rfl rfl) rfl) (Zb6 (N:=0) (M:=0) (Zb4 fun _=>ZoC) (.inl rfl) (.inl rfl))) (Zam (hJ _ _ ⟨rfl,_,rfl⟩))
  ·rintro ρ H'' ⟨rfl,a4,rfl⟩
   exact ZaZ rfl fin
end
noncomputable def pick {α:Type} (f:Bool) (l:List α):List α:=if f then l else l.dropLast
theorem ZdQ {α:Type} (f:Bool) (l:List α):∃ rest,l=pick f l++rest:=by
 cases f with
 | true=>exact ⟨[],(List.append_nil _).symm⟩
 | false=>exact ⟨l.drop (l.length-1),by show l=l.dropLast++_; rw [List.dropLast_eq_take,List.take_append_drop]⟩
noncomputable def lastS {α:Type} (s:Bool) (l:List α):List α:=if s then l.drop (l.length-1) else []
theorem ZhY {α:Type} {l:List α} {g s:Bool} (h:s=true→g=false):pick g l++lastS s l=pick (g || s) l:=by
 cases s with
 | false=>rw [Bool.or_false]; exact List.append_nil _
 | true =>
  rw [h rfl]
  show l.dropLast++l.drop (l.length-1)=l
  rw [List.dropLast_eq_take,List.take_append_drop]
section
variable {R:Nat→Bool→FT} {k:Nat} {H H':AH} {N b a bb:Nat} {ps:List Pm} {ss s0 T:List Sm} {qs q0 TP:List (Option Nat×Pm)} {aA:AV} {PG:OutS→Prop} {ys:List AV} {x0 x1 x3 x4 a5 a6 a7 a8 a9:Option AV} {r:List DS} {it:DE}
theorem Zh5 {lo hi:AV} {l u:Option Int} (h:IsL N H aA ys) (h1:optI lo=some l) (h2:optI hi=some u) (hl:ys.length≤1000):slcA false aA lo hi .none H=.ok (.lst (cut ys l u)) H:=by
 have hs:1000≤sizeLine:=by decide
 unfold slcA
 rw [h1,h2]
 have q:(if ys.length≤sizeLine then newL false (cut ys l u) H else .bad)=Out.ok (AV.lst (cut ys l u)) H:=by
  rw [if_pos (le_t ‹_› rfl)]; rfl
 rcases h with rfl | ⟨r,rfl,hr,h⟩
 ·exact q
 ·show orBad (lsOf H (.ref r)) _=_
  rw [Zdw h]
  exact q
theorem Zi3 {n d:Nat}:clip (some (-1)) n d=n-1:=by
 unfold clip
 simp only []
 rw [if_pos (by decide),Zmm]
 split
 ·lia
 ·rfl
theorem IsL.cut_m1 (h:IsL N H aA ys) (hl:ys.length≤1000):slcA false aA .none (.int (-1)) .none H=.ok (.lst ys.dropLast) H:=by
 rw [Zh5 h (l:=none) (u:=some (-1)) rfl rfl hl]
 congr 2
 unfold cut
 rw [Zi3]
 show (ys.drop 0).take (ys.length-1-0)=_
 rw [List.drop_zero,Nat.sub_zero,List.dropLast_eq_take]
theorem IsL.cut_last (h:IsL N H aA ys) (hl:ys.length≤1000):slcA false aA (.int (-1)) .none .none H=.ok (.lst (ys.drop (ys.length-1))) H:=by
 rw [Zh5 h (l:=some (-1)) (u:=none) rfl rfl hl]
 congr 2
 unfold cut
 rw [Zi3]
 exact List.take_of_length_le (by rw [List.length_drop]; exact Nat.le_refl _)
theorem ZhQ {α:Type} {fx:α→AV} {l:List α} {u:Int} {s:Bool} (hu:u=if s then 1 else 0) (hl:l.length≤1000):slcA false (.lst ((l.map fx).drop ((l.map fx).length-1))) .none (.int u) .none H=.ok (.lst ((lastS s l).map fx)) H:=by
 rw [qLm,← List.map_drop]
 have hd:(l.drop (l.length-1)).length≤1:=by
  rw [List.length_drop]
  cases l.length with
  | zero=>exact Nat.zero_le _
  | succ n=>rw [Nat.add_sub_cancel,Nat.add_sub_cancel_left]; exact Nat.le_refl 1
 have hl':((l.drop (l.length-1)).map fx).length≤1000:=by rw [qLm]; exact le_t hd rfl
 cases s with
 | false =>
  subst hu
  exact Zh5 (N:=0) (.inl rfl) (lo:=.none) (hi:=.int 0) (l:=none) (u:=some 0) rfl rfl hl' |>.trans (by
   congr 2
   unfold cut
   rw [show clip (some 0) ((l.drop (l.length-1)).map fx).length _=0 from ?_]
   ·exact List.take_zero
   ·show (if (0:Int)<_ then 0 else _)=0
    split
    ·rfl
    ·rename_i q; exact Nat.le_zero.mp (Int.ofNat_le.mp (Int.not_lt.mp q)))
 | true =>
  subst hu
  exact Zh5 (N:=0) (.inl rfl) (lo:=.none) (hi:=.int 1) (l:=none) (u:=some 1) rfl rfl hl' |>.trans (by
   congr 2
   unfold cut
   show ((((l.drop (l.length-1)).map fx).drop 0).take ((if (1:Int)<((l.drop (l.length-1)).map fx).length then 1 else ((l.drop (l.length-1)).map fx).length)-0))=_
   rw [if_neg (by rw [qLm]; exact Int.not_lt.mpr (Int.ofNat_le.mpr hd)),List.drop_zero,Nat.sub_zero,List.take_length]; rfl)
theorem Zmx (W:Law10 R) (B:BookOf N H b ps s0) (S:ShOK (s0++T)) (hpf:ps.length≤100) (hit:it [x0,x1,some (.ref b),x3,x4,a5,a6,a7,a8,a9] H=.ok (.lst (T.map SV)) H)
  (fin:∀ H' a5,BookOf N H' b ps (s0++T)→Up N H H'→PG (seqS r [x0,x1,some (.ref b),x3,x4,a5,a6,a7,a8,a9] H')):PG (seqS (forS false (.one 5) it (Zdj (R (k+4)) false)::r) [x0,x1,some (.ref b),x3,x4,a5,a6,a7,a8,a9] H):=by
 refine Zbk (N:=N) (a:=.lst (T.map SV)) (H₁:=H) (xs:=T.map SV) hit (.inl rfl)
  (fun j ρ H'=>A3 (BookOf N H' b ps (s0++T.take j)) (Up N H H') (∃ a5,ρ=[x0,x1,some (.ref b),x3,x4,a5,a6,a7,a8,a9])) ⟨by rw [List.take_zero,List.append_nil]; exact B,Up.refl,_,rfl⟩ (fun j ρ H' h=>h.2) ?_ ?_
 ·rintro J j v ρ H' hv hI hJ
  obtain ⟨B1,u1,a5,rfl⟩:=hI
  rw [qGm] at hv
  refine x1_2 (oms hv) fun s hj e2'=>?_; subst e2'
  have hjl:=(gsi hj).1
  have ok:=S.ok s (List.mem_append_right _ (qMo hj))
  have e:(s0++T).take (s0.length+j)=s0++T.take j:=by rw [List.take_append,List.take_of_length_le (Nat.le_add_right _ _),Nat.add_sub_cancel_left]
  have hnot:s.name∉(s0++T.take j).map (·.name):=by
   rw [← e,List.map_take]
   exact Za7 S.sn (by rw [qGm,List.getElem?_append_right (Nat.le_add_right _ _),Nat.add_sub_cancel_left,hj]; rfl)
  have hsf:=S.sf
  rw [qLa] at hsf
  show Nx _ _ ((_:DS) [x0,x1,some (.ref b),x3,x4,some (SV s),a6,a7,a8,a9] H')
  obtain ⟨fs,hb⟩:=B1.at
  refine x1_3 (Zdz (k:=k+1) W.bk B1 ok.name ok.hours ok.day ok.needs hnot (by rw [qLa,qLt]; lia)) fun H2 run B2 u2=>?_
  refine ZaA (e_mo rfl hb (i:=15) rfl (ZaE (Zab rfl rfl rfl) (Zab rfl rfl rfl) (e_bi (Zaa (Zab rfl rfl rfl)) (Zfx (by rw [qLm]; exact ok.needs.few)))) run) (Zam (hJ _ _ ⟨?_,u1.trans u2,_,rfl⟩))
  rw [List.take_add_one,hj,← qAa]
  exact B2
 ·rintro ρ H' ⟨B1,u1,a5,rfl⟩
  rw [qLm,List.take_length] at B1
  exact fin H' a5 B1 u1
theorem Zmw (W:Law10 R) (F:Folk H N (q0++TP)) (B:BookOf N H b (q0.map (·.2)) ss) (S:ShOK ss) (hit:it [x0,x1,some (.ref b),x3,x4,a5,a6,a7,a8,a9] H=.ok (.lst (TP.map pv)) H)
  (fin:∀ H' a6,BookOf N H' b ((q0++TP).map (·.2)) ss→Up N H H'→PG (seqS r [x0,x1,some (.ref b),x3,x4,a5,a6,a7,a8,a9] H')):PG (seqS (forS false (.one 6) it (Zdi (R (k+5)) false)::r) [x0,x1,some (.ref b),x3,x4,a5,a6,a7,a8,a9] H):=by
 have hsf:=S.sf
 have hqf:=F.few
 rw [qLa] at hqf
 refine Zbk (N:=N) (a:=.lst (TP.map pv)) (H₁:=H) (xs:=TP.map pv) hit (.inl rfl)
  (fun j ρ H'=>A3 (BookOf N H' b ((q0++TP.take j).map (·.2)) ss) (Up N H H') (∃ a6,ρ=[x0,x1,some (.ref b),x3,x4,a5,a6,a7,a8,a9])) ⟨by rw [List.take_zero,List.append_nil]; exact B,Up.refl,_,rfl⟩ (fun j ρ H' h=>h.2) ?_ ?_
 ·rintro J j v ρ H' hv hI hJ
  obtain ⟨B1,u1,a6,rfl⟩:=hI
  rw [qGm] at hv
  refine x1_2 (oms hv) fun q hj e2'=>?_; subst e2'
  have hjl:=(gsi hj).1
  have hqm:q∈q0++TP:=List.mem_append_right _ (qMo hj)
  have ok:=F.ok q hqm
  have e:(q0++TP).take (q0.length+j)=q0++TP.take j:=by rw [List.take_append,List.take_of_length_le (Nat.le_add_right _ _),Nat.add_sub_cancel_left]
  have hk:(q0++TP)[q0.length+j]?=some q:=by rw [List.getElem?_append_right (Nat.le_add_right _ _),Nat.add_sub_cancel_left,hj]
  have e1:q0++TP.take (j+1)=(q0++TP.take j)++[q]:=by rw [List.take_add_one,hj,qAa]; rfl
  have nd1:((q0++TP.take (j+1)).map (·.2.name)).Nodup:=by
   refine List.Nodup.sublist (List.Sublist.map _ ?_) F.nodup
   exact List.Sublist.append_left (List.take_sublist _ _) _
  have hl1:(q0++TP.take j).length≤99:=by rw [qLa,qLt]; lia
  have pm1:∀ p∈(q0++TP.take j).map (·.2),PmOK p:=fun p hp=>by
   refine x1_2 (qMm hp) fun q' hq' e=>?_
   rw [← e]
   refine F.ok q' ((List.Sublist.append_left (List.take_sublist _ _) _).subset hq')
  rw [e1] at hJ nd1
  generalize hQ:q0++TP.take j=Q at B1 hJ nd1 hl1 pm1
  rw [qMa,List.nodup_append] at nd1
  have hn:q.2.name∉(Q.map (·.2)).map (·.name):=by
   rw [ZaS]
   exact fun h=>nd1.2.2 _ h _ (.head _) rfl
  have nd2:((Q.map (·.2)++[bare q.2]).map (·.name)).Nodup:=by
   rw [qMa,ZaS,List.nodup_append]
   exact nd1
  show Nx _ _ ((_:DS) [x0,x1,some (.ref b),x3,x4,a5,some (pv q),a7,a8,a9] H')
  obtain ⟨fs,hb⟩:=B1.at
  refine x1_3 (ZcL (k:=k+2) W.bk B1 ok.name ok.skills ok.limit hn (by rw [qLm]; lia)) fun H2 run2 B2 u2=>?_
  refine ZaA (e_mo rfl hb (i:=13) rfl (ZaE (Zab rfl rfl rfl) (e_bi (Zaa (Zab rfl rfl rfl)) (Zfx (by rw [qLm]; exact ok.skills.few))) (Zab rfl rfl rfl)) run2) ?_
  refine x2_3 (Zfg (k:=k) W (ps:=Q.map (·.2)++[bare q.2]) (fun p hp=>?_) nd2 (by rw [qLa,qLm]; exact Nat.succ_le_succ hl1) S B2) fun v H3 run3 u3 _=>?_
  ·rcases qMp hp with hp | hp
   ·exact pm1 p hp
   ·rw [qMs hp]
    exact ⟨ok.name,ok.skills,ok.limit,fun _ h=>absurd h List.not_mem_nil,Nat.zero_le _⟩
  refine ZaA (Zac (Zaa rfl) run3) ?_
  have uu:Up N H H3:=(u1.trans u2).trans (u3.mono B2.le)
  refine x1_3 (Zdd (k:=k+1) (q:=q) (i:=Q.length) W.bk W.pt (B2.up u3) nd2 (by rw [List.getElem?_append_right (by simp)]; simp; rfl) ok ((F.up uu).rs q hqm)) fun H4 run4 B4 u4=>?_
  refine ZaA (Zac (ZaI rfl rfl) run4) (Zam (hJ _ _ ⟨?_,uu.trans u4,_,rfl⟩))
  have e2:(Q.map (·.2)++[(⟨q.2.name,q.2.skills,q.2.limit,[]⟩:Pm)]).set Q.length q.2=(Q++[q]).map (·.2):=by
   rw [qMa,List.set_append_right _ _ (by simp)]; simp
  rw [e2] at B4
  exact B4
 ·rintro ρ H' ⟨B1,u1,a6,rfl⟩
  rw [qLm,List.take_length] at B1
  exact fin H' a6 B1 u1
end
structure Sd10 (N:Nat) (H:AH) (a bb:Nat) (qs:List (Option Nat×Pm)) (ss:List Sm):Prop where
 fk:Folk H N qs
 ia:IsL N H (.ref a) (qs.map pv)
 ib:IsL N H (.ref bb) (ss.map SV)
noncomputable def fF (p:Bool):Nat→Bool
 | 0=>false
 | 1=>!p
 | _=>true
noncomputable def gG (p:Bool):Nat→Bool
 | 0=>false
 | 1=>p
 | _=>true
section
variable {R:Nat→Bool→FT} {k:Nat} {H H':AH} {N b a bb:Nat} {ps:List Pm} {ss:List Sm} {qs:List (Option Nat×Pm)} {PG:OutS→Prop} {x0 x3 x4 a5 a6 a7 a8 a9:Option AV} {r:List DS} {L t:Int} {f g:Bool}
theorem Sd10.up (Z:Sd10 N H a bb qs ss) (u:Up N H H'):Sd10 N H' a bb qs ss:=⟨Z.fk.up u,Z.ia.up u,Z.ib.up u⟩
theorem Sd10.mono (Z:Sd10 N H a bb qs ss) {N':Nat} (u:N≤N'):Sd10 N' H a bb qs ss:=⟨Z.fk.mono u,Z.ia.mono u,Z.ib.mono u⟩
theorem Folk.pre (F:Folk H N qs) {l rest:List (Option Nat×Pm)} (e:qs=l++rest):Folk H N l:=by
 have s:l.Sublist qs:=e▸List.sublist_append_left _ _
 exact ⟨fun q hq=>F.ok q (s.subset hq),fun q hq=>F.rs q (s.subset hq),List.Nodup.sublist (s.map _) F.nodup,Nat.le_trans s.length_le F.few⟩
theorem par {i:Int} {s:Bool} (h:i%2=if s then 1 else 0):(i+1)%2=if !s then 1 else 0:=by
 rw [Int.add_emod,h]
 cases s<;>rfl
theorem ZoA (i:Int):∃ s:Bool,i%2=if s then 1 else 0:=by
 rcases Int.emod_two_eq i with h | h
 ·exact ⟨false,h⟩
 ·exact ⟨true,h⟩
theorem Zmv (W:Law10 R) (S:ShOK ss) (Z:Sd10 N H a bb qs ss) (B:BookOf N H b ((pick f qs).map (·.2)) (pick g ss)) {s:Bool} (hs:(L+t)%2=if s then 1 else 0) (hS:s=true→g=false) (hP:(!s)=true→f=false)
  (fin:∀ H' a5 a6,BookOf N H' b ((pick (f || !s) qs).map (·.2)) (pick (g || s) ss)→Up N H H'→PG (seqS [] [x0,some (.tup [.ref a,.ref bb]),some (.ref b),some (.int L),some (.int t),a5,a6,a7,a8,a9] H')) :
  PG (Zdk (R (k+6)) false [x0,some (.tup [.ref a,.ref bb]),some (.ref b),some (.int L),some (.int t),a5,a6,a7,a8,a9] H):=by
 have hsf:=S.sf
 have hqf:=Z.fk.few
 have shp:∀ g,ShOK (pick g ss):=fun g=>by
  obtain ⟨rest,e⟩:=ZdQ g ss
  exact S.pre e
 have fkp:∀ {H'} f,Folk H' N qs→Folk H' N (pick f qs):=fun f F=>by
  obtain ⟨rest,e⟩:=ZdQ f qs
  exact F.pre e
 have rest:∀ H',Up N H H'→BookOf N H' b ((pick f qs).map (·.2)) (pick g ss)→PG (seqS [forS false (.one 5) (slcE false (slcE false (subE (varE 1) (cstE (.int 1))) (negE (cstE (.int 1))) (cstE .none) (cstE .none)) (cstE .none) (binE false .Mod (binE false .Add (varE 3) (varE 4)) (cstE (.int 2))) (cstE .none)) (Zdj (R (k+6)) false),forS false (.one 6) (slcE false (slcE false (subE (varE 1) (cstE (.int 0))) (negE (cstE (.int 1))) (cstE .none) (cstE .none)) (cstE .none) (binE false .Mod (binE false .Add (binE false .Add (varE 3) (varE 4)) (cstE (.int 1))) (cstE (.int 2))) (cstE .none)) (Zdi (R (k+6)) false)] [x0,some (.tup [.ref a,.ref bb]),some (.ref b),some (.int L),some (.int t),a5,a6,a7,a8,a9] H'):=fun H1 u1 B1=>by
  have e1:=ZhY (l:=ss) hS
  have e2:=ZhY (l:=qs) hP
  have Z1:=Z.up u1
  refine Zmx (k:=k+2) (s0:=pick g ss) (T:=lastS s ss) W B1 (by rw [e1]; exact shp _) (by rw [qLm]; exact (fkp f Z1.fk).few) (Zec (Zec (Zab rfl rfl rfl) (Zjk rfl) rfl rfl (Z1.ib.cut_last (by rw [qLm]; exact le_t hsf rfl))) rfl (Zay (Zay rfl rfl addI) rfl (ZlB rfl rfl)) rfl (ZhQ hs (le_t hsf rfl))) fun H2 a5' B2 u2=>?_
  rw [e1] at B2
  have Z2:=Z1.up u2
  refine Zmw (k:=k+1) (q0:=pick f qs) (TP:=lastS (!s) qs) W (by rw [e2]; exact fkp _ Z2.fk) B2 (shp _) (Zec (Zec (Zab rfl rfl rfl) (Zjk rfl) rfl rfl (Z2.ia.cut_last (by rw [qLm]; exact le_t hqf rfl))) rfl (Zay (Zay (Zay rfl rfl addI) rfl addI) rfl (ZlB rfl rfl)) rfl (ZhQ (par hs) (le_t hqf rfl))) fun H3 a6' B3 u3=>?_
  rw [e2] at B3
  exact fin H3 a5' a6' B3 ((u1.trans u2).trans u3)
 refine p_if (x:=!decide (L / 2%4=t)) (H₁:=H) (Zai (Zay (Zay rfl rfl (Zla rfl rfl)) rfl (ZlB rfl rfl)) rfl Zi4) (fun _=>?_) fun _=>ZdH (rest H Up.refl B)
 refine x2_3 (ZgP (k:=k+1) W (fkp f Z.fk) (shp g) B) fun v H1 run u _=>?_
 exact ZaA (P:=Th _ _) (Zac (Zaa rfl) run) (ZdH (rest H1 (u.mono B.le) (B.up u)))
theorem ZnY (W:Law10 R) (S:ShOK ss) (Z:Sd10 N H a bb qs ss) (B:BookOf N H b (qs.dropLast.map (·.2)) ss.dropLast)
  (fin:∀ H' a4 a5 a6,BookOf N H' b (qs.map (·.2)) ss→Up N H H'→PG (seqS r [x0,some (.tup [.ref a,.ref bb]),some (.ref b),some (.int L),a4,a5,a6,a7,a8,a9] H')) :
  PG (seqS (forS false (.one 4) (biE false .range [(cstE (.int 2))]) (Zdk (R (k+6)) false)::r) [x0,some (.tup [.ref a,.ref bb]),some (.ref b),some (.int L),x4,a5,a6,a7,a8,a9] H):=by
 obtain ⟨p,hp⟩:=ZoA L
 refine Zbt (a:=.rng 0 2) (H₁:=H) (xs:=span 0 2) rfl rfl rfl
  (fun j ρ H'=>Ex3 fun a4 a5 a6=>A3 (BookOf N H' b ((pick (fF p j) qs).map (·.2)) (pick (gG p j) ss)) (Up N H H') (ρ=[x0,some (.tup [.ref a,.ref bb]),some (.ref b),some (.int L),a4,a5,a6,a7,a8,a9])) ⟨_,_,_,B,Up.refl,rfl⟩ ?_ ?_
 ·rintro J j v ρ H' hv ⟨a4,a5,a6,B1,u1,rfl⟩ hJ
  obtain ⟨hd,X,hX,rfl⟩:=Zbl (n:=2) hv
  show Nx _ _ ((_:DS) [x0,some (.tup [.ref a,.ref bb]),some (.ref b),some (.int L),some (.int X),a5,a6,a7,a8,a9] H')
  subst hX
  cases j with
  | zero=>exact Zmv (k:=k) (s:=p) W S (Z.up u1) B1 (by rw [show L+((0:Nat):Int)=L from Int.add_zero L]; exact hp) (fun _=>rfl) (fun _=>rfl) fun H2 a5' a6' B2 u2=>Zam (hJ _ _ ⟨_,_,_,B2,u1.trans u2,rfl⟩)
  | succ j =>
   obtain rfl:j=0:=by lia
   refine Zmv (k:=k) (s:=!p) W S (Z.up u1) B1 (par hp) (fun q=>?_) (fun q=>?_) fun H2 a5' a6' B2 u2=>Zam (hJ _ _ ⟨_,_,_,?_,u1.trans u2,rfl⟩)
   ·exact (Bool.not_eq_true' p).mp q
   ·show (!p)=false
    exact (Bool.not_eq_true' _).mp q
   ·have e1:(fF p 1 || !!p)=true:=by cases p<;>rfl
    have e2:(gG p 1 || !p)=true:=by cases p<;>rfl
    rw [e1,e2] at B2
    exact B2
 ·rintro ρ H' ⟨a4,a5,a6,B1,u1,rfl⟩
  exact fin H' a4 a5 a6 B1 u1
end
noncomputable def Zoj (Φ:Bool→FT) (hot:Bool):List DS:=[assignS hot (.one 9) (biE hot (.list false) [(subE (varE 8) (cstE (.int 1)))]),exprS (mbE .clear (subE (varE 7) (cstE (.int 1))) []),ifS (bopE false [(cmpE (subE (varE 8) (cstE (.int 0))) [.NotEq] [(subE (varE 7) (cstE (.int 0)))]),(cmpE (subE (varE 8) (cstE (.int 1))) [.NotEq] [(varE 9)])]) (seqS [retS (cstE (.bool false))]) (seqS [])]
noncomputable def Zoi (Φ:Bool→FT) (hot:Bool):List DS:=ifS (bopE true [(cmpE (subE (varE 7) (cstE (.int 0))) [.Eq] [(cstE (.str "rota"))]),(ntE (callE (Φ hot) 51 [(subE (varE 7) (cstE (.int 1))),(subE (varE 1) (cstE (.int 0))),(subE (varE 1) (cstE (.int 1)))]))]) (seqS [retS (cstE (.bool false))]) (seqS [])::ifS (bopE true [(cmpE (subE (varE 7) (cstE (.int 0))) [.Eq] [(cstE (.str "short"))]),(ntE (callE (Φ hot) 52 [(subE (varE 7) (cstE (.int 1))),(subE (varE 1) (cstE (.int 0))),(subE (varE 1) (cstE (.int 1)))]))]) (seqS [retS (cstE (.bool false))]) (seqS [])::ifS (bopE true [(cmpE (subE (varE 7) (cstE (.int 0))) [.NotEq] [(cstE (.str "rota"))]),(cmpE (subE (varE 7) (cstE (.int 0))) [.NotEq] [(cstE (.str "short"))])]) (seqS [retS (cstE (.bool false))]) (seqS [])::Zoj Φ hot
section
variable {ρ:RE} {H H₁:AH}
theorem ZmP {e:DE} {n:Nat} {xs:List AV} (h1:e ρ H=.ok (.ref n) H₁) (h3:H₁[n]?=some (.lst xs)) (hl:xs.length≤1000000):mbE .clear e [] ρ H=.ok .none (H₁.set n (.lst [])):=by
 have k1:kindM (.ref n) H₁=2:=by show (match H₁[n]? with | some (.lst _)=>2 | some (.dict _)=>3 | _=>0)=2; rw [h3]
 unfold mbE
 rw [h1]
 show orBad (bmId (kindM (.ref n) H₁) .clear) _=_
 rw [k1]
 show (if 2=kindM (.ref n) H₁ then mbA .clear (.ref n) [] H₁ else .bad)=_
 rw [k1,if_pos rfl,ZjW h3]
 exact if_pos hl
theorem Znj {w:Str}:cmpA H .NotEq (.str w) (.str w)=some false:=by
 show some (!(PyData.eqv (.str w) (.str w)))=_
 rw [Zbr]; simp
end
section
variable {R:Nat→Bool→FT} {k:Nat} {H H' H0:AH} {N M b a bb:Nat} {ps:List Pm} {ss:List Sm} {qs:List (Option Nat×Pm)} {PG:OutS→Prop} {x0 x2 x3 x4 a5 a6 a7 a8 a9:Option AV} {r:List DS} {v v1 v2:AV}
def Ans (N:Nat) (H:AH) (w:Str) (v:AV):Prop:=∃ m l,v=.tup [.str w,.ref m]∧H[m]?=some (.lst l)∧N≤m∧(∀ x∈l,PlV x)∧l.length≤1000
theorem Zgj {h:Str→List Nat}:rowsH ((qs.map (·.2)).map (·.name)) h ss (allSN ss).length=(rowsL qs ss h).map (rowAV ss):=ZlT (Nat.le_refl _)
theorem Dealt.same (S:ShOK ss) (D1:Dealt N (qs.map (·.2)) ss H v1) (D2:Dealt M (qs.map (·.2)) ss H' v2):∃ w,Ans N H w v1∧Ans M H' w v2:=by
 cases D1 with
 | short T h m Sh h1 h2 h3 hm hN =>
  cases D2 with
  | short T' h' m' Sh' h1' h2' h3' hm' hN'=>exact ⟨_,⟨m,_,rfl,hm,hN,Zb4 fun _=>Zeo,by rw [qLm]; exact le_t h2 rfl⟩,m',_,rfl,hm',hN',Zb4 fun _=>Zeo,by rw [qLm]; exact le_t h2' rfl⟩
  | rota h' m' Fl hm' hN'=>exact absurd Fl Sh.no
 | rota h m Fl hm hN =>
  cases D2 with
  | short T' h' m' Sh' h1' h2' h3' hm' hN'=>exact absurd Fl Sh'.no
  | rota h' m' Fl' hm' hN' =>
   rw [Zgj] at hm hm'
   exact ⟨_,⟨m,_,rfl,hm,hN,Zb4 fun _=>Zmp,by rw [qLm]; exact le_t (Zcf S Fl) rfl⟩,m',_,rfl,hm',hN',Zb4 fun _=>Zmp,by rw [qLm]; exact le_t (Zcf S Fl') rfl⟩
theorem ZmX (W:Law10 R) (S:ShOK ss) (Z:Sd10 H.length H a bb qs ss) (D:Dealt N (qs.map (·.2)) ss H0 v) (u:Up H0.length H0 H)
  (fin:∀ H',Up H.length H H'→PG (seqS (Zoj (R (k+6)) false) [x0,some (.tup [.ref a,.ref bb]),x2,x3,x4,a5,a6,some v,a8,a9] H')) :
  PG (seqS (Zoi (R (k+6)) false) [x0,some (.tup [.ref a,.ref bb]),x2,x3,x4,a5,a6,some v,a8,a9] H):=by
 cases D with
 | rota h m Fl hm hN =>
  rw [Zgj] at hm
  have hm:=u.get hm
  refine ZaK (H₁:=H) (ZcW (c:=true) (H₁:=H) (Zai (Zab rfl rfl rfl) rfl rfl) (e_nt (x:=true) (Zac (ZaE (Zab rfl rfl rfl) (Zab rfl rfl rfl) (Zab rfl rfl rfl)) (ZlR (k:=k+3) W Z.fk Z.ia Z.ib S Fl (.inr ⟨m,rfl,(gsi hm).1,hm⟩) (Zki hm))))) ?_
  refine ZaK (H₁:=H) (Zjl (c:=true) (Zai (Zab rfl rfl rfl) rfl rfl)) ?_
  exact ZaK (H₁:=H) (Zjl (c:=true) (Zai (Zab rfl rfl rfl) rfl rfl)) (fin H Up.refl)
 | short T h m Sh h1 h2 h3 hm hN =>
  have hm:=u.get hm
  refine ZaK (H₁:=H) (Zjl (c:=true) (Zai (Zab rfl rfl rfl) rfl rfl)) ?_
  refine x1_2 (Zkw (k:=k) (rA:=.ref m) W Z.fk Z.ia Z.ib S Sh h2 h3 (.inr ⟨m,rfl,(gsi hm).1,hm⟩) (Zki hm)) fun H1 run u1=>?_
  refine ZaK (H₁:=H1) (ZcW (c:=true) (H₁:=H) (Zai (Zab rfl rfl rfl) rfl rfl) (e_nt (x:=true) (Zac (ZaE (Zab rfl rfl rfl) (Zab rfl rfl rfl) (Zab rfl rfl rfl)) run))) ?_
  exact ZaK (H₁:=H1) (ZcW (c:=true) (H₁:=H1) (Zai (Zab rfl rfl rfl) rfl rfl) (Zai (Zab rfl rfl rfl) rfl rfl)) (fin H1 u1)
theorem ZoI:ShOK []:=⟨fun _ h=>absurd h List.not_mem_nil,List.nodup_nil,fun _ h=>absurd h List.not_mem_nil,Nat.zero_le _,Nat.zero_le _⟩
theorem ZmG (W:Law10 R) (S:ShOK ss) (Z:Sd10 N H a bb qs ss) (B:BookOf N H b (qs.map (·.2)) ss)
  (fin:∀ H' a7 a8 a9,Up H.length H H'→PG (seqS [] [x0,some (.tup [.ref a,.ref bb]),some (.ref b),x3,x4,a5,a6,a7,a8,a9] H')) :
  PG (ZeP (R (k+6)) false [x0,some (.tup [.ref a,.ref bb]),some (.ref b),x3,x4,a5,a6,a7,a8,a9] H):=by
 refine x2_3 (ZgP (k:=k+1) W Z.fk S B) fun v1 H1 run1 u1 D1=>?_
 refine Zal (Zac (Zaa rfl) run1) ?_
 refine x2_3 (ZgP (k:=k+1) W Z.fk S (B.up u1)) fun v2 H2 run2 u2 D2=>?_
 refine Zal (Zac (Zaa rfl) run2) ?_
 refine x2_3 (Zfg (k:=k+1) (ps:=[]) W (fun _ h=>absurd h List.not_mem_nil) List.nodup_nil (Nat.zero_le _) ZoI (BookOf.new (H:=H2))) fun v3 H3 run3 u3 _=>?_
 refine ZaA (Zac (Zaa (Zhv (k:=k+5) W.bk)) run3) ?_
 have u23:Up H2.length H2 H3:=Up.app.trans (u3.mono Up.app.1)
 have u12:=u2.trans (u23.mono u2.1)
 have u03:=u1.trans (u12.mono u1.1)
 have Z3:=((Z.mono B.le).up u03).mono u03.1
 refine x1_2 (ZkF (k:=k+3) W Z3.fk Z3.ia Z3.ib S (B.up u03)) fun H4 run4 u4=>?_
 have Z4:=(Z3.up u4).mono u4.1
 obtain ⟨w,A1,A2⟩:=D1.same S D2
 obtain ⟨m1,l1,e1,hm1,hN1,pl1,hl1⟩:=A1
 obtain ⟨m2,l2,e2,hm2,hN2,pl2,hl2⟩:=A2
 have hlt1:=(gsi hm1).1
 have u14:=u12.trans (u4.mono u12.1)
 have u24:=u23.trans (u4.mono u23.1)
 rw [show seqS [_,_,_,_,_,_,_]=seqS (_::Zoi (R (k+6)) false) from rfl]
 refine ZaK (H₁:=H4) (ZcW (c:=false) (H₁:=H3) (e_nt (x:=true) (Zim rfl (by rw [e1]; rfl))) (ZcW (c:=false) (H₁:=H3) (Zai (e_bi (Zaa rfl) (by rw [e1]; rfl)) rfl rfl) (e_nt (x:=true) (Zac (ZaE rfl (Zab rfl rfl rfl) (Zab rfl rfl rfl)) run4)))) ?_
 refine ZmX (k:=k) W S Z4 D1 u14 fun H5 u5=>?_
 have hm1:=u5.get (u14.get hm1)
 have hm2:=u5.get (u24.get hm2)
 have u05:=(u03.trans (u4.mono u03.1)).trans (u5.mono (u03.trans (u4.mono u03.1)).1)
 subst e1
 subst e2
 have hne:m1≠m2:=fun e=>absurd hlt1 (Nat.not_lt.mpr (e▸hN2))
 have hg:(H5.set m1 (.lst []))[m2]?=some (.lst l2):=by rw [List.getElem?_set,if_neg hne]; exact hm2
 refine Zal (a:=.lst l2) (H₁:=H5) (e_bi (Zaa (Zab rfl rfl rfl)) (IsL.list (N:=H5.length) (.inr ⟨m2,rfl,(gsi hm2).1,hm2⟩) hl2)) ?_
 refine ZaA (ZmP (Zab rfl rfl rfl) hm1 (le_t hl1 rfl)) ?_
 refine ZaK (H₁:=H5.set m1 (.lst [])) (ZcW (c:=false) (H₁:=H5.set m1 (.lst [])) (Zai (Zab rfl rfl rfl) (Zab rfl rfl rfl) Znj) (Zai (Zab rfl rfl rfl) rfl (Zb6 (N:=m2+1) (M:=0) pl2 (.inr ⟨m2,rfl,Nat.lt_succ_self _,hg⟩) (.inl rfl)))) (fin _ _ _ _ ⟨by rw [List.length_set]; exact u05.1,fun n hn=>?_⟩)
 rw [List.getElem?_set,if_neg (fun e:m1=n=>absurd hn (Nat.not_lt.mpr (e▸hN1)))]
 exact u05.2 n hn
end
section
variable {R:Nat→Bool→FT} {k:Nat} {PG:OutS→Prop} {xs:List Int}
theorem Zm6 (W:Law10 R) (hx:xs.length≤63) (fin:∀ H',PG (.ret (.bool true) H')):PG (ZgL (R (k+6)) false (rho0 [.lst (xs.map .int)] 10) []):=by
 refine x5_2 (Zj7 (k:=k) (H:=[]) W.bk W.pt hx) fun H1 a bb qs ss run1 M=>?_
 refine Zal (Zac (Zaa rfl) run1) ?_
 have Z:Sd10 H1.length H1 a bb qs ss:=⟨⟨M.pok,fun q hq r e=>⟨(gsi (M.rs q hq r e).2).1,(M.rs q hq r e).2⟩,M.pn,le_t M.pl rfl⟩,.inr ⟨a,rfl,(gsi M.pa).1,M.pa⟩,.inr ⟨bb,rfl,(gsi M.sa).1,M.sa⟩⟩
 have S:=M.sh
 have S':ShOK ss.dropLast:=by
  obtain ⟨rest,e⟩:=ZdQ false ss
  exact S.pre e
 have F':Folk H1 H1.length qs.dropLast:=by
  obtain ⟨rest,e⟩:=ZdQ false qs
  exact Z.fk.pre e
 refine x1_3 (Zk0 (k:=k+1) (H:=H1) (turn:=cell xs 25) (pA:=.lst (qs.map pv).dropLast) (sA:=.lst (ss.map SV).dropLast) W.bk W.pt F' (.inl (by rw [List.map_dropLast])) (.inl (by rw [List.map_dropLast])) S'.ok S'.sn (le_t S'.sf rfl)) fun H2 run2 B2 u2=>?_
 refine Zal (Zac (ZaE (Zec (Zab rfl rfl rfl) rfl (Zjk rfl) rfl (Z.ia.cut_m1 (by rw [qLm]; exact le_t Z.fk.few rfl))) (Zec (Zab rfl rfl rfl) rfl (Zjk rfl) rfl (Z.ib.cut_m1 (by rw [qLm]; exact le_t S.sf rfl))) (Zac (ZaI rfl rfl) (Zi0 W.bk hx rfl))) run2) ?_
 refine Zal (a:=.int (cell xs 27)) (H₁:=H2) (Zac (ZaI rfl rfl) (Zi0 W.bk hx rfl)) ?_
 refine ZnY (k:=k) (L:=cell xs 27) W S (Z.up u2) B2 fun H3 a4 a5 a6 B3 u3=>?_
 have Z3:=(Z.up u2).up u3
 refine Zbt (a:=.rng 0 2) (H₁:=H3) (xs:=span 0 2) rfl rfl rfl
  (fun j ρ H'=>Ex4 fun a4 a7 a8 a9=>A2 (Up H3.length H3 H') (ρ=[some (.lst (xs.map .int)),some (.tup [.ref a,.ref bb]),some (.ref H1.length),some (.int (cell xs 27)),a4,a5,a6,a7,a8,a9])) ⟨_,_,_,_,Up.refl,rfl⟩ ?_ ?_
 ·rintro J j v ρ H' hv ⟨a4,a7,a8,a9,u,rfl⟩ hJ
  show Nx _ _ ((_:DS) [some (.lst (xs.map .int)),some (.tup [.ref a,.ref bb]),some (.ref H1.length),some (.int (cell xs 27)),some v,a5,a6,a7,a8,a9] H')
  exact ZmG (k:=k) W S (Z3.up (u.mono B3.le)) (B3.up u) fun H4 a7 a8 a9 u4=>Zam (hJ _ _ ⟨_,_,_,_,u.trans (u4.mono u.1),rfl⟩)
 ·rintro ρ H' ⟨a4,a7,a8,a9,u,rfl⟩
  exact ZaZ rfl (fin _)
theorem law10 (W:Law10 R) (hx:xs.length≤63):∃ H',R (k+7) false 54 [.lst (xs.map .int)] []=.ok (.bool true) H':=by
 rw [W.law _ _ _ _ rfl]
 exact Zm6 (PG:=fun o=>∃ H',o.done=.ok (.bool true) H') W hx fun H'=>⟨H',rfl⟩
end
theorem law10R:Law10 tx10.run:=⟨⟨Zah tab10 rfl,Zah tab10 rfl,Zah tab10 rfl,Zah tab10 rfl,Zah tab10 rfl,Zah tab10 rfl,Zah tab10 rfl,Zah tab10 rfl,Zah tab10 rfl,Zah tab10 rfl,Zah tab10 rfl,Zah tab10 rfl,Zah tab10 rfl,Zah tab10 rfl,Zah tab10 rfl,Zah tab10 rfl,Zah tab10 rfl⟩,⟨Zah tab10 rfl,Zah tab10 rfl⟩,⟨Zah tab10 rfl,Zah tab10 rfl,Zah tab10 rfl,Zah tab10 rfl,Zah tab10 rfl,Zah tab10 rfl,Zah tab10 rfl,Zah tab10 rfl,Zah tab10 rfl,Zah tab10 rfl⟩,⟨Zah tab10 rfl,Zah tab10 rfl,Zah tab10 rfl,Zah tab10 rfl,Zah tab10 rfl,Zah tab10 rfl⟩,⟨Zah tab10 rfl,Zah tab10 rfl,Zah tab10 rfl,Zah tab10 rfl,Zah tab10 rfl,Zah tab10 rfl⟩,Zah tab10 rfl,Zah tab10 rfl,Zah tab10 rfl,Zah tab10 rfl,Zah tab10 rfl,Zah tab10 rfl,Zah tab10 rfl,Zah tab10 rfl,Zah tab10 rfl,Zah tab10 rfl,Zah tab10 rfl,Zah tab10 rfl,Zah tab10 rfl⟩
set_option Elab.async false
set_option maxRecDepth 100000
set_option maxHeartbeats 8000000
theorem ends10 (w:World):openEnds treeTable PySem.Challenge.pw_uf030014_10 w 6000=ends PySem.Challenge.pw_uf030014_10 w 6000 3533 (lit10 w) (thr10 w):=Zle (by decide) (boot10 w) (halfS10 w) (halfT10 w)
theorem left10:LeftO PySem.Challenge.rw_uf030014_10.row.prog q10 [] (xtOf PySem.Challenge.rw_uf030014_10 q10) (fun s=>tx10.ask (fragAt 600 s.heap)) (fun _=>tx10.said) 6000 :=
 Zlw (p:=PySem.Challenge.pw_uf030014_10) (fun w=>(congrArg _ (ends10 w)).trans (base10 w)) fun w=>(congrArg _ (ends10 w)).trans (Znc (fit10 w) (body10 w))
theorem wellSaid10:PySem.Challenge.rw_uf030014_10.wellSaid=true:=by kernel_rfl
theorem isDef10:(defOf q10 PySem.Challenge.rw_uf030014_10.row.name).isSome=true:=by kernel_rfl
end Mine.Internal
set_option maxRecDepth 100000 in
set_option maxHeartbeats 8000000 in
theorem PySem.Challenge.cw_uf030014_10_holds : PySem.Challenge.rw_uf030014_10.Holds := by
 refine Mine.Internal.head_of Mine.Internal.wellSaid10 Mine.Internal.isDef10 Mine.Internal.left10 (by kernel_rfl) (by kernel_rfl) (by rfl) (by decide +kernel) ⟨rfl,rfl,rfl,rfl,rfl,by decide +kernel⟩ (by w_witness2) ?_
 intro w s₀ s₁ mg mb G Y fa o pm cd doc dV kV ho hd hcd hD hmg hg args vals as hpre hlay hrd hwl hlo
 obtain ⟨K,KX,hK⟩:=Y
 refine Ground.open G ?_
 intro T B D TE TW
 have T':=topRead_of T
 have sr:=T.seer (by kernel_rfl)
 clear hd hcd hD TE TW D B G ho T
 wrow_args hpre hlay hrd hwl hlo
 rename_i xs _ _ _ _ _ _ _ l vs _ hL _ hW _ hI _ hn _
 let S:Mine.Internal.Stat:={ prog:=PySem.Challenge.rw_uf030014_10.row.prog,w:=w,base:=s₁.heap,K:=K,pr:=_,loose:=_,mg:=mg,mb:=mb,hK:=KX,hT:=T',seer:=sr,X:=Mine.Internal.exA K Mine.Internal.tx10.T,cl:=Mine.Internal.clA K Mine.Internal.tx10.T,fa:=Mine.Internal.faA K Mine.Internal.tx10.T Mine.Internal.tx10.src,T:=Mine.Internal.tx10.T }
 have F:=Mine.Internal.Tx.facts (t:=Mine.Internal.tx10) (S:=S) rfl rfl rfl rfl hK
 exact Mine.Internal.law_ok (l:=PySem.Challenge.rw_uf030014_10) (i:=54) S Mine.Internal.tx10.G rfl rfl rfl rfl hg hmg F.1 rfl (F.2 20 false) hI hL hW hn fun ys hy=>Mine.Internal.law10 (k:=13) Mine.Internal.law10R hy
