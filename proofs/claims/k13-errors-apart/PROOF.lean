import PyProof.Rows.All
import Wide.All
import OpenK.AllK
import Wide.FinOn
import HandS.ForMost
import HandS.Exc
import HandS.WordsExc
import KE.KDictKeyed
import HandS.HeadHook1
import KE.KStateDown
import HandS.Ends
import HandS.Head0
import HandS.Head1
import HandS.Head2
import HandS.HeadEnd
import Wide.Once
import HandS.Conv
import HandS.Deep
import HandS.Defaults
import HandS.Dict
import HandS.DictComp
import HandS.ExcCtx
import HandS.ExcField
import HandS.ExcInit
import HandS.ExcInitHot
import HandS.ExcIs
import HandS.ExcOwn
import HandS.ExcSuper
import HandS.Flow
import HandS.HeadHook3
import HandS.HeadHook4
import HandS.HeadWalk
import HandS.Hot
import HandS.HotCalls
import HandS.IsInst
import HandS.Iter
import HandS.More
import HandS.Nested
import HandS.OwnEq
import HandS.Property
import HandS.RaiseMore
import HandS.SetFor
import HandS.SetIn
import HandS.SetKeys
import HandS.Small
import HandS.Star
import HandS.Strs
import HandS.Style
import HandS.Text
import HandS.TryMany
import HandS.TryOnly
import HandS.TupAny
import HandS.TupMul
import HandS.Zip
import KE.DataEq
import KE.DataFind
import KE.DataMinMax
import KE.GoesMore
import KE.GoesZip
import KE.KDictCopyH
import KE.KDictDisplayH
import KE.KDictLaw
import KE.KDictWalk
import KE.KExcSuper
import KE.SortData
import PySem.Challenge.RW_opensigns_k13_errors_apart
section
set_option Elab.async false
set_option linter.all false
set_option maxRecDepth 100000
/-! FLA: data without a heap, worlds, what a value stands for. -/
namespace FL
open PySem PySem.Spec PyProof.Rows L2

/-! ### data -/
abbrev S := List Nat
def toS (s : S) : Str := ⟨s.toArray⟩
/-- plain signs, of a length that every operation takes -/
def okS (s : S) : Bool := s.all (fun c => decide (c < 128)) && decide (s.length ≤ sizeLine)
inductive D where
  | non | bl (b : Bool) | int (i : Int) | str (s : S) | tup (xs : List D) | lst (xs : List D)
  | dic (kvs : List (D × D)) | nd (kvs : List (D × D)) | obj (c : S) (fs : List (S × D)) | ref (n : Nat) | scr (ns : List Int) | exn (c : S) (fs : List (S × D))
  deriving Inhabited
inductive Cell where
  | lst (xs : List D) | dic (kvs : List (D × D)) | nd (kvs : List (D × D)) | ins (c : S) (fs : List (S × D)) | dead
  deriving Inhabited
abbrev Store := List Cell
abbrev En := List (Option D)
abbrev Exn := S × List (S × D)
def Cell.live : Cell → Bool
  | .dead => false
  | _ => true
/-- an expression's outcome -/
inductive Res (α : Type) where
  | ok (a : α) (st : Store) | exc (x : Exn) (st : Store) | no
/-- a statement's outcome -/
inductive Fl where
  | nx (e : En) (st : Store) | rt (d : D) (st : Store) | bk (e : En) (st : Store) | ct (e : En) (st : Store) | exc (x : Exn) (e : En) (st : Store) | no
abbrev Me := En → Store → Res D
abbrev Mt := En → Store → Res Bool
abbrev Ma := En → Store → Res (List D)
abbrev Ms := En → Store → Fl
def Res.bind {α β : Type} (r : Res α) (k : α → Store → Res β) : Res β := match r with
  | .ok a st => k a st
  | .exc x st => .exc x st
  | .no => .no
def Res.bindN {α β : Type} (r : Res α) (k : α → Store → Res β) : Res β := match r with
  | .ok a st => k a st
  | _ => .no
def Res.fl (r : Res D) (e : En) (k : D → Store → Fl) : Fl := match r with
  | .ok a st => k a st
  | .exc x st => .exc x e st
  | .no => .no
def Res.flB {α : Type} (r : Res α) (e : En) (k : α → Store → Fl) : Fl := match r with
  | .ok a st => k a st
  | .exc x st => .exc x e st
  | .no => .no
def Fl.bind (r : Fl) (k : En → Store → Fl) : Fl := match r with
  | .nx e st => k e st
  | r => r

/-! ### worlds -/
structure Gc where
  P : Program
  w : World
  K : PySem.W.Frag
structure Wd where
  H : Hp
  cs : List Addr
  st : Store
  rs : List Addr
/-- a is the place of a cell that may change, or kept for another's use -/
def Mu (W : Wd) (a : Addr) : Prop := a ∈ W.rs ∨ ∃ (n : Nat) (c : Cell), W.cs[n]? = some a ∧ W.st[n]? = some c ∧ c.live = true
/-- a key -/
def kD : Key → D
  | .inl i => .int i
  | .inr x => .str x.cps.toList
mutual
/-- data as a dict's nested key -/
def nk : D → Option NestedKey
  | .non => some .none
  | .int i => some (.num i)
  | .str s => some (.text (toS s))
  | .tup xs => (nkL xs).map .tup
  | _ => none
def nkL : List D → Option (List NestedKey)
  | [] => some []
  | x :: xs => match nk x, nkL xs with
    | some k, some ks => some (k :: ks)
    | _, _ => none
end
/-- a dict with nested keys stands at a -/
def RawN (g : Gc) (H : Hp) (a : Addr) (xs : List (NestedKey × Addr × V)) : Prop := (a == sysModules) = false ∧ xs.length ≤ sizeLine ∧
  ∃ (o : Obj) (es : Array DictEntry) (ep : Nat) (ws : List (NestedKey × Addr × Value)), Paired (fun p q => p.1 = q.1 ∧ p.2.1 = q.2.1 ∧ RelV p.2.2 q.2.2) xs ws ∧
    H a = some (.ext fun h => h.get? a = some o) ∧ o.ExactDict ∧ o.data = .dict es ep ∧ es.toList = ws.map (entryOfKey (nestedKind g.P g.w)) ∧ (ws.map (·.1)).Nodup ∧ ∀ x ∈ ws, x.1.depth ≤ 8
/-- where an exception keeps its fields -/
def XdA (W : Wd) (dd : Option Addr) (fs : List (Str × V)) : Prop := match fs with
  | [] => dd = none
  | _ => ∃ a, dd = some a ∧ W.H a = some (.xd fs) ∧ ¬ Mu W a
/-- written in the top's part -/
def TupK (K : PySem.W.Frag) (a : Addr) (xs : List V) : Prop := ∃ (o : Obj) (its : Array Value) (n : Nat), K.lookup a = some o ∧ o.cls = .type "tuple" ∧ o.data = .seq its n ∧ its.size ≤ sizeLine ∧ Vals xs its.toList
def LstK (K : PySem.W.Frag) (a : Addr) (xs : List V) : Prop := ∃ (o : Obj) (its : Array Value) (n : Nat), K.lookup a = some o ∧ o.cls = .type "list" ∧ o.dict = none ∧ o.data = .seq its n ∧ its.size ≤ sizeLine ∧ Vals xs its.toList
mutual
/-- the value v stands for the data d -/
inductive Den (g : Gc) (W : Wd) : V → D → Prop
  | non : Den g W .non .non
  | bl (b : Bool) : Den g W (.bl b) (.bl b)
  | int (i : Int) : Den g W (.int i) (.int i)
  | str (s : S) : okS s = true → Den g W (.str (toS s)) (.str s)
  | tupH {a : Addr} {vs : List V} {ds : List D} : W.H a = some (.tup vs) → ¬ Mu W a → DenL g W vs ds → Den g W (.ref a) (.tup ds)
  | tupK {a : Addr} {vs : List V} {ds : List D} : TupK g.K a vs → DenL g W vs ds → Den g W (.ref a) (.tup ds)
  | lstH {a : Addr} {vs : List V} {ds : List D} : W.H a = some (.lst vs) → ¬ Mu W a → DenL g W vs ds → Den g W (.ref a) (.lst ds)
  | scr {a : Addr} {o : Obj} {ns : List Int} : W.H a = some (.frz o (.lst (ns.map V.int))) → ¬ Mu W a → Den g W (.ref a) (.scr ns)
  | scrK {a : Addr} {ns : List Int} : LstK g.K a (ns.map V.int) → Den g W (.ref a) (.scr ns)
  | dic {a : Addr} {kv : List (Key × V)} {kvs : List (D × D)} : W.H a = some (.dK kv) → ¬ Mu W a → kvs.map (·.1) = kv.map (fun p => kD p.1) → DenL g W (kv.map (·.2)) (kvs.map (·.2)) → Den g W (.ref a) (.dic kvs)
  | dicF {a : Addr} {o : Obj} {kv : List (Key × V)} {kvs : List (D × D)} : W.H a = some (.frz o (.dK kv)) → ¬ Mu W a → kvs.map (·.1) = kv.map (fun p => kD p.1) → DenL g W (kv.map (·.2)) (kvs.map (·.2)) → Den g W (.ref a) (.dic kvs)
  | ndic {a : Addr} {xs : List (NestedKey × Addr × V)} {kvs : List (D × D)} : RawN g W.H a xs → ¬ Mu W a → kvs.map (fun p => nk p.1) = xs.map (fun x => some x.1) → DenL g W (xs.map fun x => V.ref x.2.1) (kvs.map (·.1)) → DenL g W (xs.map (·.2.2)) (kvs.map (·.2)) → Den g W (.ref a) (.nd kvs)
  | obj {a dx : Addr} {c : S} {fs : List (Str × V)} {ds : List (S × D)} : W.H a = some (.ins (He.ga g.K (toS c)) dx fs) → ¬ Mu W a → fs.map (·.1) = ds.map (fun p => toS p.1) → DenL g W (fs.map (·.2)) (ds.map (·.2)) → Den g W (.ref a) (.obj c ds)
  | ref {a : Addr} {n : Nat} : W.cs[n]? = some a → Den g W (.ref a) (.ref n)
  | exn {a : Addr} {oe : Obj} {dd : Option Addr} {c : S} {fs : List (Str × V)} {ds : List (S × D)} : W.H a = some (.frz oe (.ext fun h => h.get? a = some oe)) → ¬ Mu W a → Zc (.ref (He.ga g.K (toS c))) dd oe → (∃ vs, oe.data = .fields vs) → XdA W dd fs → fs.map (·.1) = ds.map (fun p => toS p.1) → DenL g W (fs.map (·.2)) (ds.map (·.2)) → Den g W (.ref a) (.exn c ds)
inductive DenL (g : Gc) (W : Wd) : List V → List D → Prop
  | nil : DenL g W [] []
  | cons {v : V} {d : D} {vs : List V} {ds : List D} : Den g W v d → DenL g W vs ds → DenL g W (v :: vs) (d :: ds)
end
end FL
end
section
set_option Elab.async false
set_option linter.all false
set_option maxRecDepth 100000
set_option maxHeartbeats 0
namespace FL
open PySem PySem.Spec PyProof.Rows L2 NdefX
def isS (x : Str) (s : S) : Bool := decide (x = toS s) && okS s
inductive Ty where
  | non | bl | int | str | tup | lst | dic
  deriving DecidableEq
def Ty.nm : Ty → String
  | .non => "NoneType"
  | .bl => "bool"
  | .int => "int"
  | .str => "str"
  | .tup => "tuple"
  | .lst => "list"
  | .dic => "dict"
def insB (K : PySem.W.Frag) (c : S) : Bool := He.Fa.ok K (.cls (toS c)) && (He.eqO (PySem.W.findIn K (.ref (He.ga K (toS c))) "__class__") (some (some (.builtin "object.__class__"))) &&
  (He.eqO (PySem.W.specialIn K (.builtin "object.__class__") "__get__") (some (some (.builtin "getset_descriptor.__get__"))) &&
  (decide (PySem.W.takesIn K (.builtin "object.__class__") = some true) && decide (PySem.W.mroIn K (He.ga K (toS c)) (.type "object") = some true))))
def isiCB (K : PySem.W.Frag) (C : S) (p : S × Bool) : Bool := insB K p.1 && decide (PySem.W.kitOne K (.ref (He.ga K (toS p.1))) (.ref (He.ga K (toS C))) = some p.2)
def isiKB (K : PySem.W.Frag) (C : S) : Bool := [Ty.non, .bl, .int, .str, .tup, .lst, .dic].all fun a => decide (PySem.W.kitOne K (.type a.nm) (.ref (He.ga K (toS C))) = some false)
def isKT (K : PySem.W.Frag) (a : Addr) : Bool := match K.lookup a with
  | some o => decide (o.cls = .type "tuple") && decide (o.dict = none)
  | none => false
def nfB (K : PySem.W.Frag) (c : S) : Ty ⊕ S → Bool
  | .inl a => PySem.W.notFirst K (He.ga K (toS c)) (.type a.nm)
  | .inr c' => insB K c' && PySem.W.notFirst K (He.ga K (toS c)) (.ref (He.ga K (toS c')))
def listB {α β : Type} (f : α → β → Bool) : List α → List β → Bool
  | [], [] => true
  | u :: us, d :: ds => f u d && listB f us ds
  | _, _ => false
def atomB : Value → D → Bool
  | .none, .non => true
  | .bool b, .bl c => b == c
  | .int i _, .int j => decide (i = j)
  | .str x _, .str s => isS x s
  | _, _ => false
def denB (K : PySem.W.Frag) : Nat → Value → D → Bool
  | 0, u, d => atomB u d
  | n + 1, u, d => match u, d with
    | .ref a, .tup ds => match K.lookup a with
      | some ⟨.type c, _, .seq its _, _⟩ => decide (c = "tuple") && (decide (its.size ≤ sizeLine) && listB (denB K n) its.toList ds)
      | _ => false
    | u, d => atomB u d
def conD (K : PySem.W.Frag) (x : Str) (d : D) : Bool := match PySem.W.nsIn K mainGlobals x with
  | some (some u) => denB K 8 u d
  | _ => false
def valsD (K : PySem.W.Frag) (a : Addr) (kvs : List (S × D)) : Bool := kvs.all fun q => match PySem.W.nsIn K a (toS q.1) with
  | some (some u) => denB K 8 u q.2
  | _ => false
def propAt (K : PySem.W.Frag) (c f : Str) : Addr := match PySem.W.recIn K (He.ma K (He.ga K c) f) "property" with
  | some (.ref g :: _) => g
  | _ => 0
def propB (K : PySem.W.Frag) (c f : Str) : Bool := He.eqO (PySem.W.findIn K (.ref (He.ga K c)) f) (some (some (.ref (He.ma K (He.ga K c) f)))) && (He.eqO (PySem.W.specialIn K (.ref (He.ma K (He.ga K c) f)) "__get__") (some (some (.builtin "property.__get__"))) &&
  (decide (PySem.W.takesIn K (.ref (He.ma K (He.ga K c) f)) = some true) && (match PySem.W.recIn K (He.ma K (He.ga K c) f) "property" with
    | some (.ref _ :: _) => true
    | _ => false)))
structure DefQ where
  at_ : PySem.W.Frag → Addr
  name : Str
  qual : Str
  params : Arguments
  body : List Stmt
  scope : Scope
def fnWa (K : PySem.W.Frag) (a : Addr) : He.FnW := match K.lookup a with
  | some ⟨_, _, .func fd, _⟩ => some (fd.name, fd.qualname, fd.params, fd.body, fd.scope, fd.globals, fd.closure, fd.builtins)
  | _ => none
def DefQ.val (d : DefQ) : He.FnW := some (d.name, d.qual, d.params, .stmts d.body, d.scope, mainGlobals, [], builtinsNs)
def DefQ.ok (K : PySem.W.Frag) (d : DefQ) : Bool := PySem.W.keepIn K (.ref (d.at_ K)) && (match K.lookup (d.at_ K) with
  | some ⟨_, _, .func fd, _⟩ => PySem.W.codeIn K fd.code d.qual && (He.dflB K fd.defaults [] && He.kwdB K fd.kwdefaults [])
  | _ => false)
abbrev AlP : Type := He.AlT × Bool × List He.FnW
def obsP (fa : List He.Fa) (fn : List He.DefD) (ts : List He.Tab) (ex : PySem.W.Frag → Bool) (qs : List DefQ) (K : PySem.W.Frag) : AlP := (He.obsT fa fn ts K, ex K && qs.all (fun d => d.ok K), qs.map fun d => fnWa K (d.at_ K))
def valP (fn : List He.DefD) (ts : List He.Tab) (qs : List DefQ) (w : World) : AlP := (He.valT fn ts w, true, qs.map DefQ.val)
structure DefX where
  c : S
  name : Str
  qual : Str
  params : Arguments
  body : List Stmt
  scope : Scope
def oexB (K : PySem.W.Frag) (C : Addr) : Bool := (match K.lookup C with
  | some ⟨cl, _, .cls ⟨_, _, c0 :: bm, _, _, hd, _, _, _, _, del⟩, sl⟩ => decide (cl = .type "type") && (decide (c0 = .ref C) && (PySem.HandSPX.refsVE bm && (hd && (!del && (match sl.toList with
    | [_, _, _, _, some n, _] => decide (n = .builtin "ValueError.__new__")
    | _ => false)))))
  | _ => false) && (decide (PySem.W.findIn K (.ref C) "__setattr__" = some (some (.builtin "object.__setattr__"))) && (decide (PySem.W.subIn K (.ref C) (.type "BaseException") = some true) && (decide (PySem.W.typeIn K (.ref C) = some (.type "type")) && PySem.W.keepIn K (.ref C))))
abbrev FnWx : Type := Option (Str × Str × Arguments × FuncBody × Scope × Addr × List Str × Addr)
def xIni (K : PySem.W.Frag) (d : DefX) : Addr := He.ma K (He.ga K (toS d.c)) "__init__"
def supFn (K : PySem.W.Frag) (file : Str) (C : Addr) (qual : Str) (fd : FuncData) : Bool := match fd.code, fd.closure, fd.defaults, fd.kwdefaults with
  | .ref cda, [(y, c0)], .none, .none => decide (y = ("__class__" : Str)) && (PySem.W.codeIn K (.ref cda) qual && ((match K.lookup c0 with
    | some ⟨_, _, .cell (some v), _⟩ => decide (v = .ref C)
    | _ => false) && (match K.lookup cda with
    | some ⟨_, _, .fields vs, _⟩ => (match (vs[2]? : Option Value) with
      | some (Value.str fl _) => decide (file = fl)
      | _ => false)
    | _ => false)))
  | _, _, _, _ => false
def fnWx (K : PySem.W.Frag) (a : Addr) : FnWx := match K.lookup a with
  | some ⟨_, _, .func fd, _⟩ => some (fd.name, fd.qualname, fd.params, fd.body, fd.scope, fd.globals, fd.closure.map (·.1), fd.builtins)
  | _ => none
def DefX.val (d : DefX) : FnWx := some (d.name, d.qual, d.params, .stmts d.body, d.scope, mainGlobals, [("__class__" : Str)], builtinsNs)
def DefX.ok (K : PySem.W.Frag) (file : Str) (d : DefX) : Bool := He.eqO (PySem.W.findIn K (.ref (He.ga K (toS d.c))) "__init__") (some (some (.ref (xIni K d)))) && (decide (PySem.W.typeIn K (.ref (xIni K d)) = some (.type "function")) && ((match K.lookup (xIni K d) with
  | some ⟨_, _, .func fd, _⟩ => supFn K file (He.ga K (toS d.c)) d.qual fd
  | _ => false) && ((PySem.W.clsIn K (He.ga K (toS d.c))).isSome && (decide (PySem.W.mroIn K (He.ga K (toS d.c)) (.ref (He.ga K (toS d.c))) = some true) && (He.eqO (PySem.W.ks_superIn K (He.ga K (toS d.c)) (He.ga K (toS d.c)) "__init__") (some (some (.builtin "ValueError.__init__"))) &&
  (decide (PySem.W.subIn K (.ref (He.ga K (toS d.c))) (.type "ValueError") = some true) && (He.eqO (PySem.W.nsIn K cStatics "thirdparty.any") (some none) && oexB K (He.ga K (toS d.c)))))))))
abbrev AlX : Type := AlP × Bool × List FnWx
abbrev veMro : List Value := [.type "ValueError", .type "Exception", .type "BaseException", .type "object"]
def ownXB (K : PySem.W.Frag) (c : S) : Bool := PySem.W.excIn K (He.ga K (toS c)) veMro "ValueError.__new__" && (PySem.W.keepIn K (.ref (He.ga K (toS c))) &&
  (decide (PySem.W.subIn K (.ref (He.ga K (toS c))) (.type "BaseException") = some true) && decide (PySem.W.typeIn K (.ref (He.ga K (toS c))) = some (.type "type"))))
def excB (K : PySem.W.Frag) (c : S) : Bool :=
  decide (PySem.W.findIn K (.ref (He.ga K (toS c))) "__getattribute__" = some (some (.builtin "BaseException.__getattribute__"))) && (decide (PySem.W.findIn K (.ref (He.ga K (toS c))) "__getattr__" = some none) &&
  (decide (PySem.W.subIn K (.ref (He.ga K (toS c))) (.type "BaseException") = some true) && (PySem.W.hasDictIn K (He.ga K (toS c)) &&
  (decide (PySem.W.findIn K (.ref (He.ga K (toS c))) "__class__" = some (some (.builtin "object.__class__"))) &&
  (decide (PySem.W.specialIn K (.builtin "object.__class__") "__get__" = some (some (.builtin "getset_descriptor.__get__"))) &&
  (decide (PySem.W.takesIn K (.builtin "object.__class__") = some true) && decide (PySem.W.mroIn K (He.ga K (toS c)) (.type "object") = some true)))))))
def isxB (K : PySem.W.Frag) (cv : Value) (p : S × Bool) : Bool := excB K p.1 && decide (PySem.W.kitOne K (.ref (He.ga K (toS p.1))) cv = some p.2)
section
variable (fa : List He.Fa) (fn : List He.DefD) (ts : List He.Tab) (ex : PySem.W.Frag → Bool) (qs : List DefQ) (file : Str) (xs : List DefX)
def obsX (K : PySem.W.Frag) : AlX := (obsP fa fn ts ex qs K, xs.all (fun d => d.ok K file), xs.map fun d => fnWx K (xIni K d))
def valX (w : World) : AlX := (valP fn ts qs w, true, xs.map DefX.val)
def obsXG (n : Nat) (g : Addr → Option Obj) : AlX := obsX fa fn ts ex qs file xs (He.frG g (cStatics :: He.asD g n))
def SaysX (w : World) (K : PySem.W.Frag) : Prop := obsX fa fn ts ex qs file xs K = valX fn ts qs xs w
def hookX (n : Nat) : PySem.W.Hook where
  α := AlX
  obs := fun s => obsXG fa fn ts ex qs file xs n s.heap.get?
  val := fun w => valX fn ts qs xs w
  says := fun w h => ∃ K : PySem.W.Frag, K.In h ∧ SaysX fa fn ts ex qs file xs w K
  of := fun _ _ e => ⟨_, He.frG_in, e⟩
  keeps := fun _ _ _ ⟨K, hK, c⟩ k => ⟨K, PySem.W.Frag.In.keeps hK k, c⟩
end

section
variable {fa : List He.Fa} {fn : List He.DefD} {ts : List He.Tab} {ex : PySem.W.Frag → Bool} {qs : List DefQ} {file : Str} {xs : List DefX} {w : World} {K : PySem.W.Frag}
theorem obsXG_eq {n : Nat} {g : Addr → Option Obj} {s : Shared} (h : ∀ a, g a = s.heap.get? a) : obsXG fa fn ts ex qs file xs n g = (hookX fa fn ts ex qs file xs n).obs s := by
  have e : g = s.heap.get? := funext h
  rw [e] <;> rfl
end
end FL
namespace G13
open PySem PySem.Spec PyProof.Rows L2 FL NdefX
abbrev PP : Program := PySem.Challenge.pw_opensigns_k13_errors_apart
abbrev top (i : Nat) : Stmt := PySem.Challenge.pw_opensigns_k13_errors_apart.main.body.getD i (.Pass ⟨0, 0, 0, 0⟩)
abbrev n_OpenError : S := [79, 112, 101, 110, 69, 114, 114, 111, 114]
abbrev n_BadPart : S := [66, 97, 100, 80, 97, 114, 116]
abbrev n_UnknownPart : S := [85, 110, 107, 110, 111, 119, 110, 80, 97, 114, 116]
abbrev n_BadText : S := [66, 97, 100, 84, 101, 120, 116]
abbrev n_BadDeed : S := [66, 97, 100, 68, 101, 101, 100]
abbrev n_UnknownWord : S := [85, 110, 107, 110, 111, 119, 110, 87, 111, 114, 100]
abbrev n_BadWord : S := [66, 97, 100, 87, 111, 114, 100]
abbrev n_NotAlike : S := [78, 111, 116, 65, 108, 105, 107, 101]
abbrev n_BadKeys : S := [66, 97, 100, 75, 101, 121, 115]
abbrev n_BadLine : S := [66, 97, 100, 76, 105, 110, 101]
abbrev K___name__ : D := .str [108, 97, 119, 95, 111, 112, 101, 110, 115, 105, 103, 110, 115, 95, 107, 49, 51, 95, 101, 114, 114, 111, 114, 115, 95, 97, 112, 97, 114, 116]
abbrev st__law_random : Stmt := (top 12)
def d__law_random : He.DefD := ⟨("_law_random", none), "_law_random", "_law_random", defArgs st__law_random, defBody st__law_random, defScope st__law_random, [], []⟩
abbrev st__law_below : Stmt := (top 13)
def d__law_below : He.DefD := ⟨("_law_below", none), "_law_below", "_law_below", defArgs st__law_below, defBody st__law_below, defScope st__law_below, [], []⟩
abbrev st__law_pick : Stmt := (top 14)
def d__law_pick : He.DefD := ⟨("_law_pick", none), "_law_pick", "_law_pick", defArgs st__law_pick, defBody st__law_pick, defScope st__law_pick, [], []⟩
abbrev st__law_thrown : Stmt := (top 16)
def d__law_thrown : He.DefD := ⟨("_law_thrown", none), "_law_thrown", "_law_thrown", defArgs st__law_thrown, defBody st__law_thrown, defScope st__law_thrown, [], []⟩
abbrev st__law_equal : Stmt := (top 15)
def d__law_equal : He.DefD := ⟨("_law_equal", none), "_law_equal", "_law_equal", defArgs st__law_equal, defBody st__law_equal, defScope st__law_equal, [], []⟩
abbrev st__law_classes : Stmt := (top 17)
def d__law_classes : He.DefD := ⟨("_law_classes", none), "_law_classes", "_law_classes", defArgs st__law_classes, defBody st__law_classes, defScope st__law_classes, [], []⟩
abbrev st__law_fields : Stmt := (top 18)
def d__law_fields : He.DefD := ⟨("_law_fields", none), "_law_fields", "_law_fields", defArgs st__law_fields, defBody st__law_fields, defScope st__law_fields, [], []⟩
abbrev st_law : Stmt := (top 19)
def d_law : He.DefD := ⟨("law", none), "law", "law", defArgs st_law, defBody st_law, defScope st_law, [], []⟩
abbrev st_x_BadPart : Stmt := inClass (top 2) 0
def x_BadPart : DefX := ⟨n_BadPart, "__init__", "BadPart.__init__", defArgs st_x_BadPart, defBody st_x_BadPart, defScope st_x_BadPart⟩
abbrev st_x_BadWord : Stmt := inClass (top 7) 0
def x_BadWord : DefX := ⟨n_BadWord, "__init__", "BadWord.__init__", defArgs st_x_BadWord, defBody st_x_BadWord, defScope st_x_BadWord⟩
abbrev st_x_BadKeys : Stmt := inClass (top 9) 0
def x_BadKeys : DefX := ⟨n_BadKeys, "__init__", "BadKeys.__init__", defArgs st_x_BadKeys, defBody st_x_BadKeys, defScope st_x_BadKeys⟩
abbrev st_x_BadLine : Stmt := inClass (top 10) 0
def x_BadLine : DefX := ⟨n_BadLine, "__init__", "BadLine.__init__", defArgs st_x_BadLine, defBody st_x_BadLine, defScope st_x_BadLine⟩
def xqs : List DefX := [x_BadPart, x_BadWord, x_BadKeys, x_BadLine]
def fns : List He.DefD := [d__law_random, d__law_below, d__law_pick, d__law_thrown, d__law_equal, d__law_classes, d__law_fields, d_law]
def pqs : List DefQ := []
def fas : List He.Fa := [.free "abs", .free "int", .free "len", .glo "_law_below", .glo "UnknownPart", .glo "BadText", .glo "BadDeed", .glo "UnknownWord", .glo "NotAlike", .free "super", .noat (toS n_BadPart) (toS [110, 97, 109, 101]), .glo "BadPart", .noat (toS n_BadWord) (toS [105, 110, 100, 101, 120]), .glo "BadWord", .noat (toS n_BadKeys) (toS [105, 110, 100, 101, 120]), .glo "BadKeys", .noat (toS n_BadLine) (toS [108, 105, 110, 101]), .noat (toS n_BadLine) (toS [119, 111, 114, 100]), .glo "BadLine", .free "isinstance", .free "bool", .free "str", .free "dict", .free "tuple", .free "list", .free "range", .glo "_law_equal", .free "all", .glo "_law_random", .glo "_law_pick", .glo "_law_thrown", .exm (toS n_BadLine) (toS n_OpenError) true, .exm (toS n_BadKeys) (toS n_OpenError) true, .exm (toS n_BadWord) (toS n_OpenError) true, .exm (toS n_BadPart) (toS n_OpenError) true, .exm (toS n_NotAlike) (toS n_OpenError) true, .exm (toS n_UnknownWord) (toS n_OpenError) true, .exm (toS n_BadDeed) (toS n_OpenError) true, .exm (toS n_BadText) (toS n_OpenError) true, .exm (toS n_UnknownPart) (toS n_OpenError) true, .glo "OpenError", .free "ValueError", .glo "_law_classes", .glo "_law_fields", .glo "law"]
def tbs : List He.Tab := []
def exs (K : PySem.W.Frag) : Bool := [ownXB K n_UnknownPart,
 ownXB K n_BadText,
 ownXB K n_BadDeed,
 ownXB K n_UnknownWord,
 ownXB K n_NotAlike,
 isxB K (.ref (He.ga K (toS n_UnknownWord))) (n_BadLine, false),
 isxB K (.ref (He.ga K (toS n_UnknownWord))) (n_BadKeys, false),
 isxB K (.ref (He.ga K (toS n_UnknownWord))) (n_BadWord, false),
 isxB K (.ref (He.ga K (toS n_UnknownWord))) (n_BadPart, false),
 isxB K (.ref (He.ga K (toS n_UnknownWord))) (n_NotAlike, false),
 isxB K (.ref (He.ga K (toS n_UnknownWord))) (n_UnknownWord, true),
 isxB K (.ref (He.ga K (toS n_UnknownWord))) (n_BadDeed, false),
 isxB K (.ref (He.ga K (toS n_UnknownWord))) (n_BadText, false),
 isxB K (.ref (He.ga K (toS n_UnknownWord))) (n_UnknownPart, false),
 isxB K (.ref (He.ga K (toS n_BadDeed))) (n_BadLine, false),
 isxB K (.ref (He.ga K (toS n_BadDeed))) (n_BadKeys, false),
 isxB K (.ref (He.ga K (toS n_BadDeed))) (n_BadWord, false),
 isxB K (.ref (He.ga K (toS n_BadDeed))) (n_BadPart, false),
 isxB K (.ref (He.ga K (toS n_BadDeed))) (n_NotAlike, false),
 isxB K (.ref (He.ga K (toS n_BadDeed))) (n_UnknownWord, false),
 isxB K (.ref (He.ga K (toS n_BadDeed))) (n_BadDeed, true),
 isxB K (.ref (He.ga K (toS n_BadDeed))) (n_BadText, false),
 isxB K (.ref (He.ga K (toS n_BadDeed))) (n_UnknownPart, false),
 isxB K (.ref (He.ga K (toS n_BadText))) (n_BadLine, false),
 isxB K (.ref (He.ga K (toS n_BadText))) (n_BadKeys, false),
 isxB K (.ref (He.ga K (toS n_BadText))) (n_BadWord, false),
 isxB K (.ref (He.ga K (toS n_BadText))) (n_BadPart, false),
 isxB K (.ref (He.ga K (toS n_BadText))) (n_NotAlike, false),
 isxB K (.ref (He.ga K (toS n_BadText))) (n_UnknownWord, false),
 isxB K (.ref (He.ga K (toS n_BadText))) (n_BadDeed, false),
 isxB K (.ref (He.ga K (toS n_BadText))) (n_BadText, true),
 isxB K (.ref (He.ga K (toS n_BadText))) (n_UnknownPart, false),
 isxB K (.ref (He.ga K (toS n_UnknownPart))) (n_BadLine, false),
 isxB K (.ref (He.ga K (toS n_UnknownPart))) (n_BadKeys, false),
 isxB K (.ref (He.ga K (toS n_UnknownPart))) (n_BadWord, false),
 isxB K (.ref (He.ga K (toS n_UnknownPart))) (n_BadPart, false),
 isxB K (.ref (He.ga K (toS n_UnknownPart))) (n_NotAlike, false),
 isxB K (.ref (He.ga K (toS n_UnknownPart))) (n_UnknownWord, false),
 isxB K (.ref (He.ga K (toS n_UnknownPart))) (n_BadDeed, false),
 isxB K (.ref (He.ga K (toS n_UnknownPart))) (n_BadText, false),
 isxB K (.ref (He.ga K (toS n_UnknownPart))) (n_UnknownPart, true),
 isxB K (.ref (He.ga K (toS n_BadWord))) (n_BadLine, false),
 isxB K (.ref (He.ga K (toS n_BadWord))) (n_BadKeys, false),
 isxB K (.ref (He.ga K (toS n_BadWord))) (n_BadWord, true),
 isxB K (.ref (He.ga K (toS n_BadWord))) (n_BadPart, false),
 isxB K (.ref (He.ga K (toS n_BadWord))) (n_NotAlike, false),
 isxB K (.ref (He.ga K (toS n_BadWord))) (n_UnknownWord, false),
 isxB K (.ref (He.ga K (toS n_BadWord))) (n_BadDeed, false),
 isxB K (.ref (He.ga K (toS n_BadWord))) (n_BadText, false),
 isxB K (.ref (He.ga K (toS n_BadWord))) (n_UnknownPart, false),
 isxB K (.ref (He.ga K (toS n_BadPart))) (n_BadLine, false),
 isxB K (.ref (He.ga K (toS n_BadPart))) (n_BadKeys, false),
 isxB K (.ref (He.ga K (toS n_BadPart))) (n_BadWord, false),
 isxB K (.ref (He.ga K (toS n_BadPart))) (n_BadPart, true),
 isxB K (.ref (He.ga K (toS n_BadPart))) (n_NotAlike, false),
 isxB K (.ref (He.ga K (toS n_BadPart))) (n_UnknownWord, false),
 isxB K (.ref (He.ga K (toS n_BadPart))) (n_BadDeed, false),
 isxB K (.ref (He.ga K (toS n_BadPart))) (n_BadText, false),
 isxB K (.ref (He.ga K (toS n_BadPart))) (n_UnknownPart, false),
 isxB K (.ref (He.ga K (toS n_NotAlike))) (n_BadLine, false),
 isxB K (.ref (He.ga K (toS n_NotAlike))) (n_BadKeys, false),
 isxB K (.ref (He.ga K (toS n_NotAlike))) (n_BadWord, false),
 isxB K (.ref (He.ga K (toS n_NotAlike))) (n_BadPart, false),
 isxB K (.ref (He.ga K (toS n_NotAlike))) (n_NotAlike, true),
 isxB K (.ref (He.ga K (toS n_NotAlike))) (n_UnknownWord, false),
 isxB K (.ref (He.ga K (toS n_NotAlike))) (n_BadDeed, false),
 isxB K (.ref (He.ga K (toS n_NotAlike))) (n_BadText, false),
 isxB K (.ref (He.ga K (toS n_NotAlike))) (n_UnknownPart, false),
 isxB K (.ref (He.ga K (toS n_BadLine))) (n_BadLine, true),
 isxB K (.ref (He.ga K (toS n_BadLine))) (n_BadKeys, false),
 isxB K (.ref (He.ga K (toS n_BadLine))) (n_BadWord, false),
 isxB K (.ref (He.ga K (toS n_BadLine))) (n_BadPart, false),
 isxB K (.ref (He.ga K (toS n_BadLine))) (n_NotAlike, false),
 isxB K (.ref (He.ga K (toS n_BadLine))) (n_UnknownWord, false),
 isxB K (.ref (He.ga K (toS n_BadLine))) (n_BadDeed, false),
 isxB K (.ref (He.ga K (toS n_BadLine))) (n_BadText, false),
 isxB K (.ref (He.ga K (toS n_BadLine))) (n_UnknownPart, false),
 isxB K (.ref (He.ga K (toS n_BadKeys))) (n_BadLine, false),
 isxB K (.ref (He.ga K (toS n_BadKeys))) (n_BadKeys, true),
 isxB K (.ref (He.ga K (toS n_BadKeys))) (n_BadWord, false),
 isxB K (.ref (He.ga K (toS n_BadKeys))) (n_BadPart, false),
 isxB K (.ref (He.ga K (toS n_BadKeys))) (n_NotAlike, false),
 isxB K (.ref (He.ga K (toS n_BadKeys))) (n_UnknownWord, false),
 isxB K (.ref (He.ga K (toS n_BadKeys))) (n_BadDeed, false),
 isxB K (.ref (He.ga K (toS n_BadKeys))) (n_BadText, false),
 isxB K (.ref (He.ga K (toS n_BadKeys))) (n_UnknownPart, false),
 xfB K (He.ga K (toS n_BadPart)),
 xfB K (He.ga K (toS n_BadKeys)),
 xfB K (He.ga K (toS n_BadWord)),
 xfB K (He.ga K (toS n_BadLine)),
 isxB K (.type "ValueError") (n_BadLine, true),
 isxB K (.type "ValueError") (n_BadKeys, true),
 isxB K (.type "ValueError") (n_BadWord, true),
 isxB K (.type "ValueError") (n_BadPart, true),
 isxB K (.type "ValueError") (n_NotAlike, true),
 isxB K (.type "ValueError") (n_UnknownWord, true),
 isxB K (.type "ValueError") (n_BadDeed, true),
 isxB K (.type "ValueError") (n_BadText, true),
 isxB K (.type "ValueError") (n_UnknownPart, true)].all id
abbrev R : PySem.W.OpenRow := PySem.W.OpenLaw.row PySem.Challenge.rw_opensigns_k13_errors_apart
abbrev hk : PySem.W.Hook := hookX fas fns tbs exs pqs PP.main.file xqs 6
def ob (s : PySem.W.SharedT) : AlX := obsXG fas fns tbs exs pqs PP.main.file xqs 6 (HandSHeadRun.getT s)
theorem ob_eq (s : PySem.W.SharedT) : ob s = hk.obs s.abs := obsXG_eq (HandSHeadRun.getT_eq s)
def loose : List Str := ("OpenError" : Str) :: ("BadPart" : Str) :: ("UnknownPart" : Str) :: ("BadText" : Str) :: ("BadDeed" : Str) :: ("UnknownWord" : Str) :: ("BadWord" : Str) :: ("NotAlike" : Str) :: ("BadKeys" : Str) :: ("BadLine" : Str) :: ("_law_random" : Str) :: ("_law_below" : Str) :: ("_law_pick" : Str) :: ("_law_equal" : Str) :: ("_law_thrown" : Str) :: ("_law_classes" : Str) :: ("_law_fields" : Str) :: []
theorem runF (w : World) : HandSHeadRun.RunEq R (PySem.W.view R.prog [19]) hk ob 20000 loose (w.withFollow "special-get-raises" false) := by
  intro os
  kernel_rfl
theorem runT (w : World) : HandSHeadRun.RunEq R (PySem.W.view R.prog [19]) hk ob 20000 loose (w.withFollow "special-get-raises" true) := by
  intro os
  kernel_rfl
theorem run (w : World) : HandSHeadRun.RunEq R (PySem.W.view R.prog [19]) hk ob 20000 loose w := PySem.W.byRow2 "special-get-raises" (P := fun w => HandSHeadRun.RunEq R (PySem.W.view R.prog [19]) hk ob 20000 loose w) runF runT w
end G13
end
section
set_option Elab.async false
set_option linter.all false
set_option maxRecDepth 100000
/-! FLB: how worlds grow. -/
namespace FL
open PySem PySem.Spec PyProof.Rows L2

/-- frozen things stay, cells keep their places -/
structure ExtW (W W' : Wd) : Prop where
  fz : ∀ a o, W.H a = some o → ¬ Mu W a → W'.H a = some o ∧ ¬ Mu W' a
  cs : ∀ (n : Nat) (a : Addr), W.cs[n]? = some a → W'.cs[n]? = some a
/-- .. and what is kept for others stays as it is -/
structure Ext (W W' : Wd) : Prop extends ExtW W W' where
  rs : W'.rs = W.rs
  rk : ∀ a ∈ W.rs, W'.H a = W.H a
theorem ExtW.refl (W : Wd) : ExtW W W := ⟨fun _ _ h n => ⟨h, n⟩, fun _ _ h => h⟩
theorem ExtW.trans {W W1 W2 : Wd} (a : ExtW W W1) (b : ExtW W1 W2) : ExtW W W2 :=
  ⟨fun c o h n => let ⟨h1, n1⟩ := a.fz c o h n; b.fz c o h1 n1, fun n c h => b.cs n c (a.cs n c h)⟩
theorem Ext.refl (W : Wd) : Ext W W := ⟨.refl W, rfl, fun _ _ => rfl⟩
theorem Ext.trans {W W1 W2 : Wd} (a : Ext W W1) (b : Ext W1 W2) : Ext W W2 :=
  ⟨a.toExtW.trans b.toExtW, b.rs.trans a.rs, fun c h => (b.rk c (by rw [a.rs]; exact h)).trans (a.rk c h)⟩
theorem RawN.mono {g : Gc} {W W' : Wd} (e : ExtW W W') {a : Addr} {xs : List (NestedKey × Addr × V)} (h : RawN g W.H a xs) (n : ¬ Mu W a) : RawN g W'.H a xs ∧ ¬ Mu W' a := by
  obtain ⟨h1, h2, o, es, ep, ws, h3, h4, h5⟩ := h
  obtain ⟨q1, q2⟩ := e.fz _ _ h4 n
  exact ⟨⟨h1, h2, o, es, ep, ws, h3, q1, h5⟩, q2⟩
theorem XdA.mono {W W' : Wd} (e : ExtW W W') {dd : Option Addr} {fs : List (Str × V)} (h : XdA W dd fs) : XdA W' dd fs := by
  cases fs with
  | nil => exact h
  | cons p r =>
    obtain ⟨a, h1, h2, h3⟩ := h
    exact ⟨a, h1, (e.fz _ _ h2 h3).1, (e.fz _ _ h2 h3).2⟩
mutual
theorem Den.monoW {g : Gc} {W W' : Wd} (e : ExtW W W') : ∀ {v : V} {d : D}, Den g W v d → Den g W' v d
  | _, _, .non => .non
  | _, _, .bl b => .bl b
  | _, _, .int i => .int i
  | _, _, .str s h => .str s h
  | _, _, .tupH h n l => .tupH (e.fz _ _ h n).1 (e.fz _ _ h n).2 (l.monoW e)
  | _, _, .tupK h l => .tupK h (l.monoW e)
  | _, _, .lstH h n l => .lstH (e.fz _ _ h n).1 (e.fz _ _ h n).2 (l.monoW e)
  | _, _, .scr h n => .scr (e.fz _ _ h n).1 (e.fz _ _ h n).2
  | _, _, .scrK h => .scrK h
  | _, _, .dic h n k l => .dic (e.fz _ _ h n).1 (e.fz _ _ h n).2 k (l.monoW e)
  | _, _, .dicF h n k l => .dicF (e.fz _ _ h n).1 (e.fz _ _ h n).2 k (l.monoW e)
  | _, _, .ndic h n k l1 l2 => .ndic (RawN.mono e h n).1 (RawN.mono e h n).2 k (l1.monoW e) (l2.monoW e)
  | _, _, .obj h n k l => .obj (e.fz _ _ h n).1 (e.fz _ _ h n).2 k (l.monoW e)
  | _, _, .ref h => .ref (e.cs _ _ h)
  | _, _, .exn h n z q x k l => .exn (e.fz _ _ h n).1 (e.fz _ _ h n).2 z q (x.mono e) k (l.monoW e)
theorem DenL.monoW {g : Gc} {W W' : Wd} (e : ExtW W W') : ∀ {vs : List V} {ds : List D}, DenL g W vs ds → DenL g W' vs ds
  | _, _, .nil => .nil
  | _, _, .cons h t => .cons (h.monoW e) (t.monoW e)
end
theorem Den.mono {g : Gc} {W W' : Wd} (e : Ext W W') {v : V} {d : D} (h : Den g W v d) : Den g W' v d := h.monoW e.toExtW
theorem DenL.mono {g : Gc} {W W' : Wd} (e : Ext W W') {vs : List V} {ds : List D} (h : DenL g W vs ds) : DenL g W' vs ds := h.monoW e.toExtW
section
variable {g : Gc} {W : Wd}
theorem DenL.length : ∀ {vs : List V} {ds : List D}, DenL g W vs ds → vs.length = ds.length
  | _, _, .nil => rfl
  | _, _, .cons _ t => congrArg (· + 1) t.length
theorem DenL.append : ∀ {vs ws : List V} {ds es : List D}, DenL g W vs ds → DenL g W ws es → DenL g W (vs ++ ws) (ds ++ es)
  | _, _, _, _, .nil, h => h
  | _, _, _, _, .cons h t, h' => .cons h (t.append h')
theorem DenL.get : ∀ {vs : List V} {ds : List D} {i : Nat} {v : V}, DenL g W vs ds → vs[i]? = some v → ∃ d, ds[i]? = some d ∧ Den g W v d
  | _, _, _, _, .nil, e => by simp at e
  | _, _, 0, _, .cons h _, e => by simp at e; subst e; exact ⟨_, rfl, h⟩
  | _, _, i + 1, _, .cons _ t, e => by
    obtain ⟨d, h1, h2⟩ := DenL.get (i := i) t (by simpa using e)
    exact ⟨d, by simpa using h1, h2⟩
theorem DenL.getD' : ∀ {vs : List V} {ds : List D} {i : Nat} {d : D}, DenL g W vs ds → ds[i]? = some d → ∃ v, vs[i]? = some v ∧ Den g W v d
  | _, _, _, _, .nil, e => by simp at e
  | _, _, 0, _, .cons h _, e => by simp at e; subst e; exact ⟨_, rfl, h⟩
  | _, _, i + 1, _, .cons _ t, e => by
    obtain ⟨d, h1, h2⟩ := DenL.getD' (i := i) t (by simpa using e)
    exact ⟨d, by simpa using h1, h2⟩
theorem DenL.take (n : Nat) : ∀ {vs : List V} {ds : List D}, DenL g W vs ds → DenL g W (vs.take n) (ds.take n) := by
  induction n with
  | zero => intro vs ds _; exact .nil
  | succ n ih => intro vs ds h; cases h with
    | nil => exact .nil
    | cons h t => exact .cons h (ih t)
theorem DenL.drop (n : Nat) : ∀ {vs : List V} {ds : List D}, DenL g W vs ds → DenL g W (vs.drop n) (ds.drop n) := by
  induction n with
  | zero => intro vs ds h; exact h
  | succ n ih => intro vs ds h; cases h with
    | nil => exact .nil
    | cons h t => exact ih t
theorem DenL.set {v : V} {d : D} (h : Den g W v d) : ∀ {vs : List V} {ds : List D} (i : Nat), DenL g W vs ds → DenL g W (vs.set i v) (ds.set i d)
  | _, _, _, .nil => .nil
  | _, _, 0, .cons _ t => .cons h t
  | _, _, i + 1, .cons h' t => .cons h' (t.set h i)
end

theorem nodup_inj {α : Type} {l : List α} (hl : l.Nodup) {i j : Nat} {x : α} (a : l[i]? = some x) (b : l[j]? = some x) : i = j := by
  obtain ⟨hi, e1⟩ := List.getElem?_eq_some_iff.mp a
  obtain ⟨hj, e2⟩ := List.getElem?_eq_some_iff.mp b
  have h := List.pairwise_iff_getElem.mp hl
  rcases Nat.lt_trichotomy i j with q | q | q
  · exact absurd (e1.trans e2.symm) (h i j hi hj q)
  · exact q
  · exact absurd (e2.trans e1.symm) (h j i hj hi q)
/-! ### cells -/
def CellOk (g : Gc) (W : Wd) (a : Addr) : Cell → Prop
  | .lst ds => ∃ vs, W.H a = some (.lst vs) ∧ DenL g W vs ds
  | .dic kvs => ∃ kv : List (Key × V), W.H a = some (.dK kv) ∧ kvs.map (·.1) = kv.map (fun p => kD p.1) ∧ DenL g W (kv.map (·.2)) (kvs.map (·.2))
  | .nd kvs => ∃ xs : List (NestedKey × Addr × V), RawN g W.H a xs ∧ kvs.map (fun p => nk p.1) = xs.map (fun x => some x.1) ∧ DenL g W (xs.map fun x => V.ref x.2.1) (kvs.map (·.1)) ∧ DenL g W (xs.map (·.2.2)) (kvs.map (·.2))
  | .ins c ds => ∃ (dx : Addr) (fs : List (Str × V)), W.H a = some (.ins (He.ga g.K (toS c)) dx fs) ∧ fs.map (·.1) = ds.map (fun p => toS p.1) ∧ DenL g W (fs.map (·.2)) (ds.map (·.2))
  | .dead => True
structure SR (g : Gc) (W : Wd) : Prop where
  len : W.cs.length = W.st.length
  nd : W.cs.Nodup
  ex : ∀ a ∈ W.cs, ∃ o, W.H a = some o
  rx : ∀ a ∈ W.rs, (∃ o, W.H a = some o ∧ ∀ xs, o ≠ .tup xs) ∧ a ∉ W.cs
  cell : ∀ (n : Nat) (a : Addr) (c : Cell), W.cs[n]? = some a → W.st[n]? = some c → CellOk g W a c
theorem CellOk.mono {g : Gc} {W W' : Wd} (e : ExtW W W') {a : Addr} {c : Cell} (h : CellOk g W a c) (hH : c.live = true → W'.H a = W.H a) : CellOk g W' a c := by
  cases c with
  | lst ds => obtain ⟨vs, h1, h2⟩ := h; exact ⟨vs, (hH rfl).trans h1, h2.monoW e⟩
  | dic kvs => obtain ⟨kv, h1, h2, h3⟩ := h; exact ⟨kv, (hH rfl).trans h1, h2, h3.monoW e⟩
  | nd kvs => obtain ⟨xs, ⟨q1, q2, o, es, ep, ws, q3, q4, q5⟩, h2, h3, h4⟩ := h; exact ⟨xs, ⟨q1, q2, o, es, ep, ws, q3, (hH rfl).trans q4, q5⟩, h2, h3.monoW e, h4.monoW e⟩
  | ins c ds => obtain ⟨dx, fs, h1, h2, h3⟩ := h; exact ⟨dx, fs, (hH rfl).trans h1, h2, h3.monoW e⟩
  | dead => trivial
theorem CellOk.there {g : Gc} {W : Wd} {a : Addr} {c : Cell} (h : CellOk g W a c) (l : c.live = true) : ∃ o, W.H a = some o := by
  cases c with
  | lst ds => obtain ⟨vs, h1, _⟩ := h; exact ⟨_, h1⟩
  | dic kvs => obtain ⟨kv, h1, _⟩ := h; exact ⟨_, h1⟩
  | nd kvs => obtain ⟨xs, ⟨q1, q2, o, es, ep, ws, q3, q4, q5⟩, _⟩ := h; exact ⟨_, q4⟩
  | ins c ds => obtain ⟨dx, fs, h1, _⟩ := h; exact ⟨_, h1⟩
  | dead => cases l
theorem SR.there {g : Gc} {W : Wd} (s : SR g W) {a : Addr} (m : Mu W a) : ∃ o, W.H a = some o := by
  rcases m with m | ⟨n, c, h1, h2, h3⟩
  · exact (s.rx a m).1.imp fun _ h => h.1
  · exact (s.cell n a c h1 h2).there h3
/-- a new frozen object is laid at a free place -/
theorem SR.lay {g : Gc} {W : Wd} (s : SR g W) {p : Addr} {o : HO} (hp : W.H p = none) : Ext W { W with H := upd W.H p o } ∧ SR g { W with H := upd W.H p o } ∧ ¬ Mu { W with H := upd W.H p o } p := by
  have hn : ∀ {a : Addr}, (∃ o, W.H a = some o) → a ≠ p := fun ⟨o, h⟩ e => by rw [e, hp] at h; cases h
  have st : ∀ {a : Addr} {u : HO}, W.H a = some u → upd W.H p o a = some u := fun h => by rw [upd_ne (hn ⟨_, h⟩)]; exact h
  have e : Ext W { W with H := upd W.H p o } := ⟨⟨fun a u h n => ⟨st h, n⟩, fun _ _ h => h⟩, rfl, fun a ha => upd_ne (hn ((s.rx a ha).1.imp fun _ h => h.1))⟩
  refine ⟨e, ⟨s.len, s.nd, fun a ha => (s.ex a ha).imp fun o' h => st h, fun a ha => ⟨(s.rx a ha).1.imp fun o' h => ⟨st h.1, h.2⟩, (s.rx a ha).2⟩, fun n a c h1 h2 => (s.cell n a c h1 h2).mono e.toExtW fun hl => upd_ne (hn ((s.cell n a c h1 h2).there hl))⟩, ?_⟩
  rintro (m | ⟨n, c, h1, h2, h3⟩)
  · exact hn ((s.rx p m).1.imp fun _ h => h.1) rfl
  · exact hn ((s.cell n p c h1 h2).there h3) rfl
/-- a new cell is laid at a free place -/
theorem SR.cellNew {g : Gc} {W : Wd} (s : SR g W) {p : Addr} {o : HO} {c : Cell} (hp : W.H p = none) (hc : ∀ W' : Wd, Ext W W' → W'.H p = some o → CellOk g W' p c) :
    Ext W { W with H := upd W.H p o, cs := W.cs ++ [p], st := W.st ++ [c] } ∧ SR g { W with H := upd W.H p o, cs := W.cs ++ [p], st := W.st ++ [c] } := by
  have hn : ∀ {a : Addr}, (∃ o, W.H a = some o) → a ≠ p := fun ⟨o, h⟩ e => by rw [e, hp] at h; cases h
  have st : ∀ {a : Addr} {u : HO}, W.H a = some u → upd W.H p o a = some u := fun h => by rw [upd_ne (hn ⟨_, h⟩)]; exact h
  have e : Ext W { W with H := upd W.H p o, cs := W.cs ++ [p], st := W.st ++ [c] } := by
    refine ⟨⟨fun a u h n => ⟨st h, ?_⟩, fun n a h => ?_⟩, rfl, fun a ha => upd_ne (hn ((s.rx a ha).1.imp fun _ h => h.1))⟩
    · rintro (m | ⟨m, c', h1, h2, h3⟩)
      · exact n (.inl m)
      by_cases hm : m < W.cs.length
      · refine n (.inr ⟨m, c', ?_, ?_, h3⟩)
        · have h1' : (W.cs ++ [p])[m]? = some a := h1
          rw [List.getElem?_append_left hm] at h1'; exact h1'
        · have h2' : (W.st ++ [c])[m]? = some c' := h2
          rw [List.getElem?_append_left (by rw [← s.len]; exact hm)] at h2'; exact h2'
      · have h1' : (W.cs ++ [p])[m]? = some a := h1
        rw [List.getElem?_append_right (by omega)] at h1'
        have : a = p := by
          cases hq : m - W.cs.length with
          | zero => rw [hq] at h1'; simpa using h1'.symm
          | succ k => rw [hq] at h1'; simp at h1'
        exact hn ⟨_, h⟩ this
    · have hm : n < W.cs.length := (List.getElem?_eq_some_iff.mp h).1
      show (W.cs ++ [p])[n]? = some a
      rw [List.getElem?_append_left hm]; exact h
  have hcs : p ∉ W.cs := fun h => hn (s.ex p h) rfl
  refine ⟨e, ⟨by show (W.cs ++ [p]).length = (W.st ++ [c]).length; simp [s.len], ?_, fun a ha => ?_, fun a ha => ?_, fun n a c' h1 h2 => ?_⟩⟩
  · exact List.nodup_append.mpr ⟨s.nd, by simp, fun x hx y hy q => by simp at hy; subst hy; exact hcs (q ▸ hx)⟩
  · show ∃ u, upd W.H p o a = some u
    rcases List.mem_append.mp ha with h | h
    · obtain ⟨u, hu⟩ := s.ex a h
      exact ⟨u, st hu⟩
    · simp at h; subst h; exact ⟨o, upd_same⟩
  · refine ⟨(s.rx a ha).1.imp fun _ h => ⟨st h.1, h.2⟩, fun h => ?_⟩
    rcases List.mem_append.mp h with h | h
    · exact (s.rx a ha).2 h
    · simp at h; exact hn ((s.rx a ha).1.imp fun _ h => h.1) h
  · have h1' : (W.cs ++ [p])[n]? = some a := h1
    have h2' : (W.st ++ [c])[n]? = some c' := h2
    by_cases hm : n < W.cs.length
    · rw [List.getElem?_append_left hm] at h1'
      rw [List.getElem?_append_left (by rw [← s.len]; exact hm)] at h2'
      exact (s.cell n a c' h1' h2').mono e.toExtW fun hl => upd_ne (hn ((s.cell n a c' h1' h2').there hl))
    · have hge : W.cs.length ≤ n := by omega
      rw [List.getElem?_append_right hge] at h1'
      rw [List.getElem?_append_right (by rw [← s.len]; exact hge)] at h2'
      cases hq : n - W.cs.length with
      | zero =>
        rw [hq] at h1'
        rw [← s.len, hq] at h2'
        simp at h1' h2'
        subst h1' h2'
        exact hc _ e upd_same
      | succ k => rw [hq] at h1'; simp at h1'
/-- a cell is written -/
theorem SR.cellSet {g : Gc} {W : Wd} (s : SR g W) {n : Nat} {a : Addr} {o : HO} {c0 c : Cell} (ha : W.cs[n]? = some a) (h0 : W.st[n]? = some c0) (hl0 : c0.live = true) (hl : c.live = true) (hc : ∀ W' : Wd, Ext W W' → W'.H a = some o → CellOk g W' a c) :
    Ext W { W with H := upd W.H a o, st := W.st.set n c } ∧ SR g { W with H := upd W.H a o, st := W.st.set n c } := by
  have hna : n < W.st.length := (List.getElem?_eq_some_iff.mp h0).1
  have ma : Mu W a := .inr ⟨n, c0, ha, h0, hl0⟩
  have har : a ∉ W.rs := fun h => (s.rx a h).2 (List.mem_of_getElem? ha)
  have inj : ∀ m, W.cs[m]? = some a → m = n := fun m h => nodup_inj s.nd h ha
  have e : Ext W { W with H := upd W.H a o, st := W.st.set n c } := by
    refine ⟨⟨fun b u h nm => ?_, fun _ _ h => h⟩, rfl, fun b hb => upd_ne fun q => har (q ▸ hb)⟩
    have hb : b ≠ a := fun e => nm (e ▸ ma)
    refine ⟨by show upd W.H a o b = _; rw [upd_ne hb]; exact h, ?_⟩
    rintro (m | ⟨m, c', h1, h2, h3⟩)
    · exact nm (.inl m)
    have hmn : n ≠ m := fun e => hb (by
      have h1' : W.cs[m]? = some b := h1
      rw [← e, ha] at h1'; exact (Option.some.inj h1').symm)
    have h2' : (W.st.set n c)[m]? = some c' := h2
    rw [List.getElem?_set_ne hmn] at h2'
    exact nm (.inr ⟨m, c', h1, h2', h3⟩)
  refine ⟨e, ⟨by show W.cs.length = (W.st.set n c).length; rw [List.length_set]; exact s.len, s.nd, fun b hb => ?_, fun b hb => ⟨?_, (s.rx b hb).2⟩, fun m b c' h1 h2 => ?_⟩⟩
  · show ∃ u, upd W.H a o b = some u
    by_cases hba : b = a
    · subst hba; exact ⟨o, upd_same⟩
    · rw [upd_ne hba]; exact s.ex b hb
  · show ∃ u, upd W.H a o b = some u ∧ _
    have hba : b ≠ a := fun q => har (by rw [← q]; exact hb)
    rw [upd_ne hba]; exact (s.rx b hb).1
  have h1' : W.cs[m]? = some b := h1
  have h2' : (W.st.set n c)[m]? = some c' := h2
  by_cases hmn : n = m
  · subst hmn
    rw [ha] at h1'
    cases h1'
    rw [List.getElem?_set_self hna] at h2'
    cases h2'
    exact hc _ e upd_same
  · rw [List.getElem?_set_ne hmn] at h2'
    refine (s.cell m b c' h1' h2').mono e.toExtW fun _ => upd_ne fun q => hmn ?_
    rw [q] at h1'
    exact (inj m h1').symm

/-! ### names -/
structure EnvR (g : Gc) (W : Wd) (σ : L2.St) (env : En) : Prop where
  len : σ.length = env.length
  at_ : ∀ (i : Nat) (d : D), env[i]? = some (some d) → ∃ v, σ[i]? = some (some v) ∧ Den g W v d
theorem EnvR.mono {g : Gc} {W W' : Wd} {σ : L2.St} {env : En} (r : EnvR g W σ env) (e : Ext W W') : EnvR g W' σ env := ⟨r.len, fun i d h => let ⟨v, h1, h2⟩ := r.at_ i d h; ⟨v, h1, h2.mono e⟩⟩
theorem EnvR.monoW {g : Gc} {W W' : Wd} {σ : L2.St} {env : En} (r : EnvR g W σ env) (e : ExtW W W') : EnvR g W' σ env := ⟨r.len, fun i d h => let ⟨v, h1, h2⟩ := r.at_ i d h; ⟨v, h1, h2.monoW e⟩⟩
theorem EnvR.set {g : Gc} {W : Wd} {σ : L2.St} {env : En} (r : EnvR g W σ env) (i : Nat) {v : V} {d : D} (h : Den g W v d) : EnvR g W (σ.set i (some v)) (env.set i (some d)) := by
  refine ⟨by simp [r.len], fun j d' hj => ?_⟩
  by_cases e : i = j
  · subst e
    by_cases hl : i < env.length
    · rw [List.getElem?_set_self hl] at hj
      cases hj
      exact ⟨v, List.getElem?_set_self (by rw [r.len]; exact hl), h⟩
    · rw [List.getElem?_eq_none (by simpa using hl)] at hj; cases hj
  · rw [List.getElem?_set_ne e] at hj
    rw [List.getElem?_set_ne e]
    exact r.at_ j d' hj
/-- some names forgotten -/
theorem EnvR.weak {g : Gc} {W : Wd} {σ : L2.St} {env env' : En} (r : EnvR g W σ env) (hl : env'.length = env.length) (h : ∀ (i : Nat) d, env'[i]? = some (some d) → env[i]? = some (some d)) : EnvR g W σ env' :=
  ⟨r.len.trans hl.symm, fun i d hi => r.at_ i d (h i d hi)⟩
end FL
end
section
set_option Elab.async false
set_option linter.all false
set_option maxRecDepth 100000
/-! FLC: cells frozen, cells dropped; the functional readings. -/
namespace FL
open PySem PySem.Spec PyProof.Rows L2

/-! ### no cell from L on -/
mutual
def D.low (L : Nat) : D → Bool
  | .tup xs => lowL L xs
  | .lst xs => lowL L xs
  | .dic kvs => lowP L kvs
  | .nd kvs => lowP L kvs
  | .obj _ fs => lowF L fs
  | .exn _ fs => lowF L fs
  | .ref n => decide (n < L)
  | _ => true
def lowL (L : Nat) : List D → Bool
  | [] => true
  | x :: xs => x.low L && lowL L xs
def lowP (L : Nat) : List (D × D) → Bool
  | [] => true
  | (k, v) :: r => k.low L && (v.low L && lowP L r)
def lowF (L : Nat) : List (S × D) → Bool
  | [] => true
  | (_, v) :: r => v.low L && lowF L r
end
def Cell.low (L : Nat) : Cell → Bool
  | .lst xs => lowL L xs
  | .dic kvs => lowP L kvs
  | .nd kvs => lowP L kvs
  | .ins _ fs => lowF L fs
  | .dead => true
theorem ba2 {a b : Bool} (h : (a && b) = true) : a = true ∧ b = true := Bool.and_eq_true_iff.mp h
theorem lowP_k {L : Nat} : ∀ {kvs : List (D × D)}, lowP L kvs = true → lowL L (kvs.map (·.1)) = true
  | [], _ => rfl
  | (k, v) :: r, h => by
    unfold lowP at h
    obtain ⟨h1, h2⟩ := ba2 h
    obtain ⟨_, h3⟩ := ba2 h2
    show (k.low L && lowL L (r.map (·.1))) = true
    rw [h1, lowP_k h3]; rfl
theorem lowP_v {L : Nat} : ∀ {kvs : List (D × D)}, lowP L kvs = true → lowL L (kvs.map (·.2)) = true
  | [], _ => rfl
  | (k, v) :: r, h => by
    unfold lowP at h
    obtain ⟨_, h2⟩ := ba2 h
    obtain ⟨h1, h3⟩ := ba2 h2
    show (v.low L && lowL L (r.map (·.2))) = true
    rw [h1, lowP_v h3]; rfl
theorem lowF_v {L : Nat} : ∀ {fs : List (S × D)}, lowF L fs = true → lowL L (fs.map (·.2)) = true
  | [], _ => rfl
  | (k, v) :: r, h => by
    unfold lowF at h
    obtain ⟨h1, h3⟩ := ba2 h
    show (v.low L && lowL L (r.map (·.2))) = true
    rw [h1, lowF_v h3]; rfl
/-- the world less the cells from L on -/
def Wd.cut (W : Wd) (L : Nat) : Wd := { W with cs := W.cs.take L, st := W.st.take L }
theorem take_get {α : Type} {l : List α} {L n : Nat} {x : α} (h : (l.take L)[n]? = some x) : l[n]? = some x ∧ n < L := by
  rw [List.getElem?_take] at h
  by_cases hn : n < L
  · rw [if_pos hn] at h; exact ⟨h, hn⟩
  · rw [if_neg hn] at h; cases h
theorem get_take {α : Type} {l : List α} {L n : Nat} {x : α} (h : l[n]? = some x) (hn : n < L) : (l.take L)[n]? = some x := by
  rw [List.getElem?_take, if_pos hn]; exact h
theorem Mu.cut {W : Wd} {L : Nat} {a : Addr} (m : Mu (W.cut L) a) : Mu W a := by
  rcases m with m | ⟨n, c, h1, h2, h3⟩
  · exact .inl m
  · exact .inr ⟨n, c, (take_get h1).1, (take_get h2).1, h3⟩
theorem XdA.cut {W : Wd} {L : Nat} {dd : Option Addr} {fs : List (Str × V)} (h : XdA W dd fs) : XdA (W.cut L) dd fs := by
  cases fs with
  | nil => exact h
  | cons p r =>
    obtain ⟨a, h1, h2, h3⟩ := h
    exact ⟨a, h1, h2, fun m => h3 m.cut⟩
mutual
theorem Den.cut {g : Gc} {W : Wd} {L : Nat} : ∀ {v : V} {d : D}, Den g W v d → d.low L = true → Den g (W.cut L) v d
  | _, _, .non, _ => .non
  | _, _, .bl b, _ => .bl b
  | _, _, .int i, _ => .int i
  | _, _, .str s h, _ => .str s h
  | _, _, .tupH h n l, w => .tupH h (fun m => n m.cut) (l.cut (by unfold D.low at w; exact w))
  | _, _, .tupK h l, w => .tupK h (l.cut (by unfold D.low at w; exact w))
  | _, _, .lstH h n l, w => .lstH h (fun m => n m.cut) (l.cut (by unfold D.low at w; exact w))
  | _, _, .scr h n, _ => .scr h (fun m => n m.cut)
  | _, _, .scrK h, _ => .scrK h
  | _, _, .dic h n k l, w => .dic h (fun m => n m.cut) k (l.cut (lowP_v (by unfold D.low at w; exact w)))
  | _, _, .dicF h n k l, w => .dicF h (fun m => n m.cut) k (l.cut (lowP_v (by unfold D.low at w; exact w)))
  | _, _, .ndic h n k l1 l2, w => .ndic h (fun m => n m.cut) k (l1.cut (lowP_k (by unfold D.low at w; exact w))) (l2.cut (lowP_v (by unfold D.low at w; exact w)))
  | _, _, .obj h n k l, w => .obj h (fun m => n m.cut) k (l.cut (lowF_v (by unfold D.low at w; exact w)))
  | _, _, .exn h n z q x k l, w => .exn h (fun m => n m.cut) z q x.cut k (l.cut (lowF_v (by unfold D.low at w; exact w)))
  | _, _, .ref h, w => .ref (get_take h (of_decide_eq_true (by unfold D.low at w; exact w)))
theorem DenL.cut {g : Gc} {W : Wd} {L : Nat} : ∀ {vs : List V} {ds : List D}, DenL g W vs ds → lowL L ds = true → DenL g (W.cut L) vs ds
  | _, _, .nil, _ => .nil
  | _, _, .cons h t, w => .cons (h.cut (by unfold lowL at w; exact (ba2 w).1)) (t.cut (by unfold lowL at w; exact (ba2 w).2))
end
theorem CellOk.cut {g : Gc} {W : Wd} {L : Nat} {a : Addr} {c : Cell} (h : CellOk g W a c) (w : c.low L = true) : CellOk g (W.cut L) a c := by
  cases c with
  | lst ds => obtain ⟨vs, h1, h2⟩ := h; exact ⟨vs, h1, h2.cut w⟩
  | dic kvs => obtain ⟨kv, h1, h2, h3⟩ := h; exact ⟨kv, h1, h2, h3.cut (lowP_v w)⟩
  | nd kvs => obtain ⟨xs, h1, h2, h3, h4⟩ := h; exact ⟨xs, h1, h2, h3.cut (lowP_k w), h4.cut (lowP_v w)⟩
  | ins c ds => obtain ⟨dx, fs, h1, h2, h3⟩ := h; exact ⟨dx, fs, h1, h2, h3.cut (lowF_v w)⟩
  | dead => trivial
theorem SR.cut {g : Gc} {W : Wd} (s : SR g W) {L : Nat} (h : ∀ c ∈ W.st.take L, c.low L = true) : SR g (W.cut L) :=
  ⟨by show (W.cs.take L).length = (W.st.take L).length; rw [List.length_take, List.length_take, s.len], s.nd.sublist (List.take_sublist _ _), fun a ha => s.ex a ((List.take_sublist _ _).subset ha), fun a ha => ⟨(s.rx a ha).1, fun h => (s.rx a ha).2 ((List.take_sublist _ _).subset h)⟩,
    fun n a c h1 h2 => (s.cell n a c (take_get h1).1 (take_get h2).1).cut (h c (List.mem_of_getElem? h2))⟩
theorem Ext.cut {W W' : Wd} (e : Ext W W') {L : Nat} (hL : W.cs.length ≤ L) : Ext W (W'.cut L) :=
  ⟨⟨fun a o h n => let ⟨h1, n1⟩ := e.fz a o h n; ⟨h1, fun m => n1 m.cut⟩, fun n a h => get_take (e.cs n a h) (Nat.lt_of_lt_of_le (List.getElem?_eq_some_iff.mp h).1 hL)⟩, e.rs, e.rk⟩

/-! ### a cell is frozen -/
def Wd.kill (W : Wd) (n : Nat) : Wd := { W with st := W.st.set n .dead }
theorem Mu.of_kill {W : Wd} {n : Nat} {a : Addr} (m : Mu (W.kill n) a) : Mu W a := by
  rcases m with m | ⟨k, c, h1, h2, h3⟩
  · exact .inl m
  have h2' : (W.st.set n .dead)[k]? = some c := h2
  by_cases e : n = k
  · subst e
    by_cases hl : n < W.st.length
    · rw [List.getElem?_set_self hl] at h2'; cases h2'; cases h3
    · rw [List.getElem?_eq_none (by simpa using hl)] at h2'; cases h2'
  · rw [List.getElem?_set_ne e] at h2'
    exact .inr ⟨k, c, h1, h2', h3⟩
theorem not_mu_kill {g : Gc} {W : Wd} (s : SR g W) {n : Nat} {a : Addr} (ha : W.cs[n]? = some a) : ¬ Mu (W.kill n) a := by
  rintro (m | ⟨k, c, h1, h2, h3⟩)
  · exact (s.rx a m).2 (List.mem_of_getElem? ha)
  have h2' : (W.st.set n .dead)[k]? = some c := h2
  have e := nodup_inj s.nd ha h1
  subst e
  by_cases hl : n < W.st.length
  · rw [List.getElem?_set_self hl] at h2'; cases h2'; cases h3
  · rw [List.getElem?_eq_none (by simpa using hl)] at h2'; cases h2'
theorem Ext.kill (W : Wd) (n : Nat) : Ext W (W.kill n) := ⟨⟨fun a o h m => ⟨h, fun q => m q.of_kill⟩, fun _ _ h => h⟩, rfl, fun _ _ => rfl⟩
theorem SR.kill {g : Gc} {W : Wd} (s : SR g W) (n : Nat) : SR g (W.kill n) := by
  refine ⟨by show W.cs.length = (W.st.set n .dead).length; rw [List.length_set]; exact s.len, s.nd, s.ex, s.rx, fun k a c h1 h2 => ?_⟩
  have h2' : (W.st.set n .dead)[k]? = some c := h2
  by_cases e : n = k
  · subst e
    by_cases hl : n < W.st.length
    · rw [List.getElem?_set_self hl] at h2'; cases h2'; trivial
    · rw [List.getElem?_eq_none (by simpa using hl)] at h2'; cases h2'
  · rw [List.getElem?_set_ne e] at h2'
    exact (s.cell k a c h1 h2').mono (Ext.kill W n).toExtW fun _ => rfl
/-- freeze what a ref names -/
def fz : D → Store → Res D
  | .ref n, st => match st[n]? with
    | some (.lst xs) => .ok (.lst xs) (st.set n .dead)
    | some (.dic kvs) => .ok (.dic kvs) (st.set n .dead)
    | some (.nd kvs) => .ok (.nd kvs) (st.set n .dead)
    | some (.ins c fs) => .ok (.obj c fs) (st.set n .dead)
    | _ => .no
  | d, st => .ok d st
theorem fz_ok {g : Gc} {W : Wd} (s : SR g W) {v : V} {d d' : D} {st' : Store} (h : Den g W v d) (e : fz d W.st = .ok d' st') : ∃ W', Ext W W' ∧ SR g W' ∧ W'.st = st' ∧ W'.H = W.H ∧ Den g W' v d' := by
  cases d with
  | ref n =>
    cases h with
    | @ref a _ ha =>
    dsimp only [fz] at e
    cases q : W.st[n]? with
    | none => rw [q] at e; cases e
    | some c =>
      rw [q] at e
      have ok := s.cell n a c ha q
      cases c with
      | lst xs =>
        cases e
        obtain ⟨vs, h1, h2⟩ := ok
        exact ⟨W.kill n, Ext.kill W n, s.kill n, rfl, rfl, .lstH h1 (not_mu_kill s ha) (h2.mono (Ext.kill W n))⟩
      | dic kvs =>
        cases e
        obtain ⟨kv, h1, h2, h3⟩ := ok
        exact ⟨W.kill n, Ext.kill W n, s.kill n, rfl, rfl, .dic h1 (not_mu_kill s ha) h2 (h3.mono (Ext.kill W n))⟩
      | nd kvs =>
        cases e
        obtain ⟨xs, h1, h2, h3, h4⟩ := ok
        exact ⟨W.kill n, Ext.kill W n, s.kill n, rfl, rfl, .ndic h1 (not_mu_kill s ha) h2 (h3.mono (Ext.kill W n)) (h4.mono (Ext.kill W n))⟩
      | ins c fs =>
        cases e
        obtain ⟨dx, fs', h1, h2, h3⟩ := ok
        exact ⟨W.kill n, Ext.kill W n, s.kill n, rfl, rfl, .obj h1 (not_mu_kill s ha) h2 (h3.mono (Ext.kill W n))⟩
      | dead => cases e
  | _ => cases e; exact ⟨W, Ext.refl W, s, rfl, rfl, h⟩

/-! ### readings -/
/-- an exception as data -/
def ExD (g : Gc) (W : Wd) (cls : Value) (dd : Option Addr) (x : Exn) : Prop := cls = .ref (He.ga g.K (toS x.1)) ∧
  match x.2 with
  | [] => dd = none
  | fs => ∃ (a : Addr) (vs : List (Str × V)), dd = some a ∧ W.H a = some (.xd vs) ∧ ¬ Mu W a ∧ vs.map (·.1) = fs.map (fun p => toS p.1) ∧ DenL g W (vs.map (·.2)) (fs.map (·.2))
/-- behind a piece of code -/
def Post {α : Type} (g : Gc) (W0 : Wd) (Wx : Exn → Wd → Prop) (r : Res α) (R : α → Wd → Prop) : Prop := match r with
  | .ok a st' => ∀ W', Ext W0 W' → SR g W' → W'.st = st' → R a W'
  | .exc x st' => ∀ W', Ext W0 W' → SR g W' → W'.st = st' → Wx x W'
  | .no => False
def wx (g : Gc) (Wx : WX) (σ : L2.St) (x : Exn) (W' : Wd) : Prop := ∀ cls dd, ExD g W' cls dd x → Wx cls dd σ W'.H
theorem Post.ext {α : Type} {g : Gc} {W0 W1 : Wd} {Wx : Exn → Wd → Prop} {r : Res α} {R : α → Wd → Prop} (p : Post g W0 Wx r R) (e : Ext W0 W1) : Post g W1 Wx r R := by
  cases r with
  | ok a st' => exact fun W' e' => p W' (e.trans e')
  | exc x st' => exact fun W' e' => p W' (e.trans e')
  | no => exact p
/-- a reading by a function of the names and the store; R: how a result stands for the data -/
def fG {α β : Type} (g : Gc) (Wx : WX) (R : Wd → β → α → Prop) (m : En → Store → Res α) : L2.St → Hp → (β → Hp → Prop) → Prop := fun σ H Q =>
  ∃ (W : Wd) (env : En), W.H = H ∧ SR g W ∧ EnvR g W σ env ∧ Post g W (wx g Wx σ) (m env W.st) fun d W' => ∀ b, R W' b d → Q b W'.H
abbrev fE (g : Gc) (Wx : WX) (m : Me) : TE := fG g Wx (fun W v d => Den g W v d) m
abbrev fT (g : Gc) (Wx : WX) (m : Mt) : TT := fG g Wx (fun _ (b b' : Bool) => b = b') m
abbrev fA (g : Gc) (Wx : WX) (m : Ma) : TA := fG g Wx (fun W vs ds => DenL g W vs ds) m
theorem Post.mono {α : Type} {g : Gc} {W0 : Wd} {Wx : Exn → Wd → Prop} {r : Res α} {R R' : α → Wd → Prop} (p : Post g W0 Wx r R) (h : ∀ a W, R a W → R' a W) : Post g W0 Wx r R' := by
  cases r with
  | ok a st' => exact fun W' e' s hs => h _ _ (p W' e' s hs)
  | exc x st' => exact p
  | no => exact p
theorem fG_mono {α β : Type} {g : Gc} {Wx : WX} {R : Wd → β → α → Prop} {m : En → Store → Res α} {σ : L2.St} {H : Hp} {Q Q' : β → Hp → Prop} (h : fG g Wx R m σ H Q) (i : ∀ b H', Q b H' → Q' b H') : fG g Wx R m σ H Q' := by
  obtain ⟨W, env, e, s, r, p⟩ := h
  exact ⟨W, env, e, s, r, p.mono fun a W' q b hb => i _ _ (q b hb)⟩
/-- with values at hand -/
def fV {α β : Type} (g : Gc) (Wx : WX) (R : Wd → β → α → Prop) (vs : List V) (k : List D → En → Store → Res α) : L2.St → Hp → (β → Hp → Prop) → Prop := fun σ H Q =>
  ∃ (W : Wd) (env : En) (ds : List D), W.H = H ∧ SR g W ∧ EnvR g W σ env ∧ DenL g W vs ds ∧ Post g W (wx g Wx σ) (k ds env W.st) fun d W' => ∀ b, R W' b d → Q b W'.H
section
variable {α β : Type} {g : Gc} {Wx : WX} {R : Wd → β → α → Prop} {σ : L2.St} {H : Hp} {Q : β → Hp → Prop}
theorem fG.toV {m : En → Store → Res α} (h : fG g Wx R m σ H Q) : fV g Wx R [] (fun _ => m) σ H Q := by
  obtain ⟨W, env, e, s, r, p⟩ := h
  exact ⟨W, env, [], e, s, r, .nil, p⟩
/-- one more expression -/
theorem fV.step {vs : List V} {m : Me} {k : List D → En → Store → Res α} (h : fV g Wx R vs (fun ds e st => (m e st).bind fun d st1 => k (ds ++ [d]) e st1) σ H Q) :
    fE g Wx m σ H fun v H1 => fV g Wx R (vs ++ [v]) k σ H1 Q := by
  obtain ⟨W, env, ds, rfl, s, r, l, p⟩ := h
  refine ⟨W, env, rfl, s, r, ?_⟩
  dsimp only at p
  cases q : m env W.st with
  | ok d st1 =>
    rw [q] at p
    exact fun W1 e1 s1 hs v hv => ⟨W1, env, ds ++ [d], rfl, s1, r.mono e1, (l.mono e1).append (.cons hv .nil), by rw [hs]; exact Post.ext p e1⟩
  | exc x st1 => rw [q] at p; exact p
  | no => rw [q] at p; exact p
/-- one more test -/
theorem fV.stepT {vs : List V} {m : Mt} {k : Bool → List D → En → Store → Res α} (h : fV g Wx R vs (fun ds e st => (m e st).bind fun b st1 => k b ds e st1) σ H Q) :
    fT g Wx m σ H fun b H1 => fV g Wx R vs (k b) σ H1 Q := by
  obtain ⟨W, env, ds, rfl, s, r, l, p⟩ := h
  refine ⟨W, env, rfl, s, r, ?_⟩
  dsimp only at p
  cases q : m env W.st with
  | ok d st1 =>
    rw [q] at p
    exact fun W1 e1 s1 hs b hb => ⟨W1, env, ds, rfl, s1, r.mono e1, l.mono e1, by rw [hs]; subst hb; exact Post.ext p e1⟩
  | exc x st1 => rw [q] at p; exact p
  | no => rw [q] at p; exact p
/-- an argument list -/
theorem fV.stepA {vs : List V} {m : Ma} {k : List D → En → Store → Res α} (h : fV g Wx R vs (fun ds e st => (m e st).bind fun d st1 => k (ds ++ d) e st1) σ H Q) :
    fA g Wx m σ H fun ws H1 => fV g Wx R (vs ++ ws) k σ H1 Q := by
  obtain ⟨W, env, ds, rfl, s, r, l, p⟩ := h
  refine ⟨W, env, rfl, s, r, ?_⟩
  dsimp only at p
  cases q : m env W.st with
  | ok d st1 =>
    rw [q] at p
    exact fun W1 e1 s1 hs v hv => ⟨W1, env, ds ++ d, rfl, s1, r.mono e1, (l.mono e1).append hv, by rw [hs]; exact Post.ext p e1⟩
  | exc x st1 => rw [q] at p; exact p
  | no => rw [q] at p; exact p
end
theorem PE.imp {X : Cx} {e : Expr} {t t' : TE} (h : PE X e t) (i : ∀ σ H Q, t' σ H Q → t σ H Q) : PE X e t' := ⟨fun pins s σ H Q I q => h.run pins s σ H Q I (i _ _ _ q)⟩
theorem PT.imp {X : Cx} {e : Expr} {t t' : TT} (h : PT X e t) (i : ∀ σ H Q, t' σ H Q → t σ H Q) : PT X e t' := ⟨fun pins s σ H Q I q => h.run pins s σ H Q I (i _ _ _ q)⟩
theorem PW.imp {X : Cx} {e : Expr} {t t' : TT} (h : PW X e t) (i : ∀ σ H Q, t' σ H Q → t σ H Q) : PW X e t' := ⟨fun w pins s σ H Q I q => h.run w pins s σ H Q I (i _ _ _ q)⟩
theorem PA.imp {X : Cx} {e : List Expr} {t t' : TA} (h : PA X e t) (i : ∀ σ H Q, t' σ H Q → t σ H Q) : PA X e t' := ⟨fun w pins s σ H Q I q => h.run w pins s σ H Q I (i _ _ _ q)⟩
theorem PS.imp {X : Cx} {e : Stmt} {t t' : TS} (h : PS X e t) (i : ∀ D σ H, t' D σ H → t D σ H) : PS X e t' := ⟨fun pins s σ H D I q => h.run pins s σ H D I (i _ _ _ q)⟩
theorem PSs.imp {X : Cx} {e : List Stmt} {t t' : TS} (h : PSs X e t) (i : ∀ D σ H, t' D σ H → t D σ H) : PSs X e t' := ⟨fun pins s σ H D I q => h.run pins s σ H D I (i _ _ _ q)⟩
abbrev gc (X : Cx) : Gc := ⟨X.prog, X.w, X.K⟩
end FL
end
section
set_option Elab.async false
set_option linter.all false
set_option maxRecDepth 100000
/-! FLD: names, constants, operators, comparisons. -/
namespace FL
open PySem PySem.Spec PyProof.Rows L2

section
variable {X : Cx} {Wx : WX} {pos : Pos}
/-! ### names, constants -/
def aVar (i : Nat) : Me := fun e st => match e[i]? with
  | some (some d) => .ok d st
  | _ => .no
def aC (d : D) : Me := fun _ st => .ok d st
theorem e_var (i : Nat) {x : Str} (hN : X.N[i]? = some x := by rfl) (hv : Vis X.env.scope x := by first | exact Or.inl rfl | exact Or.inr (Or.inl rfl) | exact Or.inr (Or.inr rfl)) (hd : (x == ("__debug__" : Str)) = false := by decide)
    (hcd : (x == ("__classdict__" : Str)) = false := by decide) : PE X (.Name x pos) (fE (gc X) Wx (aVar i)) := by
  refine PE.imp (pe_var hN hv hd hcd) fun σ H Q h => ?_
  obtain ⟨W, env, rfl, s, r, p⟩ := h
  dsimp only [aVar] at p
  cases q : env[i]? with
  | none => rw [q] at p; exact p.elim
  | some o =>
    rw [q] at p
    cases o with
    | none => exact p.elim
    | some d =>
      obtain ⟨v, hv', hd'⟩ := r.at_ i d q
      exact ⟨v, hv', p W (Ext.refl W) s rfl v hd'⟩
theorem of_const {v : V} {d : D} {σ : L2.St} {H : Hp} {Q : VK} (hd : ∀ W, Den (gc X) W v d) (h : fE (gc X) Wx (aC d) σ H Q) : tC v σ H Q := by
  obtain ⟨W, env, rfl, s, r, p⟩ := h
  exact p W (Ext.refl W) s rfl v (hd W)
theorem e_int {i : Int} {j} : PE X (.Constant (.int i) j pos) (fE (gc X) Wx (aC (.int i))) := PE.imp pe_int fun _ _ _ h => of_const (fun _ => .int i) h
theorem e_bl {b : Bool} {j} : PE X (.Constant (.bool b) j pos) (fE (gc X) Wx (aC (.bl b))) := PE.imp pe_bl fun _ _ _ h => of_const (fun _ => .bl b) h
theorem e_non {j} : PE X (.Constant .none j pos) (fE (gc X) Wx (aC .non)) := PE.imp pe_non fun _ _ _ h => of_const (fun _ => .non) h
theorem e_str {x : Str} {s : S} {j} (h : isS x s = true := by decide +kernel) : PE X (.Constant (.str x) j pos) (fE (gc X) Wx (aC (.str s))) := by
  obtain ⟨h1, h2⟩ := ba2 h
  rw [of_decide_eq_true h1]
  exact PE.imp pe_str fun _ _ _ h => of_const (fun _ => .str s h2) h
theorem e_glob {x : Str} {d : D} {a : Addr} (hg : Gl X x) (hm : X.mg x = some (.ref a)) (hd : ∀ W, Den (gc X) W (.ref a) d) (hdb : (x == ("__debug__" : Str)) = false := by decide) : PE X (.Name x pos) (fE (gc X) Wx (aC d)) :=
  PE.imp (pe_glob (v := .ref a) hg hm rfl hdb) fun _ _ _ h => of_const hd h
theorem e_globI {x : Str} {i : Int} {t : Tok} (hg : Gl X x) (hm : X.mg x = some (.int i t)) (hdb : (x == ("__debug__" : Str)) = false := by decide) : PE X (.Name x pos) (fE (gc X) Wx (aC (.int i))) :=
  PE.imp (pe_glob (v := .int i) hg hm ⟨t, rfl⟩ hdb) fun _ _ _ h => of_const (fun _ => .int i) h
theorem e_globS {x z : Str} {s : S} {t : Tok} (hg : Gl X x) (hm : X.mg x = some (.str z t)) (hs : isS z s = true) (hdb : (x == ("__debug__" : Str)) = false := by decide) : PE X (.Name x pos) (fE (gc X) Wx (aC (.str s))) := by
  obtain ⟨h1, h2⟩ := ba2 hs
  rw [of_decide_eq_true h1] at hm
  exact PE.imp (pe_glob (v := .str (toS s)) hg hm ⟨t, rfl⟩ hdb) fun _ _ _ h => of_const (fun _ => .str s h2) h
end

/-! ### values at hand -/
section
variable {g : Gc} {Wx : WX} {σ : L2.St} {H : Hp} {α β : Type} {R : Wd → β → α → Prop} {Q : β → Hp → Prop}
/-- one value -/
def f1 (g : Gc) (Wx : WX) (R : Wd → β → α → Prop) (k : D → Store → Res α) (x : V) : L2.St → Hp → (β → Hp → Prop) → Prop := fun σ H Q =>
  ∃ (W : Wd) (d : D), W.H = H ∧ SR g W ∧ Den g W x d ∧ Post g W (wx g Wx σ) (k d W.st) fun d W' => ∀ b, R W' b d → Q b W'.H
def f2 (g : Gc) (Wx : WX) (R : Wd → β → α → Prop) (k : D → D → Store → Res α) (x y : V) : L2.St → Hp → (β → Hp → Prop) → Prop := fun σ H Q =>
  ∃ (W : Wd) (d e : D), W.H = H ∧ SR g W ∧ Den g W x d ∧ Den g W y e ∧ Post g W (wx g Wx σ) (k d e W.st) fun d W' => ∀ b, R W' b d → Q b W'.H
def a1 (k : D → Store → Res α) (m : Me) : En → Store → Res α := fun e st => (m e st).bind k
def a2 (k : D → D → Store → Res α) (m n : Me) : En → Store → Res α := fun e st => (m e st).bind fun x st1 => (n e st1).bind fun y st2 => k x y st2
theorem lift1 {k : D → Store → Res α} {m : Me} (h : fG g Wx R (a1 k m) σ H Q) : fE g Wx m σ H fun x H1 => f1 g Wx R k x σ H1 Q := by
  obtain ⟨W, env, rfl, s, r, p⟩ := h
  refine ⟨W, env, rfl, s, r, ?_⟩
  dsimp only [a1] at p
  cases q : m env W.st with
  | ok d st1 =>
    rw [q] at p
    exact fun W1 e1 s1 hs v hv => ⟨W1, d, rfl, s1, hv, by rw [hs]; exact Post.ext p e1⟩
  | exc x st1 => rw [q] at p; exact p
  | no => rw [q] at p; exact p
theorem lift2 {k : D → D → Store → Res α} {m n : Me} (h : fG g Wx R (a2 k m n) σ H Q) : fE g Wx m σ H fun x H1 => fE g Wx n σ H1 fun y H2 => f2 g Wx R k x y σ H2 Q := by
  obtain ⟨W, env, rfl, s, r, p⟩ := h
  refine ⟨W, env, rfl, s, r, ?_⟩
  dsimp only [a2] at p
  cases q : m env W.st with
  | ok d st1 =>
    rw [q] at p
    refine fun W1 e1 s1 hs v hv => ⟨W1, env, rfl, s1, r.mono e1, ?_⟩
    have p1 := Post.ext p e1
    dsimp only [Res.bind] at p1
    rw [hs]
    cases q2 : n env st1 with
    | ok d2 st2 =>
      rw [q2] at p1
      exact fun W2 e2 s2 hs2 v2 hv2 => ⟨W2, d, d2, rfl, s2, hv.mono e2, hv2, by rw [hs2]; exact Post.ext p1 e2⟩
    | exc x st2 => rw [q2] at p1; exact p1
    | no => rw [q2] at p1; exact p1
  | exc x st1 => rw [q] at p; exact p
  | no => rw [q] at p; exact p
end

/-! ### what is known of a value by its data -/
section
variable {g : Gc} {W : Wd} {v : V}
theorem Den.int_inv {i : Int} (h : Den g W v (.int i)) : v = .int i := by cases h; rfl
theorem Den.bl_inv {b : Bool} (h : Den g W v (.bl b)) : v = .bl b := by cases h; rfl
theorem Den.non_inv (h : Den g W v .non) : v = .non := by cases h; rfl
theorem Den.str_inv {s : S} (h : Den g W v (.str s)) : v = .str (toS s) ∧ okS s = true := by cases h; exact ⟨rfl, by assumption⟩
theorem Den.tup_inv {ds : List D} (h : Den g W v (.tup ds)) : ∃ a vs, v = .ref a ∧ SqT g.K W.H a vs ∧ DenL g W vs ds := by
  cases h with
  | tupH h n l => exact ⟨_, _, rfl, .inl (.inl h), l⟩
  | tupK h l => exact ⟨_, _, rfl, .inr h, l⟩
theorem Den.lst_inv {ds : List D} (h : Den g W v (.lst ds)) : ∃ a vs, v = .ref a ∧ W.H a = some (.lst vs) ∧ ¬ Mu W a ∧ DenL g W vs ds := by
  cases h with
  | lstH h n l => exact ⟨_, _, rfl, h, n, l⟩
/-- a list, frozen or a cell -/
def lsOf : D → Store → Option (List D)
  | .lst xs, _ => some xs
  | .ref n, st => match st[n]? with
    | some (.lst xs) => some xs
    | _ => none
  | _, _ => none
theorem lsOf_inv {d : D} {ds : List D} (s : SR g W) (h : Den g W v d) (e : lsOf d W.st = some ds) : ∃ a vs, v = .ref a ∧ W.H a = some (.lst vs) ∧ DenL g W vs ds := by
  cases d with
  | lst xs =>
    cases e
    obtain ⟨a, vs, h1, h2, _, h3⟩ := h.lst_inv
    exact ⟨a, vs, h1, h2, h3⟩
  | ref n =>
    cases h with
    | @ref a _ ha =>
    dsimp only [lsOf] at e
    cases q : W.st[n]? with
    | none => rw [q] at e; cases e
    | some c =>
      rw [q] at e
      have ok := s.cell n a c ha q
      cases c with
      | lst xs =>
        cases e
        obtain ⟨vs, h1, h2⟩ := ok
        exact ⟨a, vs, rfl, h1, h2⟩
      | _ => cases e
  | _ => cases e
/-- a list or tuple -/
def sqOf : D → Store → Option (List D)
  | .tup xs, _ => some xs
  | d, st => lsOf d st
theorem sqOf_inv {d : D} {ds : List D} (s : SR g W) (h : Den g W v d) (e : sqOf d W.st = some ds) : ∃ a vs, v = .ref a ∧ (SqL g.K W.H a vs ∨ SqT g.K W.H a vs) ∧ DenL g W vs ds := by
  have go : lsOf d W.st = some ds → ∃ a vs, v = .ref a ∧ (SqL g.K W.H a vs ∨ SqT g.K W.H a vs) ∧ DenL g W vs ds := fun e => by
    obtain ⟨a, vs, h1, h2, h3⟩ := lsOf_inv s h e
    exact ⟨a, vs, h1, .inl (SqL.of h2), h3⟩
  cases d with
  | tup xs =>
    cases e
    obtain ⟨a, vs, h1, h2, h3⟩ := h.tup_inv
    exact ⟨a, vs, h1, .inr h2, h3⟩
  | _ => exact go e
end

/-! ### == -/
mutual
def py : D → PyData
  | .non => .none
  | .bl b => .bool b
  | .int i => .int i
  | .str s => .str (toS s)
  | .tup xs => .tuple (pyL xs)
  | .lst xs => .list (pyL xs)
  | _ => .none
def pyL : List D → List PyData
  | [] => []
  | x :: xs => py x :: pyL xs
end
mutual
/-- plain data, nested n deep at most -/
def D.sh : D → Nat → Bool
  | .non, _ | .bl _, _ | .int _, _ | .str _, _ => true
  | .tup xs, n => match n with
    | 0 => false
    | n + 1 => shL xs n
  | .lst xs, n => match n with
    | 0 => false
    | n + 1 => shL xs n
  | _, _ => false
def shL : List D → Nat → Bool
  | [], _ => true
  | x :: xs, n => x.sh n && shL xs n
end
mutual
/-- Python's == -/
def D.eqv : D → D → Bool
  | .non, .non => true
  | .bl a, .bl b => a == b
  | .bl a, .int j => (if a then 1 else 0) == j
  | .int i, .bl b => i == (if b then 1 else 0)
  | .int i, .int j => i == j
  | .str x, .str y => decide (x = y)
  | .tup xs, .tup ys => eqvL xs ys
  | .lst xs, .lst ys => eqvL xs ys
  | _, _ => false
def eqvL : List D → List D → Bool
  | [], [] => true
  | x :: xs, y :: ys => x.eqv y && eqvL xs ys
  | _, _ => false
end
theorem toS_inj {x y : S} (h : toS x = toS y) : x = y := by
  have e := congrArg (fun z : Str => z.cps.toList) h
  simpa [toS] using e
theorem toS_beq (x y : S) : (toS x == toS y) = decide (x = y) := by
  by_cases e : x = y
  · subst e; simp
  · rw [decide_eq_false e]
    exact beq_eq_false_iff_ne.mpr fun h => e (toS_inj h)
end FL
end
section
set_option Elab.async false
set_option linter.all false
set_option maxRecDepth 100000
/-! FLE: equality, sums, comparisons. -/
namespace FL
open PySem PySem.Spec PyProof.Rows L2

theorem strOk_toS {s : S} (h : okS s = true) : PyData.strOk (toS s) = true := by
  obtain ⟨h1, _⟩ := ba2 h
  unfold PyData.strOk toS
  simp only [Array.all_eq_true', List.mem_toArray]
  intro c hc
  have := List.all_eq_true.mp h1 c hc
  have := of_decide_eq_true this
  simp; omega
mutual
theorem Den.py {g : Gc} {W : Wd} : ∀ {v : V} {d : D} {n : Nat}, Den g W v d → d.sh n = true → Dp g.K W.H v (py d) ∧ (py d).canLay0 = true ∧ (py d).depth ≤ n
  | _, _, _, .non, _ => ⟨.non, by simp [FL.py, PyData.canLay0], by simp [FL.py, PyData.depth]⟩
  | _, _, _, .bl b, _ => ⟨.bl b, by simp [FL.py, PyData.canLay0], by simp [FL.py, PyData.depth]⟩
  | _, _, _, .int i, _ => ⟨.int i, by simp [FL.py, PyData.canLay0], by simp [FL.py, PyData.depth]⟩
  | _, _, _, .str s h, _ => ⟨.str _, by simp [FL.py, PyData.canLay0, strOk_toS h], by simp [FL.py, PyData.depth]⟩
  | _, _, n, .tupH h _ l, hs => by
    unfold D.sh at hs
    cases n with
    | zero => cases hs
    | succ n =>
      obtain ⟨q1, q2, q3⟩ := l.py hs
      exact ⟨by unfold FL.py; exact .tup (.inl (.inl h)) q1, by simp [FL.py, PyData.canLay0, q2], by simp [FL.py, PyData.depth]; omega⟩
  | _, _, n, .tupK h l, hs => by
    unfold D.sh at hs
    cases n with
    | zero => cases hs
    | succ n =>
      obtain ⟨q1, q2, q3⟩ := l.py hs
      exact ⟨by unfold FL.py; exact .tup (.inr h) q1, by simp [FL.py, PyData.canLay0, q2], by simp [FL.py, PyData.depth]; omega⟩
  | _, _, n, .lstH h _ l, hs => by
    unfold D.sh at hs
    cases n with
    | zero => cases hs
    | succ n =>
      obtain ⟨q1, q2, q3⟩ := l.py hs
      exact ⟨by unfold FL.py; exact .lst (.inl (.inl h)) q1, by simp [FL.py, PyData.canLay0, q2], by simp [FL.py, PyData.depth]; omega⟩
  | _, _, _, .scr _ _, hs => by unfold D.sh at hs; cases hs
  | _, _, _, .scrK _, hs => by unfold D.sh at hs; cases hs
  | _, _, _, .dic _ _ _ _, hs => by unfold D.sh at hs; cases hs
  | _, _, _, .dicF _ _ _ _, hs => by unfold D.sh at hs; cases hs
  | _, _, _, .ndic _ _ _ _ _, hs => by unfold D.sh at hs; cases hs
  | _, _, _, .obj _ _ _ _, hs => by unfold D.sh at hs; cases hs
  | _, _, _, .exn _ _ _ _ _ _ _, hs => by unfold D.sh at hs; cases hs
  | _, _, _, .ref _, hs => by unfold D.sh at hs; cases hs
theorem DenL.py {g : Gc} {W : Wd} : ∀ {vs : List V} {ds : List D} {n : Nat}, DenL g W vs ds → shL ds n = true → DpAll g.K W.H vs (pyL ds) ∧ PyData.canLayAll0 (pyL ds) = true ∧ PyData.depthAll (pyL ds) ≤ n
  | _, _, _, .nil, _ => ⟨.nil, by simp [pyL, PyData.canLayAll0], by simp [pyL, PyData.depthAll]⟩
  | _, _, n, .cons h t, hs => by
    unfold shL at hs
    obtain ⟨s1, s2⟩ := ba2 hs
    obtain ⟨p1, p2, p3⟩ := h.py s1
    obtain ⟨q1, q2, q3⟩ := t.py s2
    exact ⟨by unfold pyL; exact .cons p1 q1, by simp [pyL, PyData.canLayAll0, p2, q2], by simp [pyL, PyData.depthAll]; omega⟩
end
mutual
theorem eqv_py : ∀ (x y : D) (n m : Nat), x.sh n = true → y.sh m = true → PyData.eqv (py x) (py y) = x.eqv y
  | .tup xs, y, n, m, hx, hy => by
    unfold D.sh at hx
    cases n with
    | zero => cases hx
    | succ n =>
      cases y with
      | tup ys =>
        unfold D.sh at hy
        cases m with
        | zero => cases hy
        | succ m => simp only [py, PyData.eqv, D.eqv]; exact eqvL_py xs ys n m hx hy
      | _ => first | (unfold D.sh at hy; cases hy; done) | simp [py, PyData.eqv, D.eqv]
  | .lst xs, y, n, m, hx, hy => by
    unfold D.sh at hx
    cases n with
    | zero => cases hx
    | succ n =>
      cases y with
      | lst ys =>
        unfold D.sh at hy
        cases m with
        | zero => cases hy
        | succ m => simp only [py, PyData.eqv, D.eqv]; exact eqvL_py xs ys n m hx hy
      | _ => first | (unfold D.sh at hy; cases hy; done) | simp [py, PyData.eqv, D.eqv]
  | .non, y, n, m, _, hy => by cases y <;> first | (unfold D.sh at hy; cases hy; done) | simp [py, PyData.eqv, D.eqv]
  | .bl b, y, n, m, _, hy => by cases y <;> first | (unfold D.sh at hy; cases hy; done) | simp [py, PyData.eqv, D.eqv]
  | .int i, y, n, m, _, hy => by cases y <;> first | (unfold D.sh at hy; cases hy; done) | simp [py, PyData.eqv, D.eqv]
  | .str s, y, n, m, _, hy => by cases y <;> first | (unfold D.sh at hy; cases hy; done) | simp [py, PyData.eqv, D.eqv, toS_beq]
  | .dic _, _, _, _, hx, _ => by unfold D.sh at hx; cases hx
  | .obj _ _, _, _, _, hx, _ => by unfold D.sh at hx; cases hx
  | .exn _ _, _, _, _, hx, _ => by unfold D.sh at hx; cases hx
  | .nd _, _, _, _, hx, _ => by unfold D.sh at hx; cases hx
  | .ref _, _, _, _, hx, _ => by unfold D.sh at hx; cases hx
  | .scr _, _, _, _, hx, _ => by unfold D.sh at hx; cases hx
theorem eqvL_py : ∀ (xs ys : List D) (n m : Nat), shL xs n = true → shL ys m = true → PyData.eqvAll (pyL xs) (pyL ys) = eqvL xs ys
  | [], [], _, _, _, _ => by simp [pyL, PyData.eqvAll, eqvL]
  | [], _ :: _, _, _, _, _ => by simp [pyL, PyData.eqvAll, eqvL]
  | _ :: _, [], _, _, _, _ => by simp [pyL, PyData.eqvAll, eqvL]
  | x :: xs, y :: ys, n, m, hx, hy => by
    unfold shL at hx hy
    obtain ⟨x1, x2⟩ := ba2 hx
    obtain ⟨y1, y2⟩ := ba2 hy
    simp only [pyL, PyData.eqvAll, eqvL]
    rw [eqv_py x y n m x1 y1, eqvL_py xs ys n m x2 y2]
end
/-- a cell list read as a list -/
def rdl (d : D) (st : Store) : D := match d with
  | .ref n => match st[n]? with
    | some (.lst xs) => .lst xs
    | _ => d
  | _ => d
theorem rdl_dp {g : Gc} {W : Wd} {v : V} {d : D} {n : Nat} (s : SR g W) (h : Den g W v d) (hs : (rdl d W.st).sh n = true) : Dp g.K W.H v (py (rdl d W.st)) ∧ (py (rdl d W.st)).canLay0 = true ∧ (py (rdl d W.st)).depth ≤ n := by
  cases d with
  | ref k =>
    cases h with
    | @ref a _ ha =>
    dsimp only [rdl] at hs ⊢
    cases q : W.st[k]? with
    | none => rw [q] at hs; unfold D.sh at hs; cases hs
    | some c =>
      (try rw [q] at hs); (try rw [q])
      have ok := s.cell k a c ha q
      cases c with
      | lst xs =>
        obtain ⟨vs, h1, h2⟩ := ok
        unfold D.sh at hs
        cases n with
        | zero => cases hs
        | succ n =>
          obtain ⟨q1, q2, q3⟩ := h2.py hs
          exact ⟨by unfold py; exact .lst (SqL.of h1) q1, by simp [py, PyData.canLay0, q2], by simp [py, PyData.depth]; omega⟩
      | _ => unfold D.sh at hs; cases hs
  | _ => exact h.py hs
theorem shaped_of {d : PyData} (h : d.canLay0 = true) (h2 : d.depth ≤ 40) : SeqAt.shaped d = true := by
  unfold SeqAt.shaped
  rw [h, Bool.true_and]
  exact decide_eq_true (by omega)
def oEq (x y : D) (st : Store) : Res D := if ((rdl x st).sh 40 && (rdl y st).sh 40) = true then .ok (.bl ((rdl x st).eqv (rdl y st))) st else .no
def oNe (x y : D) (st : Store) : Res D := if ((rdl x st).sh 40 && (rdl y st).sh 40) = true then .ok (.bl (!(rdl x st).eqv (rdl y st))) st else .no
section
variable {X : Cx} {Wx : WX} {σ : L2.St} {H : Hp} {Q : VK} {x y : V}
theorem im_eq (h : f2 (gc X) Wx (fun W v d => Den (gc X) W v d) oEq x y σ H Q) : rEqD X.K x y H Q := by
  obtain ⟨W, d, e, rfl, s, h1, h2, p⟩ := h
  dsimp only [oEq] at p
  split at p
  · rename_i hs
    obtain ⟨s1, s2⟩ := ba2 hs
    obtain ⟨a1, a2, a3⟩ := rdl_dp s h1 s1
    obtain ⟨b1, b2, b3⟩ := rdl_dp s h2 s2
    refine ⟨_, _, a1, b1, shaped_of a2 a3, shaped_of b2 b3, ?_⟩
    rw [eqv_py _ _ _ _ s1 s2]
    exact p W (Ext.refl W) s rfl _ (.bl _)
  · exact p.elim
theorem im_ne (h : f2 (gc X) Wx (fun W v d => Den (gc X) W v d) oNe x y σ H Q) : rNeD X.K x y H Q := by
  obtain ⟨W, d, e, rfl, s, h1, h2, p⟩ := h
  dsimp only [oNe] at p
  split at p
  · rename_i hs
    obtain ⟨s1, s2⟩ := ba2 hs
    obtain ⟨a1, a2, a3⟩ := rdl_dp s h1 s1
    obtain ⟨b1, b2, b3⟩ := rdl_dp s h2 s2
    refine ⟨_, _, a1, b1, shaped_of a2 a3, shaped_of b2 b3, ?_⟩
    rw [eqv_py _ _ _ _ s1 s2]
    exact p W (Ext.refl W) s rfl _ (.bl _)
  · exact p.elim
end
end FL
end
section
set_option Elab.async false
set_option linter.all false
set_option maxRecDepth 100000
/-! FLF: operators, tests, displays, items. -/
namespace FL
open PySem PySem.Spec PyProof.Rows L2
abbrev BIG : Nat := 16777216
theorem big_eq : sizeLine = BIG := sizeLine_eq

abbrev rD (g : Gc) : Wd → V → D → Prop := fun W v d => Den g W v d
/-- a new frozen list, tuple -/
theorem SR.newL {g : Gc} {W : Wd} (s : SR g W) {p : Addr} (hp : W.H p = none) {vs : List V} {ds : List D} (l : DenL g W vs ds) :
    ∃ W', Ext W W' ∧ SR g W' ∧ W'.st = W.st ∧ W'.H = upd W.H p (.lst vs) ∧ Den g W' (.ref p) (.lst ds) := by
  obtain ⟨e, s', n⟩ := s.lay (o := .lst vs) hp
  exact ⟨_, e, s', rfl, rfl, .lstH upd_same n (l.mono e)⟩
theorem SR.newT {g : Gc} {W : Wd} (s : SR g W) {p : Addr} (hp : W.H p = none) {vs : List V} {ds : List D} (l : DenL g W vs ds) :
    ∃ W', Ext W W' ∧ SR g W' ∧ W'.st = W.st ∧ W'.H = upd W.H p (.tup vs) ∧ Den g W' (.ref p) (.tup ds) := by
  obtain ⟨e, s', n⟩ := s.lay (o := .tup vs) hp
  exact ⟨_, e, s', rfl, rfl, .tupH upd_same n (l.mono e)⟩
section
variable {g : Gc} {Wx : WX} {σ : L2.St} {Q : VK} {W : Wd} {vs : List V} {ds : List D}
/-- .. as an outcome -/
theorem Post.newL (s : SR g W) (l : DenL g W vs ds) (p : Post g W (wx g Wx σ) (.ok (.lst ds) W.st) fun d W' => ∀ b, Den g W' b d → Q b W'.H) : ∀ q, W.H q = none → Q (.ref q) (upd W.H q (.lst vs)) := fun q hq => by
  obtain ⟨W', e, s', h1, h2, h3⟩ := s.newL hq l
  rw [← h2]
  exact p W' e s' h1 _ h3
theorem Post.newT (s : SR g W) (l : DenL g W vs ds) (p : Post g W (wx g Wx σ) (.ok (.tup ds) W.st) fun d W' => ∀ b, Den g W' b d → Q b W'.H) : ∀ q, W.H q = none → Q (.ref q) (upd W.H q (.tup vs)) := fun q hq => by
  obtain ⟨W', e, s', h1, h2, h3⟩ := s.newT hq l
  rw [← h2]
  exact p W' e s' h1 _ h3
end

/-! ### sums -/
def oAdd (x y : D) (st : Store) : Res D := match x, y with
  | .int i, .int j => .ok (.int (i + j)) st
  | .str a, .str b => if a.length + b.length ≤ BIG then .ok (.str (a ++ b)) st else .no
  | .tup a, .tup b => if a.length + b.length ≤ BIG then .ok (.tup (a ++ b)) st else .no
  | x, y => match lsOf x st, lsOf y st with
    | some a, some b => if a.length + b.length ≤ BIG then .ok (.lst (a ++ b)) st else .no
    | _, _ => .no
def rAddA (K : PySem.W.Frag) : R2 := fun x y H Q => (rI0 (fun i j => .int (i + j)) x y H Q) ∨ (∃ i j, x = .str i ∧ y = .str j ∧ i.length + j.length ≤ sizeLine ∧ Q (.str (i ++ j)) H) ∨ rCatA K x y H Q ∨ rCat x y H Q
theorem op_addA {X : Cx} : OpR X (binaryOp .Add) (rAddA X.K) := op_add.or (op_add_str.or (op_catA.or op_cat))
theorem len_toS (s : S) : (toS s).length = s.length := by unfold toS Str.length; simp
theorem toS_app (a b : S) : toS a ++ toS b = toS (a ++ b) := by
  show (⟨a.toArray ++ b.toArray⟩ : Str) = ⟨(a ++ b).toArray⟩
  simp
theorem okS_app {a b : S} (ha : okS a = true) (hb : okS b = true) (h : a.length + b.length ≤ BIG) : okS (a ++ b) = true := by
  obtain ⟨a1, _⟩ := ba2 ha
  obtain ⟨b1, _⟩ := ba2 hb
  unfold okS
  rw [List.all_append, a1, b1]
  simp only [Bool.and_self, Bool.true_and, List.length_append]
  rw [big_eq]
  exact decide_eq_true h
section
variable {X : Cx} {Wx : WX} {σ : L2.St} {H : Hp} {Q : VK} {x y : V}
theorem im_add (h : f2 (gc X) Wx (rD (gc X)) oAdd x y σ H Q) : rAddA X.K x y H Q := by
  obtain ⟨W, d, e, rfl, s, h1, h2, p⟩ := h
  have lists : ∀ {a b : List D}, lsOf d W.st = some a → lsOf e W.st = some b → a.length + b.length ≤ BIG → Post (gc X) W (wx (gc X) Wx σ) (.ok (.lst (a ++ b)) W.st) (fun d W' => ∀ b, rD (gc X) W' b d → Q b W'.H) → rAddA X.K x y W.H Q := by
    intro a b ha hb hl p
    obtain ⟨a1, v1, rfl, b1, l1⟩ := lsOf_inv s h1 ha
    obtain ⟨a2, v2, rfl, b2, l2⟩ := lsOf_inv s h2 hb
    refine .inr (.inr (.inr ⟨_, _, _, _, rfl, rfl, b1, b2, by rw [l1.length, l2.length, big_eq]; exact hl, Post.newL s (l1.append l2) p⟩))
  have other : (match lsOf d W.st, lsOf e W.st with | some a, some b => if a.length + b.length ≤ BIG then Res.ok (D.lst (a ++ b)) W.st else Res.no | _, _ => Res.no) = oAdd d e W.st → rAddA X.K x y W.H Q := by
    intro eq
    rw [← eq] at p
    cases q1 : lsOf d W.st with
    | none => rw [q1] at p; exact p.elim
    | some a =>
      cases q2 : lsOf e W.st with
      | none => rw [q1, q2] at p; exact p.elim
      | some b =>
        rw [q1, q2] at p
        dsimp only at p
        split at p
        · rename_i hl
          exact lists q1 q2 hl p
        · exact p.elim
  cases d with
  | int i =>
    cases e with
    | int j =>
      cases h1.int_inv
      cases h2.int_inv
      exact .inl ⟨i, j, rfl, rfl, p W (Ext.refl W) s rfl _ (.int _)⟩
    | _ => exact other rfl
  | str a =>
    cases e with
    | str b =>
      obtain ⟨rfl, oa⟩ := h1.str_inv
      obtain ⟨rfl, ob⟩ := h2.str_inv
      dsimp only [oAdd] at p
      split at p
      · rename_i hl
        refine .inr (.inl ⟨_, _, rfl, rfl, by rw [len_toS, len_toS, big_eq]; exact hl, ?_⟩)
        rw [toS_app]
        exact p W (Ext.refl W) s rfl _ (.str _ (okS_app oa ob hl))
      · exact p.elim
    | _ => exact other rfl
  | tup a =>
    cases e with
    | tup b =>
      obtain ⟨a1, v1, rfl, b1, l1⟩ := h1.tup_inv
      obtain ⟨a2, v2, rfl, b2, l2⟩ := h2.tup_inv
      dsimp only [oAdd] at p
      split at p
      · rename_i hl
        refine .inr (.inr (.inl ⟨_, _, _, _, rfl, rfl, b1, b2, by rw [l1.length, l2.length, big_eq]; exact hl, fun e0 => ?_, fun n1 e0 => ?_, fun _ _ => Post.newT s (l1.append l2) p⟩))
        · subst e0
          cases l1
          exact p W (Ext.refl W) s rfl _ h2
        · subst e0
          cases l2
          rw [List.append_nil] at p
          exact p W (Ext.refl W) s rfl _ h1
      · exact p.elim
    | _ => exact other rfl
  | _ => exact other rfl

/-! ### numbers -/
def oI (f : Int → Int → Option D) (x y : D) (st : Store) : Res D := match x, y with
  | .int i, .int j => match f i j with
    | some d => .ok d st
    | none => .no
  | _, _ => .no
theorem oI_inv {f : Int → Int → Option D} (h : f2 (gc X) Wx (rD (gc X)) (oI f) x y σ H Q) : ∃ i j d, x = .int i ∧ y = .int j ∧ f i j = some d ∧ ∃ W : Wd, W.H = H ∧ ∀ v, (∀ W : Wd, Den (gc X) W v d) → Q v H := by
  obtain ⟨W, d, e, rfl, s, h1, h2, p⟩ := h
  cases d with
  | int i =>
    cases e with
    | int j =>
      cases h1.int_inv
      cases h2.int_inv
      dsimp only [oI] at p
      cases q : f i j with
      | none => rw [q] at p; exact p.elim
      | some d => rw [q] at p; exact ⟨i, j, d, rfl, rfl, q, W, rfl, fun v hv => p W (Ext.refl W) s rfl v (hv W)⟩
    | _ => exact p.elim
  | _ => exact p.elim
def oSub := oI fun i j => some (.int (i - j))
theorem im_sub (h : f2 (gc X) Wx (rD (gc X)) oSub x y σ H Q) : rI0 (fun i j => V.int (i - j)) x y H Q := by
  obtain ⟨i, j, d, rfl, rfl, e, W, rfl, q⟩ := oI_inv h
  cases e
  exact ⟨i, j, rfl, rfl, q _ fun _ => .int _⟩
def oMod := oI fun i j => if 0 < j then some (.int (i % j)) else none
theorem im_mod (h : f2 (gc X) Wx (rD (gc X)) oMod x y σ H Q) : rI (fun _ j => 0 < j) (fun i j => V.int (i % j)) x y H Q := by
  obtain ⟨i, j, d, rfl, rfl, e, W, rfl, q⟩ := oI_inv h
  split at e
  · cases e; exact ⟨i, j, rfl, rfl, by assumption, q _ fun _ => .int _⟩
  · cases e
def oDiv := oI fun i j => if 0 < j ∧ j < 1073741824 then some (.int (i / j)) else none
theorem im_div (h : f2 (gc X) Wx (rD (gc X)) oDiv x y σ H Q) : rI CDiv (fun i j => V.int (i / j)) x y H Q := by
  obtain ⟨i, j, d, rfl, rfl, e, W, rfl, q⟩ := oI_inv h
  split at e
  · cases e; exact ⟨i, j, rfl, rfl, by assumption, q _ fun _ => .int _⟩
  · cases e
def oPow := oI fun i j => if 0 ≤ j ∧ j ≤ 1000000 ∧ i.natAbs < 2 ^ 64 then some (.int (i ^ j.toNat)) else none
theorem im_pow (h : f2 (gc X) Wx (rD (gc X)) oPow x y σ H Q) : rI CPow (fun i j => V.int (i ^ j.toNat)) x y H Q := by
  obtain ⟨i, j, d, rfl, rfl, e, W, rfl, q⟩ := oI_inv h
  split at e
  · cases e; exact ⟨i, j, rfl, rfl, by assumption, q _ fun _ => .int _⟩
  · cases e
def oLt := oI fun i j => some (.bl (decide (i < j)))
theorem im_lt (h : f2 (gc X) Wx (rD (gc X)) oLt x y σ H Q) : rI0 (fun i j => V.bl (decide (i < j))) x y H Q := by
  obtain ⟨i, j, d, rfl, rfl, e, W, rfl, q⟩ := oI_inv h
  cases e
  exact ⟨i, j, rfl, rfl, q _ fun _ => .bl _⟩
def oLe := oI fun i j => some (.bl (decide (i ≤ j)))
theorem im_le (h : f2 (gc X) Wx (rD (gc X)) oLe x y σ H Q) : rI0 (fun i j => V.bl (decide (i ≤ j))) x y H Q := by
  obtain ⟨i, j, d, rfl, rfl, e, W, rfl, q⟩ := oI_inv h
  cases e
  exact ⟨i, j, rfl, rfl, q _ fun _ => .bl _⟩
def oGt := oI fun i j => some (.bl (decide (j < i)))
theorem im_gt (h : f2 (gc X) Wx (rD (gc X)) oGt x y σ H Q) : rI0 (fun i j => V.bl (decide (j < i))) x y H Q := by
  obtain ⟨i, j, d, rfl, rfl, e, W, rfl, q⟩ := oI_inv h
  cases e
  exact ⟨i, j, rfl, rfl, q _ fun _ => .bl _⟩
def oGe := oI fun i j => some (.bl (decide (j ≤ i)))
theorem im_ge (h : f2 (gc X) Wx (rD (gc X)) oGe x y σ H Q) : rI0 (fun i j => V.bl (decide (j ≤ i))) x y H Q := by
  obtain ⟨i, j, d, rfl, rfl, e, W, rfl, q⟩ := oI_inv h
  cases e
  exact ⟨i, j, rfl, rfl, q _ fun _ => .bl _⟩
/-- products: of ints, a list or tuple by an int -/
def oMul (x y : D) (st : Store) : Res D := match x, y with
  | .int i, .int j => if (-(2 ^ 64) < i ∧ i < 2 ^ 64) ∨ (-(2 ^ 64) < j ∧ j < 2 ^ 64) then .ok (.int (i * j)) st else .no
  | .tup xs, .int k => if 0 ≤ k ∧ k < 2 ^ 63 ∧ xs.length * k.toNat ≤ BIG then .ok (.tup (List.replicate k.toNat xs).flatten) st else .no
  | x, .int k => match lsOf x st with
    | some xs => if 0 ≤ k ∧ k < 2 ^ 63 ∧ xs.length * k.toNat ≤ BIG then .ok (.lst (List.replicate k.toNat xs).flatten) st else .no
    | none => .no
  | _, _ => .no
end

/-! ### is None -/
def oIsN (neg : Bool) (x : D) (st : Store) : Res D := match x with
  | .non => .ok (.bl (!neg)) st
  | _ => .ok (.bl neg) st
theorem Den.ne_non {g : Gc} {W : Wd} {v : V} {d : D} (h : Den g W v d) : (d = .non ↔ v = .non) := by
  cases h <;> simp
/-! ### operators as terms -/
section
variable {X : Cx} {Wx : WX} {pos : Pos} {a b c : Expr} {ma mb mc : Me}
theorem e_op {op : Operator} {r : R2} {k : D → D → Store → Res D} (ho : OpR X (binaryOp op) r) (im : ∀ {σ : L2.St} {H : Hp} {Q : VK} {x y : V}, f2 (gc X) Wx (rD (gc X)) k x y σ H Q → r x y H Q)
    (ha : PE X a (fE (gc X) Wx ma)) (hb : PE X b (fE (gc X) Wx mb)) : PE X (.BinOp a op b pos) (fE (gc X) Wx (a2 k ma mb)) :=
  PE.imp (pe_op ho ha hb) fun σ H Q h => by
    show fE (gc X) Wx ma σ H fun x H1 => fE (gc X) Wx mb σ H1 fun y H2 => r x y H2 Q
    exact fG_mono (lift2 h) fun v H' hq => fG_mono hq fun v2 H2 hq2 => im hq2
end
end FL
end
section
set_option Elab.async false
set_option linter.all false
set_option maxRecDepth 100000
/-! FLG: tests, and, or, displays, items, slices. -/
namespace FL
open PySem PySem.Spec PyProof.Rows L2

/-! ### branching -/
section
variable {g : Gc} {Wx : WX} {α β : Type} {R : Wd → β → α → Prop} {σ : L2.St} {H : Hp} {Q : β → Hp → Prop}
theorem liftT {t : Mt} {k : Bool → En → Store → Res α} (h : fG g Wx R (fun e st => (t e st).bind fun b st1 => k b e st1) σ H Q) : fT g Wx t σ H fun b H1 => fG g Wx R (k b) σ H1 Q := by
  obtain ⟨W, env, rfl, s, r, p⟩ := h
  refine ⟨W, env, rfl, s, r, ?_⟩
  dsimp only at p
  cases q : t env W.st with
  | ok d st1 =>
    rw [q] at p
    exact fun W1 e1 s1 hs b hb => ⟨W1, env, rfl, s1, r.mono e1, by rw [hs]; subst hb; exact Post.ext p e1⟩
  | exc x st1 => rw [q] at p; exact p
  | no => rw [q] at p; exact p
/-- by the first value's kind -/
theorem lift2_or {c : D → Bool} {k : D → D → Store → Res α} {m n : Me} (h : fG g Wx R (a2 k m n) σ H Q) :
    fG g Wx R (a2 (fun d e st => if c d = true then k d e st else .no) m n) σ H Q ∨ fG g Wx R (a2 (fun d e st => if c d = true then .no else k d e st) m n) σ H Q := by
  obtain ⟨W, env, rfl, s, r, p⟩ := h
  dsimp only [a2] at p
  cases q : m env W.st with
  | ok d st1 =>
    rw [q] at p
    by_cases hc : c d = true
    · refine .inl ⟨W, env, rfl, s, r, ?_⟩
      dsimp only [a2]
      rw [q]
      simp only [Res.bind, if_pos hc] at p ⊢
      exact p
    · refine .inr ⟨W, env, rfl, s, r, ?_⟩
      dsimp only [a2]
      rw [q]
      simp only [Res.bind, if_neg hc] at p ⊢
      exact p
  | exc x st1 =>
    refine .inl ⟨W, env, rfl, s, r, ?_⟩
    dsimp only [a2]
    rw [q] at p ⊢
    exact p
  | no => rw [q] at p; exact p.elim
theorem fG_ok {m : En → Store → Res α} {b : β} (h : fG g Wx R m σ H Q) (hb : ∀ W a st, W.H = H → SR g W → (∃ env, EnvR g W σ env ∧ m env W.st = .ok a st) → st = W.st ∧ R W b a) (hn : ∀ env st, ∃ a st', m env st = .ok a st') : Q b H := by
  obtain ⟨W, env, rfl, s, r, p⟩ := h
  obtain ⟨a, st', e⟩ := hn env W.st
  obtain ⟨h1, h2⟩ := hb W a st' rfl s ⟨env, r, e⟩
  rw [e] at p
  exact p W (Ext.refl W) s h1.symm b h2
end
theorem PE.or {X : Cx} {e : Expr} {t t' : TE} (h : PE X e t) (h' : PE X e t') : PE X e fun σ H Q => t σ H Q ∨ t' σ H Q := ⟨fun pins s σ H Q I q => q.elim (h.run pins s σ H Q I) (h'.run pins s σ H Q I)⟩
theorem PS.or {X : Cx} {e : Stmt} {t t' : TS} (h : PS X e t) (h' : PS X e t') : PS X e fun D σ H => t D σ H ∨ t' D σ H := ⟨fun pins s σ H D I q => q.elim (h.run pins s σ H D I) (h'.run pins s σ H D I)⟩
theorem PS.ex {X : Cx} {ι : Type} {e : Stmt} {t : ι → TS} (h : ∀ i, PS X e (t i)) : PS X e fun D σ H => ∃ i, t i D σ H := ⟨fun pins s σ H D I q => q.elim fun i hi => (h i).run pins s σ H D I hi⟩

/-! ### tests -/
def toB (d : D) (st : Store) : Res Bool := match d with
  | .bl b => .ok b st
  | _ => .no
def tB (m : Me) : Mt := a1 toB m
def toTr (d : D) (st : Store) : Res Bool := match d with
  | .non => .ok false st
  | .bl b => .ok b st
  | .int i => .ok (i != 0) st
  | .str s => .ok (!s.isEmpty) st
  | d => match sqOf d st with
    | some xs => .ok (!xs.isEmpty) st
    | none => .no
abbrev rB : Wd → Bool → Bool → Prop := fun _ b b' => b = b'
section
variable {X : Cx} {Wx : WX} {pos : Pos} {a b c : Expr} {ma mb mc : Me} {ta tb : Mt} {rest : List Expr}
theorem im_toB {σ : L2.St} {H : Hp} {Q : Bool → Hp → Prop} {x : V} (h : f1 (gc X) Wx rB toB x σ H Q) : ∃ k, x = .bl k ∧ Q k H := by
  obtain ⟨W, d, rfl, s, h1, p⟩ := h
  cases d with
  | bl k =>
    cases h1.bl_inv
    exact ⟨k, rfl, p W (Ext.refl W) s rfl k rfl⟩
  | _ => exact p.elim
theorem isE {vs : List V} {ds : List D} {g : Gc} {W : Wd} (l : DenL g W vs ds) : vs.isEmpty = ds.isEmpty := by cases l <;> rfl
theorem im_toTr {σ : L2.St} {H : Hp} {Q : Bool → Hp → Prop} {x : V} (h : f1 (gc X) Wx rB toTr x σ H Q) : ∃ k, TruV X.K x H k ∧ Q k H := by
  obtain ⟨W, d, rfl, s, h1, p⟩ := h
  have seqs : (match sqOf d W.st with | some xs => Res.ok (!xs.isEmpty) W.st | none => Res.no) = toTr d W.st → ∃ k, TruV X.K x W.H k ∧ Q k W.H := fun e => by
    rw [← e] at p
    cases q : sqOf d W.st with
    | none => rw [q] at p; exact p.elim
    | some xs =>
      rw [q] at p
      obtain ⟨a, vs, rfl, hq, l⟩ := sqOf_inv s h1 q
      refine ⟨!xs.isEmpty, ?_, p W (Ext.refl W) s rfl _ rfl⟩
      rw [← isE l]
      rcases hq with hq | hq
      · exact .inl ⟨vs, hq, rfl⟩
      · exact .inr (.inl ⟨vs, hq, rfl⟩)
  cases d with
  | non => cases h1.non_inv; exact ⟨false, rfl, p W (Ext.refl W) s rfl _ rfl⟩
  | bl k => cases h1.bl_inv; exact ⟨k, rfl, p W (Ext.refl W) s rfl _ rfl⟩
  | int k => cases h1.int_inv; exact ⟨_, rfl, p W (Ext.refl W) s rfl _ rfl⟩
  | str z =>
    obtain ⟨rfl, oz⟩ := h1.str_inv
    refine ⟨!z.isEmpty, ⟨by rw [len_toS]; exact of_decide_eq_true (ba2 oz).2, ?_⟩, p W (Ext.refl W) s rfl _ rfl⟩
    rw [len_toS]
    cases z <;> simp
    omega
  | _ => exact seqs rfl
theorem t_val {e : Expr} {m : Me} (h : PE X e (fE (gc X) Wx m)) (he : ∀ whole, isTrue e X.env whole = (do let v ← whole; standAt e.pos; holding [v] (truthy v)) := by intro _; rfl) : PT X e (fT (gc X) Wx (tB m)) :=
  PT.imp (pt_val h he) fun σ H Q h => fG_mono (lift1 h) fun v H' q => im_toB q
theorem t_tru {e : Expr} {m : Me} (h : PE X e (fE (gc X) Wx m)) (he : ∀ whole, isTrue e X.env whole = (do let v ← whole; standAt e.pos; holding [v] (truthy v)) := by intro _; rfl) : PT X e (fT (gc X) Wx (a1 toTr m)) :=
  PT.imp (pt_truth h he) fun σ H Q h => fG_mono (lift1 h) fun v H' q => im_toTr q
/-! comparisons -/
theorem e_cmp {op : CmpOp} {r : R2} {k : D → D → Store → Res D} (ho : OpR X (compareOp op) r) (im : ∀ {σ : L2.St} {H : Hp} {Q : VK} {x y : V}, f2 (gc X) Wx (rD (gc X)) k x y σ H Q → r x y H Q)
    (ha : PE X a (fE (gc X) Wx ma)) (hb : PE X b (fE (gc X) Wx mb)) (hm : behindInMarks op b = false := by first | exact nomark _ | rfl) : PE X (.Compare a [op] [b] pos) (fE (gc X) Wx (a2 k ma mb)) :=
  PE.imp (pe_cmpR ho ha hb hm) fun σ H Q h => by
    show fE (gc X) Wx ma σ H fun x H1 => fE (gc X) Wx mb σ H1 fun y H2 => r x y H2 Q
    exact fG_mono (lift2 h) fun v H' hq => fG_mono hq fun v2 H2 hq2 => im hq2
/-- the answer of a two-place function, as a test -/
theorem lift2B {σ : L2.St} {H : Hp} {Q : Bool → Hp → Prop} {k : D → D → Store → Res D} (h : fT (gc X) Wx (tB (a2 k ma mb)) σ H Q) :
    fE (gc X) Wx ma σ H fun x H1 => fE (gc X) Wx mb σ H1 fun y H2 => f2 (gc X) Wx (rD (gc X)) k x y σ H2 fun z H3 => ∃ k, z = .bl k ∧ Q k H3 := by
  have h1 : fE (gc X) Wx (a2 k ma mb) σ H fun z H3 => ∃ k, z = .bl k ∧ Q k H3 := fG_mono (lift1 h) fun v H' q => im_toB q
  exact lift2 h1
theorem t_cmp {op : CmpOp} {r : R2} {k : D → D → Store → Res D} (ho : OpR X (compareOp op) r) (im : ∀ {σ : L2.St} {H : Hp} {Q : VK} {x y : V}, f2 (gc X) Wx (rD (gc X)) k x y σ H Q → r x y H Q)
    (ha : PE X a (fE (gc X) Wx ma)) (hb : PE X b (fE (gc X) Wx mb)) (hm : behindInMarks op b = false := by first | exact nomark _ | rfl) : PT X (.Compare a [op] [b] pos) (fT (gc X) Wx (tB (a2 k ma mb))) :=
  PT.imp (pt_cmpR ho ha hb hm) fun σ H Q h => by
    show fE (gc X) Wx ma σ H fun x H1 => fE (gc X) Wx mb σ H1 fun y H2 => r x y H2 fun z H3 => ∃ k, z = .bl k ∧ Q k H3
    exact fG_mono (lift2B h) fun v H' hq => fG_mono hq fun v2 H2 hq2 => im hq2
/-! is None -/
theorem im_isN {σ : L2.St} {H : Hp} {Q : VK} {x : V} (h : f1 (gc X) Wx (rD (gc X)) (oIsN false) x σ H Q) : Q (.bl (decide (x = .non))) H := by
  obtain ⟨W, d, rfl, s, h1, p⟩ := h
  have e := h1.ne_non
  cases d with
  | non => rw [decide_eq_true (e.mp rfl)]; exact p W (Ext.refl W) s rfl _ (.bl _)
  | _ => rw [decide_eq_false fun q => by have := e.mpr q; cases this]; exact p W (Ext.refl W) s rfl _ (.bl _)
theorem im_notN {σ : L2.St} {H : Hp} {Q : VK} {x : V} (h : f1 (gc X) Wx (rD (gc X)) (oIsN true) x σ H Q) : Q (.bl (!decide (x = .non))) H := by
  obtain ⟨W, d, rfl, s, h1, p⟩ := h
  have e := h1.ne_non
  cases d with
  | non => rw [decide_eq_true (e.mp rfl)]; exact p W (Ext.refl W) s rfl _ (.bl _)
  | _ => rw [decide_eq_false fun q => by have := e.mpr q; cases this]; exact p W (Ext.refl W) s rfl _ (.bl _)
theorem e_isN {j p2} (ha : PE X a (fE (gc X) Wx ma)) : PE X (.Compare a [.Is] [.Constant .none j p2] pos) (fE (gc X) Wx (a1 (oIsN false) ma)) :=
  PE.imp (pe_cmpR op_isN ha pe_non (nomark _)) fun σ H Q h => by
    show fE (gc X) Wx ma σ H fun x H1 => _ ∧ _
    exact fG_mono (lift1 h) fun v H' q => ⟨rfl, im_isN q⟩
theorem e_notN {j p2} (ha : PE X a (fE (gc X) Wx ma)) : PE X (.Compare a [.IsNot] [.Constant .none j p2] pos) (fE (gc X) Wx (a1 (oIsN true) ma)) :=
  PE.imp (pe_cmpR op_notN ha pe_non (nomark _)) fun σ H Q h => by
    show fE (gc X) Wx ma σ H fun x H1 => _ ∧ _
    exact fG_mono (lift1 h) fun v H' q => ⟨rfl, im_notN q⟩
theorem lift1B {σ : L2.St} {H : Hp} {Q : Bool → Hp → Prop} {k : D → Store → Res D} (h : fT (gc X) Wx (tB (a1 k ma)) σ H Q) :
    fE (gc X) Wx ma σ H fun x H1 => f1 (gc X) Wx (rD (gc X)) k x σ H1 fun z H3 => ∃ k, z = .bl k ∧ Q k H3 := by
  have h1 : fE (gc X) Wx (a1 k ma) σ H fun z H3 => ∃ k, z = .bl k ∧ Q k H3 := fG_mono (lift1 h) fun v H' q => im_toB q
  exact lift1 h1
theorem t_isN {j p2} (ha : PE X a (fE (gc X) Wx ma)) : PT X (.Compare a [.Is] [.Constant .none j p2] pos) (fT (gc X) Wx (tB (a1 (oIsN false) ma))) :=
  PT.imp (pt_cmpR op_isN ha pe_non (nomark _)) fun σ H Q h => by
    dsimp only [tTest, tOp, tC]
    exact fG_mono (lift1B h) fun v H' q => ⟨rfl, im_isN q⟩
theorem t_notN {j p2} (ha : PE X a (fE (gc X) Wx ma)) : PT X (.Compare a [.IsNot] [.Constant .none j p2] pos) (fT (gc X) Wx (tB (a1 (oIsN true) ma))) :=
  PT.imp (pt_cmpR op_notN ha pe_non (nomark _)) fun σ H Q h => by
    dsimp only [tTest, tOp, tC]
    exact fG_mono (lift1B h) fun v H' q => ⟨rfl, im_notN q⟩
/-! and, or, not -/
def tAn (t u : Mt) : Mt := fun e st => (t e st).bind fun b st1 => if b = true then u e st1 else .ok false st1
def tO (t u : Mt) : Mt := fun e st => (t e st).bind fun b st1 => if b = true then .ok true st1 else u e st1
def tN (t : Mt) : Mt := fun e st => (t e st).bind fun b st1 => .ok (!b) st1
theorem fT_ok {σ : L2.St} {H : Hp} {Q : Bool → Hp → Prop} {k : Bool} (h : fT (gc X) Wx (fun _ st => .ok k st) σ H Q) : Q k H := by
  obtain ⟨W, env, rfl, s, r, p⟩ := h
  exact p W (Ext.refl W) s rfl k rfl
theorem fE_ok {σ : L2.St} {H : Hp} {Q : VK} {v : V} {d : D} (h : fE (gc X) Wx (fun _ st => .ok d st) σ H Q) (hv : ∀ W, Den (gc X) W v d) : Q v H := by
  obtain ⟨W, env, rfl, s, r, p⟩ := h
  exact p W (Ext.refl W) s rfl v (hv W)
theorem w_and1 (h : PT X a (fT (gc X) Wx ta)) : PW X (.BoolOp .And [a] pos) (fT (gc X) Wx ta) := pw_and1 h
theorem w_or1 (h : PT X a (fT (gc X) Wx ta)) : PW X (.BoolOp .Or [a] pos) (fT (gc X) Wx ta) := pw_or1 h
theorem w_and (ha : PT X a (fT (gc X) Wx ta)) (hb : PW X (.BoolOp .And (b :: rest) pos) (fT (gc X) Wx tb)) : PW X (.BoolOp .And (a :: b :: rest) pos) (fT (gc X) Wx (tAn ta tb)) :=
  PW.imp (pw_and ha hb) fun σ H Q h => by
    show fT (gc X) Wx ta σ H fun c H1 => if c = true then fT (gc X) Wx tb σ H1 Q else Q false H1
    refine fG_mono (liftT h) fun c H' q => ?_
    cases c with
    | true => rw [if_pos rfl]; simpa using q
    | false => rw [if_neg Bool.false_ne_true]; exact fT_ok (by simpa using q)
theorem w_or (ha : PT X a (fT (gc X) Wx ta)) (hb : PW X (.BoolOp .Or (b :: rest) pos) (fT (gc X) Wx tb)) : PW X (.BoolOp .Or (a :: b :: rest) pos) (fT (gc X) Wx (tO ta tb)) :=
  PW.imp (pw_or ha hb) fun σ H Q h => by
    show fT (gc X) Wx ta σ H fun c H1 => if c = true then Q true H1 else fT (gc X) Wx tb σ H1 Q
    refine fG_mono (liftT h) fun c H' q => ?_
    cases c with
    | true => rw [if_pos rfl]; exact fT_ok (by simpa using q)
    | false => rw [if_neg Bool.false_ne_true]; simpa using q
theorem t_not (ha : PT X a (fT (gc X) Wx ta)) : PT X (.UnaryOp .Not a pos) (fT (gc X) Wx (tN ta)) :=
  PT.imp (pt_not ha) fun σ H Q h => by
    show fT (gc X) Wx ta σ H fun c H1 => Q (!c) H1
    exact fG_mono (liftT h) fun c H' q => fT_ok q
/-- as values: all but the last are bools -/
def mAn (m n : Me) : Me := fun e st => (tB m e st).bind fun b st1 => if b = true then n e st1 else .ok (.bl false) st1
def mO (m n : Me) : Me := fun e st => (tB m e st).bind fun b st1 => if b = true then .ok (.bl true) st1 else n e st1
def mN (m : Me) : Me := fun e st => (tB m e st).bind fun b st1 => .ok (.bl (!b)) st1
def mOT (m n : Me) : Me := fun e st => (m e st).bind fun d st1 => (toTr d st1).bind fun b st2 => if b = true then .ok d st2 else n e st2
theorem e_one {op} {m : Me} (h : PE X a (fE (gc X) Wx m)) : PE X (.BoolOp op [a] pos) (fE (gc X) Wx m) := pe_one h
theorem liftB {σ : L2.St} {H : Hp} {α β : Type} {R : Wd → β → α → Prop} {Q : β → Hp → Prop} {k : Bool → En → Store → Res α} (h : fG (gc X) Wx R (fun e st => (tB ma e st).bind fun b st1 => k b e st1) σ H Q) :
    fE (gc X) Wx ma σ H fun x H1 => ∃ c, x = .bl c ∧ fG (gc X) Wx R (k c) σ H1 Q := fG_mono (lift1 (liftT h)) fun v H' q => im_toB q
theorem e_and (ha : PE X a (fE (gc X) Wx ma)) (hb : PE X (.BoolOp .And (b :: rest) pos) (fE (gc X) Wx mb)) : PE X (.BoolOp .And (a :: b :: rest) pos) (fE (gc X) Wx (mAn ma mb)) :=
  PE.imp (pe_and ha hb) fun σ H Q h => by
    dsimp only [tAndV]
    refine fG_mono (liftB h) fun x H' ⟨c, e, q⟩ => ⟨c, e, ?_⟩
    cases c with
    | true => rw [if_pos rfl]; simpa using q
    | false => rw [if_neg Bool.false_ne_true]; exact fE_ok (by simpa using q) fun _ => .bl false
theorem e_or (ha : PE X a (fE (gc X) Wx ma)) (hb : PE X (.BoolOp .Or (b :: rest) pos) (fE (gc X) Wx mb)) : PE X (.BoolOp .Or (a :: b :: rest) pos) (fE (gc X) Wx (mO ma mb)) :=
  PE.imp (pe_or ha hb) fun σ H Q h => by
    dsimp only [tOrV]
    refine fG_mono (liftB h) fun x H' ⟨c, e, q⟩ => ⟨c, e, ?_⟩
    cases c with
    | true => rw [if_pos rfl]; exact fE_ok (by simpa using q) fun _ => .bl true
    | false => rw [if_neg Bool.false_ne_true]; simpa using q
theorem e_not (ha : PE X a (fE (gc X) Wx ma)) : PE X (.UnaryOp .Not a pos) (fE (gc X) Wx (mN ma)) :=
  PE.imp (pe_not ha) fun σ H Q h => by
    dsimp only [tNotV]
    exact fG_mono (liftB h) fun x H' ⟨c, e, q⟩ => ⟨c, e, fE_ok q fun _ => .bl _⟩
def mIf (t : Mt) (m n : Me) : Me := fun e st => (t e st).bind fun b st1 => if b = true then m e st1 else n e st1
theorem e_if {tc : Mt} (hc : PT X c (fT (gc X) Wx tc)) (ha : PE X a (fE (gc X) Wx ma)) (hb : PE X b (fE (gc X) Wx mb)) : PE X (.IfExp c a b pos) (fE (gc X) Wx (mIf tc ma mb)) :=
  PE.imp (pe_ifExp hc ha hb) fun σ H Q h => by
    show fT (gc X) Wx tc σ H fun c H1 => if c = true then fE (gc X) Wx ma σ H1 Q else fE (gc X) Wx mb σ H1 Q
    refine fG_mono (liftT h) fun c H' q => ?_
    cases c with
    | true => rw [if_pos rfl]; simpa using q
    | false => rw [if_neg Bool.false_ne_true]; simpa using q
end
end FL
end
section
set_option Elab.async false
set_option linter.all false
set_option maxRecDepth 100000
/-! FLH: displays, items, slices, in; built-ins by name. -/
namespace FL
open PySem PySem.Spec PyProof.Rows L2

/-! ### argument lists -/
def mNil : Ma := fun _ st => .ok [] st
def mCons (m : Me) (r : Ma) : Ma := fun e st => (m e st).bind fun d st1 => (r e st1).bind fun ds st2 => .ok (d :: ds) st2
def mStar (m : Me) (r : Ma) : Ma := fun e st => (m e st).bind fun d st1 => match sqOf d st1 with
  | some xs => (r e st1).bind fun ds st2 => .ok (xs ++ ds) st2
  | none => .no
abbrev rL (g : Gc) : Wd → List V → List D → Prop := fun W vs ds => DenL g W vs ds
section
variable {X : Cx} {Wx : WX} {pos : Pos} {e : Expr} {es : List Expr} {m : Me} {r : Ma}
theorem a_nil : PA X [] (fA (gc X) Wx mNil) := PA.imp pa_nil fun σ H Q h => by
  obtain ⟨W, env, rfl, s, r, p⟩ := h
  exact p W (Ext.refl W) s rfl [] .nil
theorem a_cons (ha : PE X e (fE (gc X) Wx m)) (hr : PA X es (fA (gc X) Wx r)) (hs : starEach (e :: es) X.env = (false, eval e X.env) :: starEach es X.env := by rfl) : PA X (e :: es) (fA (gc X) Wx (mCons m r)) :=
  PA.imp (pa_cons ha hr hs) fun σ H Q h => by
    show fE (gc X) Wx m σ H fun x H1 => fA (gc X) Wx r σ H1 fun xs H2 => Q (x :: xs) H2
    have h2 : fV (gc X) Wx (fun W vs ds => DenL (gc X) W vs ds) [] (fun ds e st => (m e st).bind fun d st1 => (fun ds e st => (r e st).bind fun ys st2 => Res.ok (ds ++ ys) st2) (ds ++ [d]) e st1) σ H Q := by
      obtain ⟨W, env, rfl, s, rr, p⟩ := h
      exact ⟨W, env, [], rfl, s, rr, .nil, p⟩
    refine fG_mono (fV.step (k := fun ds e st => (r e st).bind fun ys st2 => Res.ok (ds ++ ys) st2) h2) fun x H' q => ?_
    obtain ⟨W, env, ds, rfl, s, rr, l, p⟩ := q
    refine ⟨W, env, rfl, s, rr, ?_⟩
    dsimp only at p
    cases q : r env W.st with
    | ok ys st1 =>
      rw [q] at p
      refine fun W1 e1 s1 hs1 ws hw => ?_
      have l1 : DenL (gc X) W1 ([x] ++ ws) (ds ++ ys) := (l.mono e1).append hw
      exact Post.ext p e1 W1 (Ext.refl W1) s1 hs1 _ l1
    | exc x st1 => rw [q] at p; exact p
    | no => rw [q] at p; exact p
theorem a_star {p2 : Pos} (ha : PE X e (fE (gc X) Wx m)) (hr : PA X es (fA (gc X) Wx r)) (hs : starEach (.Starred e p2 :: es) X.env = (true, eval e X.env) :: starEach es X.env := by rfl) : PA X (.Starred e p2 :: es) (fA (gc X) Wx (mStar m r)) :=
  PA.imp (StX.pa_star ha hr hs) fun σ H Q h => by
    obtain ⟨W, env, rfl, s, rr, p⟩ := h
    refine ⟨W, env, rfl, s, rr, ?_⟩
    dsimp only [mStar] at p
    cases q : m env W.st with
    | ok d st1 =>
      rw [q] at p
      refine fun W1 e1 s1 hs1 v hv => ?_
      dsimp only [Res.bind] at p
      cases q2 : sqOf d st1 with
      | none => rw [q2] at p; exact p.elim
      | some xs =>
        rw [q2] at p
        rw [← hs1] at q2
        obtain ⟨a, vs, rfl, hq, l⟩ := sqOf_inv s1 hv q2
        refine ⟨a, vs, rfl, hq.symm, W1, env, rfl, s1, rr.mono e1, ?_⟩
        rw [hs1]
        cases q3 : r env st1 with
        | ok ys st2 =>
          rw [q3] at p
          exact fun W2 e2 s2 hs2 ws hw => Post.ext p (e1.trans e2) W2 (Ext.refl W2) s2 hs2 _ ((l.mono e2).append hw)
        | exc x st2 => rw [q3] at p; exact Post.ext p e1
        | no => rw [q3] at p; exact p
    | exc x st1 => rw [q] at p; exact p
    | no => rw [q] at p; exact p
end
/-- values of an argument list at hand -/
def fL {α β : Type} (g : Gc) (Wx : WX) (R : Wd → β → α → Prop) (k : List D → Store → Res α) (vs : List V) : L2.St → Hp → (β → Hp → Prop) → Prop := fun σ H Q =>
  ∃ (W : Wd) (ds : List D), W.H = H ∧ SR g W ∧ DenL g W vs ds ∧ Post g W (wx g Wx σ) (k ds W.st) fun d W' => ∀ b, R W' b d → Q b W'.H
def aL {α : Type} (k : List D → Store → Res α) (m : Ma) : En → Store → Res α := fun e st => (m e st).bind k
theorem liftL {α β : Type} {g : Gc} {Wx : WX} {R : Wd → β → α → Prop} {σ : L2.St} {H : Hp} {Q : β → Hp → Prop} {k : List D → Store → Res α} {m : Ma} (h : fG g Wx R (aL k m) σ H Q) : fA g Wx m σ H fun xs H1 => fL g Wx R k xs σ H1 Q := by
  obtain ⟨W, env, rfl, s, r, p⟩ := h
  refine ⟨W, env, rfl, s, r, ?_⟩
  dsimp only [aL] at p
  cases q : m env W.st with
  | ok d st1 =>
    rw [q] at p
    exact fun W1 e1 s1 hs v hv => ⟨W1, d, rfl, s1, hv, by rw [hs]; exact Post.ext p e1⟩
  | exc x st1 => rw [q] at p; exact p
  | no => rw [q] at p; exact p
/-! ### displays -/
def oTup (ds : List D) (st : Store) : Res D := if ds.length ≤ BIG then .ok (.tup ds) st else .no
def oLst (ds : List D) (st : Store) : Res D := if ds.length ≤ BIG then .ok (.lst ds) st else .no
/-- a list that will change -/
def oLstC (ds : List D) (st : Store) : Res D := if ds.length ≤ BIG then .ok (.ref st.length) (st ++ [.lst ds]) else .no
theorem SR.newC {g : Gc} {W : Wd} (s : SR g W) {p : Addr} (hp : W.H p = none) {vs : List V} {ds : List D} (l : DenL g W vs ds) :
    ∃ W', Ext W W' ∧ SR g W' ∧ W'.st = W.st ++ [.lst ds] ∧ W'.H = upd W.H p (.lst vs) ∧ Den g W' (.ref p) (.ref W.st.length) := by
  obtain ⟨e, s'⟩ := s.cellNew (o := .lst vs) (c := .lst ds) hp fun W' e' h => ⟨vs, h, l.mono e'⟩
  refine ⟨_, e, s', rfl, rfl, .ref ?_⟩
  show (W.cs ++ [p])[W.st.length]? = some p
  rw [← s.len]; simp
section
variable {X : Cx} {Wx : WX} {pos : Pos} {a b c : Expr} {es : List Expr} {ma mb mc : Me} {m : Ma}
theorem e_tup {x1} (h : PA X es (fA (gc X) Wx m)) : PE X (.Tuple es x1 pos) (fE (gc X) Wx (aL oTup m)) :=
  PE.imp (pe_tup h) fun σ H Q h => by
    dsimp only [tTup]
    refine fG_mono (liftL h) fun vs H' ⟨W, ds, e, s, l, p⟩ => ?_
    subst e
    dsimp only [oTup] at p
    split at p
    · exact ⟨by rw [l.length, big_eq]; assumption, Post.newT s l p⟩
    · exact p.elim
theorem e_lst (h : PA X es (fA (gc X) Wx m)) : PE X (.List es pos) (fE (gc X) Wx (aL oLst m)) :=
  PE.imp (pe_lst h) fun σ H Q h => by
    dsimp only [tLst]
    refine fG_mono (liftL h) fun vs H' ⟨W, ds, e, s, l, p⟩ => ?_
    subst e
    dsimp only [oLst] at p
    split at p
    · exact ⟨by rw [l.length, big_eq]; assumption, Post.newL s l p⟩
    · exact p.elim
theorem e_lstC (h : PA X es (fA (gc X) Wx m)) : PE X (.List es pos) (fE (gc X) Wx (aL oLstC m)) :=
  PE.imp (pe_lst h) fun σ H Q h => by
    dsimp only [tLst]
    refine fG_mono (liftL h) fun vs H' ⟨W, ds, e, s, l, p⟩ => ?_
    subst e
    dsimp only [oLstC] at p
    split at p
    · refine ⟨by rw [l.length, big_eq]; assumption, fun q hq => ?_⟩
      obtain ⟨W', e, s', h1, h2, h3⟩ := s.newC hq l
      rw [← h2]
      exact p W' e s' h1 _ h3
    · exact p.elim
/-! ### items -/
def atD (xs : List D) (i : Int) : Option D := atI xs i
def oAt (xs : List D) (i : Int) (st : Store) : Res D := match atI xs i with
  | some d => .ok d st
  | none => .no
def oAtS (s : S) (i : Int) (st : Store) : Res D := match atI s i with
  | some c => .ok (.str [c]) st
  | none => .no
def onSq (d : D) (st : Store) (k : List D → Res D) : Res D := match sqOf d st with
  | some xs => k xs
  | none => .no
def onLs (d : D) (st : Store) (k : List D → Res D) : Res D := match lsOf d st with
  | some xs => k xs
  | none => .no
def oIx (x y : D) (st : Store) : Res D := match x, y with
  | .str s, .int i => oAtS s i st
  | x, .int i => onSq x st fun xs => oAt xs i st
  | _, _ => .no
theorem atI_den {g : Gc} {W : Wd} {vs : List V} {ds : List D} {i : Int} {d : D} (l : DenL g W vs ds) (h : atI ds i = some d) : ∃ v, atI vs i = some v ∧ Den g W v d := by
  unfold atI at h ⊢
  rw [l.length]
  cases q : ixN ds.length i with
  | none => rw [q] at h; cases h
  | some j => rw [q] at h; exact l.getD' h
theorem okS_of {s t : S} (h : okS s = true) (h1 : ∀ c ∈ t, c ∈ s) (h2 : t.length ≤ s.length) : okS t = true := by
  obtain ⟨a, b⟩ := ba2 h
  unfold okS
  rw [Bool.and_eq_true]
  refine ⟨List.all_eq_true.mpr fun c hc => List.all_eq_true.mp a c (h1 c hc), decide_eq_true ?_⟩
  have := of_decide_eq_true b
  omega
theorem im_ix {σ : L2.St} {H : Hp} {Q : VK} {x y : V} (h : f2 (gc X) Wx (rD (gc X)) oIx x y σ H Q) : rIx X.K x y H Q := by
  obtain ⟨W, d, e, rfl, s, h1, h2, p⟩ := h
  cases e with
  | int i =>
    cases h2.int_inv
    have seqs : (onSq d W.st fun xs => oAt xs i W.st) = oIx d (.int i) W.st → rIx X.K x (.int i) W.H Q := fun e => by
      rw [← e] at p
      unfold onSq at p
      cases q : sqOf d W.st with
      | none => rw [q] at p; exact p.elim
      | some xs =>
        rw [q] at p
        obtain ⟨a, vs, rfl, hq, l⟩ := sqOf_inv s h1 q
        dsimp only [oAt] at p
        cases q2 : atI xs i with
        | none => rw [q2] at p; exact p.elim
        | some d' =>
          rw [q2] at p
          obtain ⟨v, hv, hd⟩ := atI_den l q2
          have fin := p W (Ext.refl W) s rfl v hd
          rcases hq with hq | hq
          · exact .inl ⟨a, vs, i, v, rfl, rfl, hq, hv, fin⟩
          · exact .inr (.inl ⟨a, vs, i, v, rfl, rfl, hq, hv, fin⟩)
    cases d with
    | str z =>
      obtain ⟨rfl, oz⟩ := h1.str_inv
      dsimp only [oIx, oAtS] at p
      cases q2 : atI z i with
      | none => rw [q2] at p; exact p.elim
      | some c =>
        rw [q2] at p
        obtain ⟨j, _, hj, hl, _⟩ := atI_get q2
        refine .inr (.inr ⟨toS z, i, c, rfl, rfl, by rw [len_toS]; exact of_decide_eq_true (ba2 oz).2, by simpa [toS] using q2, ?_⟩)
        exact p W (Ext.refl W) s rfl _ (.str [c] (okS_of oz (fun k hk => by simp at hk; subst hk; exact List.mem_of_getElem? hj) (by simp; omega)))
    | _ => exact seqs rfl
  | _ => cases d <;> exact p.elim
theorem e_ix (ha : PE X a (fE (gc X) Wx ma)) (hb : PE X b (fE (gc X) Wx mb)) (hs : PlainIx b := by exact fun _ _ => rfl) : PE X (.Subscript a b pos) (fE (gc X) Wx (a2 oIx ma mb)) :=
  PE.imp (pe_ix ix_seq ha hb hs) fun σ H Q h => by
    show fE (gc X) Wx ma σ H fun x H1 => fE (gc X) Wx mb σ H1 fun y H2 => rIx X.K x y H2 Q
    exact fG_mono (lift2 h) fun v H' hq => fG_mono hq fun v2 H2 hq2 => im_ix hq2
/-! ### slices -/
abbrev Mo := En → Store → Res (Option Int)
def oNone : Mo := fun _ st => .ok none st
def toI (d : D) (st : Store) : Res (Option Int) := match d with
  | .int i => .ok (some i) st
  | _ => .no
abbrev fO (g : Gc) (Wx : WX) (m : Mo) : TO := fG g Wx (fun _ (b b' : Option Int) => b = b') m
theorem PO.imp {e : Option Expr} {t t' : TO} (h : PO X e t) (i : ∀ σ H Q, t' σ H Q → t σ H Q) : PO X e t' := ⟨fun pins s σ H Q I q => h.run pins s σ H Q I (i _ _ _ q)⟩
theorem o_none : PO X none (fO (gc X) Wx oNone) := PO.imp po_none fun σ H Q h => by
  obtain ⟨W, env, rfl, s, r, p⟩ := h
  exact p W (Ext.refl W) s rfl none rfl
theorem o_some (ha : PE X a (fE (gc X) Wx ma)) : PO X (some a) (fO (gc X) Wx (a1 toI ma)) := PO.imp (po_some ha) fun σ H Q h => by
  show fE (gc X) Wx ma σ H fun x H1 => ∃ i, x = .int i ∧ Q (some i) H1
  refine fG_mono (lift1 h) fun v H' ⟨W, d, e, s, h1, p⟩ => ?_
  subst e
  cases d with
  | int i => cases h1.int_inv; exact ⟨i, rfl, p W (Ext.refl W) s rfl _ rfl⟩
  | _ => exact p.elim
def cutD {α : Type} (xs : List α) (lo hi : Option Int) : List α := (xs.drop (HT.sIx xs.length 0 lo)).take (HT.sIx xs.length xs.length hi - HT.sIx xs.length 0 lo)
def oSl (x : D) (lo hi : Option Int) (st : Store) : Res D := match x with
  | .str s => .ok (.str (cutD s lo hi)) st
  | .tup xs => .ok (.tup (cutD xs lo hi)) st
  | x => onLs x st fun xs => .ok (.lst (cutD xs lo hi)) st
def mSl (m : Me) (l h : Mo) : Me := fun e st => (m e st).bind fun d st1 => (l e st1).bind fun lo st2 => (h e st2).bind fun hi st3 => oSl d lo hi st3
theorem DenL.cutD {g : Gc} {W : Wd} {vs : List V} {ds : List D} (l : DenL g W vs ds) (lo hi : Option Int) : DenL g W (cutV vs lo hi) (cutD ds lo hi) := by
  unfold cutV FL.cutD
  rw [l.length]
  exact (l.drop _).take _
def fSl (g : Gc) (Wx : WX) (x : V) (lo hi : Option Int) : L2.St → Hp → VK → Prop := fun σ H Q =>
  ∃ (W : Wd) (d : D), W.H = H ∧ SR g W ∧ Den g W x d ∧ Post g W (wx g Wx σ) (oSl d lo hi W.st) fun d W' => ∀ b, Den g W' b d → Q b W'.H
def rSlX (K : PySem.W.Frag) : V → Option Int → Option Int → Hp → VK → Prop := fun x lo hi H Q => rSlS x lo hi H Q ∨ rSlA K x lo hi H Q ∨ rSlL K x lo hi H Q
theorem cut_whole {xs : List V} {lo hi : Option Int} (h : HT.sIx xs.length 0 lo = 0 ∧ HT.sIx xs.length xs.length hi = xs.length) : cutV xs lo hi = xs := by
  unfold cutV
  rw [h.1, h.2]
  simp
theorem cutD_whole {α : Type} {xs : List α} {lo hi : Option Int} (h : HT.sIx xs.length 0 lo = 0 ∧ HT.sIx xs.length xs.length hi = xs.length) : cutD xs lo hi = xs := by
  unfold cutD
  rw [h.1, h.2]
  simp
theorem im_sl {σ : L2.St} {H : Hp} {Q : VK} {x : V} {lo hi : Option Int} (h : fSl (gc X) Wx x lo hi σ H Q) : rSlX X.K x lo hi H Q := by
  obtain ⟨W, d, rfl, s, h1, p⟩ := h
  have lists : (onLs d W.st fun xs => .ok (.lst (cutD xs lo hi)) W.st) = oSl d lo hi W.st → rSlX X.K x lo hi W.H Q := fun e => by
    rw [← e] at p
    unfold onLs at p
    cases q : lsOf d W.st with
    | none => rw [q] at p; exact p.elim
    | some xs =>
      rw [q] at p
      obtain ⟨a, vs, rfl, hq, l⟩ := lsOf_inv s h1 q
      exact .inr (.inr ⟨a, vs, rfl, SqL.of hq, Post.newL s (l.cutD lo hi) p⟩)
  cases d with
  | str z =>
    obtain ⟨rfl, oz⟩ := h1.str_inv
    refine .inl ⟨toS z, rfl, by rw [len_toS]; exact of_decide_eq_true (ba2 oz).2, ?_⟩
    have e : cutS (toS z) lo hi = toS (cutD z lo hi) := by
      unfold cutS cutD
      rw [len_toS]
      simp [toS]
    rw [e]
    refine p W (Ext.refl W) s rfl _ (.str _ (okS_of oz (fun c hc => ?_) ?_))
    · unfold cutD at hc
      exact List.mem_of_mem_drop (List.mem_of_mem_take hc)
    · unfold cutD
      rw [List.length_take, List.length_drop]
      omega
  | tup xs =>
    obtain ⟨a, vs, rfl, hq, l⟩ := h1.tup_inv
    refine .inr (.inl ⟨a, vs, rfl, hq, fun hw => ?_, fun _ => Post.newT s (l.cutD lo hi) p⟩)
    have e : cutD xs lo hi = xs := cutD_whole (by rw [← l.length]; exact hw)
    dsimp only [oSl] at p
    rw [e] at p
    exact p W (Ext.refl W) s rfl _ h1
  | _ => exact lists rfl
theorem e_sl {lo hi : Option Expr} {ml mh : Mo} {p2 : Pos} (ha : PE X a (fE (gc X) Wx ma)) (hl : PO X lo (fO (gc X) Wx ml)) (hh : PO X hi (fO (gc X) Wx mh)) : PE X (.Subscript a (.Slice lo hi none p2) pos) (fE (gc X) Wx (mSl ma ml mh)) :=
  PE.imp (pe_slice (sl_str.or (sl_tupA.or sl_list)) ha hl hh) fun σ H Q h => by
    show fE (gc X) Wx ma σ H fun x H1 => fO (gc X) Wx ml σ H1 fun l H2 => fO (gc X) Wx mh σ H2 fun u H3 => rSlX X.K x l u H3 Q
    obtain ⟨W, env, rfl, s, r, p⟩ := h
    refine ⟨W, env, rfl, s, r, ?_⟩
    dsimp only [mSl] at p
    cases q : ma env W.st with
    | exc x st1 => rw [q] at p; exact p
    | no => rw [q] at p; exact p
    | ok d st1 =>
      rw [q] at p
      refine fun W1 e1 s1 hs1 v hv => ⟨W1, env, rfl, s1, r.mono e1, ?_⟩
      dsimp only [Res.bind] at p
      rw [hs1]
      cases q2 : ml env st1 with
      | exc x st1 => rw [q2] at p; exact Post.ext p e1
      | no => rw [q2] at p; exact p
      | ok lo' st2 =>
        rw [q2] at p
        refine fun W2 e2 s2 hs2 l hl => ⟨W2, env, rfl, s2, (r.mono e1).mono e2, ?_⟩
        subst hl
        dsimp only [Res.bind] at p
        rw [hs2]
        cases q3 : mh env st2 with
        | exc x st1 => rw [q3] at p; exact Post.ext (Post.ext p e1) e2
        | no => rw [q3] at p; exact p
        | ok hi' st3 =>
          rw [q3] at p
          refine fun W3 e3 s3 hs3 u hu => im_sl (Wx := Wx) (σ := σ) ?_
          subst hu
          exact ⟨W3, d, rfl, s3, (hv.mono e2).mono e3, by rw [hs3]; exact Post.ext (Post.ext (Post.ext p e1) e2) e3⟩
end
end FL
end
section
set_option Elab.async false
set_option linter.all false
set_option maxRecDepth 100000
/-! FLI: in; built-ins by name. -/
namespace FL
open PySem PySem.Spec PyProof.Rows L2

/-! ### calls of built-ins -/
section
variable {X : Cx} {Wx : WX} {pos p : Pos} {a b c e : Expr} {es : List Expr} {ma mb mc : Me} {m : Ma} {id T : String} {x : Str} {r : List V → Hp → VK → Prop} {k : List D → Store → Res D}
theorem e_callB (hc : CallR X (.builtin id) r) (im : ∀ {σ : L2.St} {H : Hp} {Q : VK} {vs : List V}, fL (gc X) Wx (rD (gc X)) k vs σ H Q → r vs H Q) (hg : Gl X x) (hm : X.mg x = none) (hv : bootBuiltins x = some (.builtin id))
    (ha : PA X (e :: es) (fA (gc X) Wx m)) (hn : x ≠ "__name__" := by decide) (hdb : (x == ("__debug__" : Str)) = false := by decide)
    (he : starEach (e :: es) X.env = (false, eval e X.env) :: starEach es X.env := by rfl) (hpl : (backTo pos (starEach es X.env)).any (·.1) = false := by rfl) : PE X (.Call (.Name x p) (e :: es) [] pos) (fE (gc X) Wx (aL k m)) :=
  PE.imp (pe_callB hc hg hm hv ha hn hdb he hpl) fun σ H Q h => by
    dsimp only [tCB]
    exact fG_mono (liftL h) fun vs H' q => im q
theorem e_callTy (hc : CallR X (.type T) r) (im : ∀ {σ : L2.St} {H : Hp} {Q : VK} {vs : List V}, fL (gc X) Wx (rD (gc X)) k vs σ H Q → r vs H Q) (hg : Gl X x) (hm : X.mg x = none) (hv : bootBuiltins x = some (.type T))
    (ha : PA X (e :: es) (fA (gc X) Wx m)) (hn : x ≠ "__name__" := by decide) (hdb : (x == ("__debug__" : Str)) = false := by decide)
    (he : starEach (e :: es) X.env = (false, eval e X.env) :: starEach es X.env := by rfl) (hpl : (backTo pos (starEach es X.env)).any (·.1) = false := by rfl) : PE X (.Call (.Name x p) (e :: es) [] pos) (fE (gc X) Wx (aL k m)) :=
  PE.imp (pe_callTy hc hg hm hv ha hn hdb he hpl) fun σ H Q h => by
    dsimp only [tCB]
    exact fG_mono (liftL h) fun vs H' q => im q
end
/-- one argument -/
def on1 (k : D → Store → Res D) (ds : List D) (st : Store) : Res D := match ds with
  | [d] => k d st
  | _ => .no
def on2 (k : D → D → Store → Res D) (ds : List D) (st : Store) : Res D := match ds with
  | [d, e] => k d e st
  | _ => .no
section
variable {X : Cx} {Wx : WX} {σ : L2.St} {H : Hp} {Q : VK} {vs : List V}
theorem fL1 {k : D → Store → Res D} (h : fL (gc X) Wx (rD (gc X)) (on1 k) vs σ H Q) : ∃ x, vs = [x] ∧ f1 (gc X) Wx (rD (gc X)) k x σ H Q := by
  obtain ⟨W, ds, rfl, s, l, p⟩ := h
  cases l with
  | nil => exact p.elim
  | cons h1 t =>
    cases t with
    | nil => exact ⟨_, rfl, W, _, rfl, s, h1, p⟩
    | cons _ _ => exact p.elim
theorem fL2 {k : D → D → Store → Res D} (h : fL (gc X) Wx (rD (gc X)) (on2 k) vs σ H Q) : ∃ x y, vs = [x, y] ∧ f2 (gc X) Wx (rD (gc X)) k x y σ H Q := by
  obtain ⟨W, ds, rfl, s, l, p⟩ := h
  cases l with
  | nil => exact p.elim
  | cons h1 t =>
    cases t with
    | nil => exact p.elim
    | cons h2 t =>
      cases t with
      | nil => exact ⟨_, _, rfl, W, _, _, rfl, s, h1, h2, p⟩
      | cons _ _ => exact p.elim
/-! len -/
def oLen (d : D) (st : Store) : Res D := match d with
  | .str s => .ok (.int s.length) st
  | d => onSq d st fun xs => .ok (.int xs.length) st
theorem im_len (h : fL (gc X) Wx (rD (gc X)) (on1 oLen) vs σ H Q) : ∃ x n, vs = [x] ∧ LenV X.K x H n ∧ Q (.int n) H := by
  obtain ⟨x, rfl, W, d, rfl, s, h1, p⟩ := fL1 h
  have seqs : (onSq d W.st fun xs => .ok (.int xs.length) W.st) = oLen d W.st → ∃ y n, [x] = [y] ∧ LenV X.K y W.H n ∧ Q (.int n) W.H := fun e => by
    rw [← e] at p
    unfold onSq at p
    cases q : sqOf d W.st with
    | none => rw [q] at p; exact p.elim
    | some xs =>
      rw [q] at p
      obtain ⟨a, vs, rfl, hq, l⟩ := sqOf_inv s h1 q
      refine ⟨_, xs.length, rfl, ?_, p W (Ext.refl W) s rfl _ (.int _)⟩
      rcases hq with hq | hq
      · exact .inl ⟨vs, hq, l.length.symm⟩
      · exact .inr ⟨vs, hq, l.length.symm⟩
  cases d with
  | str z =>
    obtain ⟨rfl, oz⟩ := h1.str_inv
    exact ⟨_, z.length, rfl, ⟨by rw [len_toS]; exact of_decide_eq_true (ba2 oz).2, len_toS z⟩, p W (Ext.refl W) s rfl _ (.int _)⟩
  | _ => exact seqs rfl
/-! list, tuple -/
def oListOf (d : D) (st : Store) : Res D := onSq d st fun xs => .ok (.lst xs) st
def oListC (d : D) (st : Store) : Res D := onSq d st fun xs => .ok (.ref st.length) (st ++ [.lst xs])
theorem im_listOf (h : fL (gc X) Wx (rD (gc X)) (on1 oListOf) vs σ H Q) : ∃ p ys, vs = [.ref p] ∧ (SqL X.K H p ys ∨ SqT X.K H p ys) ∧ ∀ l, H l = none → Q (.ref l) (upd H l (.lst ys)) := by
  obtain ⟨x, rfl, W, d, rfl, s, h1, p⟩ := fL1 h
  dsimp only [oListOf, onSq] at p
  cases q : sqOf d W.st with
  | none => rw [q] at p; exact p.elim
  | some xs =>
    rw [q] at p
    obtain ⟨a, vs, rfl, hq, l⟩ := sqOf_inv s h1 q
    exact ⟨a, vs, rfl, hq, Post.newL s l p⟩
theorem im_listC (h : fL (gc X) Wx (rD (gc X)) (on1 oListC) vs σ H Q) : ∃ p ys, vs = [.ref p] ∧ (SqL X.K H p ys ∨ SqT X.K H p ys) ∧ ∀ l, H l = none → Q (.ref l) (upd H l (.lst ys)) := by
  obtain ⟨x, rfl, W, d, rfl, s, h1, p⟩ := fL1 h
  dsimp only [oListC, onSq] at p
  cases q : sqOf d W.st with
  | none => rw [q] at p; exact p.elim
  | some xs =>
    rw [q] at p
    obtain ⟨a, vs, rfl, hq, l⟩ := sqOf_inv s h1 q
    refine ⟨a, vs, rfl, hq, fun q' hq' => ?_⟩
    obtain ⟨W', e, s', h1, h2, h3⟩ := s.newC hq' l
    rw [← h2]
    exact p W' e s' h1 _ h3
def oTupOf (d : D) (st : Store) : Res D := onSq d st fun xs => .ok (.tup xs) st
theorem im_tupOf (h : fL (gc X) Wx (rD (gc X)) (on1 oTupOf) vs σ H Q) : ∃ p ys, vs = [.ref p] ∧ ((SqL X.K H p ys ∧ ∀ l, H l = none → Q (.ref l) (upd H l (.tup ys))) ∨ (SqT X.K H p ys ∧ Q (.ref p) H)) := by
  obtain ⟨x, rfl, W, d, rfl, s, h1, p⟩ := fL1 h
  dsimp only [oTupOf, onSq] at p
  have go : ∀ {xs : List D}, lsOf d W.st = some xs → Post (gc X) W (wx (gc X) Wx σ) (.ok (.tup xs) W.st) (fun d W' => ∀ b, rD (gc X) W' b d → Q b W'.H) → ∃ p ys, [x] = [V.ref p] ∧ ((SqL X.K W.H p ys ∧ ∀ l, W.H l = none → Q (.ref l) (upd W.H l (.tup ys))) ∨ (SqT X.K W.H p ys ∧ Q (.ref p) W.H)) := fun q p => by
    obtain ⟨a, vs, rfl, hq, l⟩ := lsOf_inv s h1 q
    exact ⟨a, vs, rfl, .inl ⟨SqL.of hq, Post.newT s l p⟩⟩
  cases q : sqOf d W.st with
  | none => rw [q] at p; exact p.elim
  | some xs =>
    rw [q] at p
    cases d with
    | tup ys =>
      cases q
      obtain ⟨a, vs, rfl, hq, l⟩ := h1.tup_inv
      exact ⟨a, vs, rfl, .inr ⟨hq, p W (Ext.refl W) s rfl _ h1⟩⟩
    | _ => exact go q p
/-! int, abs -/
def oInt (d : D) (st : Store) : Res D := match d with
  | .int i => .ok (.int i) st
  | .bl k => .ok (.int (if k then 1 else 0)) st
  | _ => .no
theorem im_int (h : fL (gc X) Wx (rD (gc X)) (on1 oInt) vs σ H Q) : (∃ i, vs = [.int i] ∧ Q (.int i) H) ∨ ∃ k, vs = [.bl k] ∧ Q (.int (if k then 1 else 0)) H := by
  obtain ⟨x, rfl, W, d, rfl, s, h1, p⟩ := fL1 h
  cases d with
  | int i => cases h1.int_inv; exact .inl ⟨i, rfl, p W (Ext.refl W) s rfl _ (.int _)⟩
  | bl i => cases h1.bl_inv; exact .inr ⟨i, rfl, p W (Ext.refl W) s rfl _ (.int _)⟩
  | _ => exact p.elim
def oAbs (d : D) (st : Store) : Res D := match d with
  | .int i => .ok (.int (if i < 0 then -i else i)) st
  | _ => .no
theorem im_abs (h : fL (gc X) Wx (rD (gc X)) (on1 oAbs) vs σ H Q) : ∃ i, vs = [.int i] ∧ Q (.int (if i < 0 then -i else i)) H := by
  obtain ⟨x, rfl, W, d, rfl, s, h1, p⟩ := fL1 h
  cases d with
  | int i => cases h1.int_inv; exact ⟨i, rfl, p W (Ext.refl W) s rfl _ (.int _)⟩
  | _ => exact p.elim
/-! all, any -/
def blsOf : List D → Option (List Bool)
  | [] => some []
  | .bl b :: r => (blsOf r).map (b :: ·)
  | _ => none
theorem blsOf_inv {g : Gc} {W : Wd} : ∀ {vs : List V} {ds : List D} {bs : List Bool}, DenL g W vs ds → blsOf ds = some bs → vs = bs.map V.bl
  | _, _, _, .nil, e => by cases e; rfl
  | _, .bl b :: r, _, .cons h t, e => by
    dsimp only [blsOf] at e
    obtain ⟨bs', e1, rfl⟩ := Option.map_eq_some_iff.mp e
    cases h.bl_inv
    rw [blsOf_inv t e1]; rfl
  | _, .non :: _, _, .cons _ _, e => by cases e
  | _, .int _ :: _, _, .cons _ _, e => by cases e
  | _, .str _ :: _, _, .cons _ _, e => by cases e
  | _, .tup _ :: _, _, .cons _ _, e => by cases e
  | _, .lst _ :: _, _, .cons _ _, e => by cases e
  | _, .dic _ :: _, _, .cons _ _, e => by cases e
  | _, .nd _ :: _, _, .cons _ _, e => by cases e
  | _, .obj _ _ :: _, _, .cons _ _, e => by cases e
  | _, .exn _ _ :: _, _, .cons _ _, e => by cases e
  | _, .ref _ :: _, _, .cons _ _, e => by cases e
  | _, .scr _ :: _, _, .cons _ _, e => by cases e
def onBls (d : D) (st : Store) (k : List Bool → Res D) : Res D := onLs d st fun xs => match blsOf xs with
  | some bs => k bs
  | none => .no
def oAll (d : D) (st : Store) : Res D := onBls d st fun bs => .ok (.bl (bs.all id)) st
def oAny (d : D) (st : Store) : Res D := onBls d st fun bs => .ok (.bl (bs.any id)) st
theorem bls_at {d : D} {W : Wd} {x : V} {k : List Bool → Res D} (s : SR (gc X) W) (h1 : Den (gc X) W x d) (p : Post (gc X) W (wx (gc X) Wx σ) (onBls d W.st k) fun d W' => ∀ b, rD (gc X) W' b d → Q b W'.H) :
    ∃ (a : Addr) (bs : List Bool), x = V.ref a ∧ SqL X.K W.H a (bs.map V.bl) ∧ Post (gc X) W (wx (gc X) Wx σ) (k bs) fun d W' => ∀ b, rD (gc X) W' b d → Q b W'.H := by
  dsimp only [onBls, onLs] at p
  cases q : lsOf d W.st with
  | none => rw [q] at p; exact p.elim
  | some xs =>
    rw [q] at p
    dsimp only at p
    obtain ⟨a, vs, rfl, hq, l⟩ := lsOf_inv s h1 q
    cases q2 : blsOf xs with
    | none => rw [q2] at p; exact p.elim
    | some bs =>
      rw [q2] at p
      rw [blsOf_inv l q2] at hq
      exact ⟨a, bs, rfl, SqL.of hq, p⟩
theorem im_all (h : fL (gc X) Wx (rD (gc X)) (on1 oAll) vs σ H Q) : rAll X.K vs H Q := by
  obtain ⟨x, rfl, W, d, rfl, s, h1, p⟩ := fL1 h
  obtain ⟨a, bs, rfl, hq, p⟩ := bls_at s h1 p
  exact ⟨a, bs, rfl, hq, p W (Ext.refl W) s rfl _ (.bl _)⟩
theorem im_any (h : fL (gc X) Wx (rD (gc X)) (on1 oAny) vs σ H Q) : rAny X.K vs H Q := by
  obtain ⟨x, rfl, W, d, rfl, s, h1, p⟩ := fL1 h
  obtain ⟨a, bs, rfl, hq, p⟩ := bls_at s h1 p
  exact ⟨a, bs, rfl, hq, p W (Ext.refl W) s rfl _ (.bl _)⟩
end

/-! ### in -/
def D.flat : D → Bool
  | .non | .bl _ | .int _ | .str _ => true
  | _ => false
/-- sign in text; x in a list (data), x in a tuple (flat items) -/
def oIn (neg : Bool) (x y : D) (st : Store) : Res D := match x, y with
  | .str [c], .str t => .ok (.bl (neg != t.contains c)) st
  | x, .tup ys => if (x.flat && ys.all D.flat) = true then .ok (.bl (neg != ys.any fun z => z.eqv x)) st else .no
  | x, y => onLs y st fun ys => if (x.sh 39 && shL ys 39) = true then .ok (.bl (neg != ys.any fun z => z.eqv x)) st else .no
theorem flat_inv {g : Gc} {W : Wd} {v : V} {d : D} (h : Den g W v d) (f : d.flat = true) : flatV v = true := by
  cases h <;> first | rfl | (cases f; done)
theorem eqV_eqv {g : Gc} {W : Wd} {v u : V} {d e : D} (h : Den g W v d) (h' : Den g W u e) (f : d.flat = true) (f' : e.flat = true) : eqV v u = d.eqv e := by
  cases h <;> cases h' <;> first | (cases f; done) | (cases f'; done) | simp [eqV, D.eqv, toS_beq]
theorem inV_any {g : Gc} {W : Wd} {v : V} {d : D} (h : Den g W v d) (f : d.flat = true) : ∀ {vs : List V} {ds : List D}, DenL g W vs ds → ds.all D.flat = true → vs.all flatV = true ∧ inV v vs = ds.any fun z => z.eqv d
  | _, _, .nil, _ => ⟨rfl, rfl⟩
  | _, _, .cons h1 t, fs => by
    rw [List.all_cons, Bool.and_eq_true] at fs
    obtain ⟨i1, i2⟩ := inV_any h f t fs.2
    refine ⟨by rw [List.all_cons, flat_inv h1 fs.1, i1]; rfl, ?_⟩
    unfold inV at i2 ⊢
    rw [List.any_cons, List.any_cons, i2, eqV_eqv h1 h fs.1 f]
def rInA (K : PySem.W.Frag) (neg : Bool) : R2 := fun x y H Q => (∃ (c : Nat) (z : Str), x = .str ⟨#[c]⟩ ∧ y = .str z ∧ Q (.bl (neg != decide (c ∈ z.cps.toList))) H) ∨ rIn K neg x y H Q ∨ (if neg = true then rNotInD K x y H Q else rInD K x y H Q)
theorem op_inA {X : Cx} (hu : X.A.units + 65 < cLine) : OpR X (compareOp .In) (rInA X.K false) := by
  have h1 : OpR X (compareOp .In) (fun x y H Q => ∃ (c : Nat) (z : Str), x = .str ⟨#[c]⟩ ∧ y = .str z ∧ Q (.bl (false != decide (c ∈ z.cps.toList))) H) := by
    intro pins s σ H x y v u Q I rx ry ⟨c, z, e1, e2, q⟩
    exact op_in_sign pins s σ H x y v u Q I rx ry ⟨c, z, e1, e2, by simpa using q⟩
  exact h1.or (op_in_seq.or (by simpa using op_inD hu))
theorem op_notInA {X : Cx} (hu : X.A.units + 65 < cLine) : OpR X (compareOp .NotIn) (rInA X.K true) := by
  have h1 : OpR X (compareOp .NotIn) (fun x y H Q => ∃ (c : Nat) (z : Str), x = .str ⟨#[c]⟩ ∧ y = .str z ∧ Q (.bl (true != decide (c ∈ z.cps.toList))) H) := by
    intro pins s σ H x y v u Q I rx ry ⟨c, z, e1, e2, q⟩
    exact op_notIn_sign pins s σ H x y v u Q I rx ry ⟨c, z, e1, e2, by simpa using q⟩
  exact h1.or (op_notIn_seq.or (by simpa using op_notInD hu))
theorem any_py {x : D} {n m : Nat} (hx : x.sh n = true) : ∀ {ys : List D}, shL ys m = true → ((pyL ys).any fun z => PyData.eqv z (py x)) = ys.any fun z => z.eqv x
  | [], _ => by simp [pyL]
  | y :: ys, h => by
    unfold shL at h
    obtain ⟨h1, h2⟩ := ba2 h
    simp only [pyL, List.any_cons]
    rw [eqv_py y x _ _ h1 hx, any_py hx h2]
theorem neg_xor (n b : Bool) : (if n = true then !b else b) = (n != b) := by cases n <;> cases b <;> rfl
section
variable {X : Cx} {Wx : WX} {σ : L2.St} {H : Hp} {Q : VK} {x y : V} {neg : Bool}
theorem im_in (h : f2 (gc X) Wx (rD (gc X)) (oIn neg) x y σ H Q) : rInA X.K neg x y H Q := by
  obtain ⟨W, d, e, rfl, s, h1, h2, p⟩ := h
  have lists : (onLs e W.st fun ys => if (d.sh 39 && shL ys 39) = true then .ok (.bl (neg != ys.any fun z => z.eqv d)) W.st else .no) = oIn neg d e W.st → rInA X.K neg x y W.H Q := fun ee => by
    rw [← ee] at p
    unfold onLs at p
    cases q : lsOf e W.st with
    | none => rw [q] at p; exact p.elim
    | some ys =>
      rw [q] at p
      dsimp only at p
      split at p
      · rename_i hs
        obtain ⟨s1, s2⟩ := ba2 hs
        obtain ⟨a, vs, rfl, hq, l⟩ := lsOf_inv s h2 q
        obtain ⟨a1, a2, a3⟩ := h1.py s1
        obtain ⟨b1, b2, b3⟩ := l.py s2
        have dl : Dp X.K W.H (.ref a) (.list (pyL ys)) := .lst (SqL.of hq) b1
        have sl : SeqAt.shaped (.list (pyL ys)) = true := shaped_of (by simp [PyData.canLay0, b2]) (by simp [PyData.depth]; omega)
        refine .inr (.inr ?_)
        have fin := p W (Ext.refl W) s rfl _ (.bl _)
        cases neg with
        | false => exact ⟨py d, pyL ys, a1, dl, shaped_of a2 (by omega), sl, by rw [any_py s1 s2]; simpa using fin⟩
        | true => exact ⟨py d, pyL ys, a1, dl, shaped_of a2 (by omega), sl, by rw [any_py s1 s2]; simpa using fin⟩
      · exact p.elim
  have tups : ∀ ys, e = .tup ys → (if (d.flat && ys.all D.flat) = true then .ok (.bl (neg != ys.any fun z => z.eqv d)) W.st else .no) = oIn neg d e W.st → rInA X.K neg x y W.H Q := fun ys e0 ee => by
    subst e0
    rw [← ee] at p
    split at p
    · rename_i hs
      obtain ⟨s1, s2⟩ := ba2 hs
      obtain ⟨a, vs, rfl, hq, l⟩ := h2.tup_inv
      obtain ⟨i1, i2⟩ := inV_any h1 s1 l s2
      exact .inr (.inl ⟨a, vs, rfl, .inr hq, flat_inv h1 s1, i1, by rw [i2, neg_xor]; exact p W (Ext.refl W) s rfl _ (.bl _)⟩)
    · exact p.elim
  have sgn : ∀ c t, d = .str [c] → e = .str t → rInA X.K neg x y W.H Q := fun c t e1 e2 => by
    subst e1 e2
    obtain ⟨rfl, _⟩ := h1.str_inv
    obtain ⟨rfl, _⟩ := h2.str_inv
    refine .inl ⟨c, toS t, rfl, rfl, ?_⟩
    have fin := p W (Ext.refl W) s rfl _ (.bl _)
    have e : decide (c ∈ (toS t).cps.toList) = t.contains c := by
      rw [List.contains_eq_mem]; exact decide_eq_decide.mpr (by simp [toS])
    rw [e]
    exact fin
  cases e with
  | tup ys => cases d with
    | str z => cases z with
      | nil => exact tups ys rfl rfl
      | cons c z => cases z <;> exact tups ys rfl rfl
    | _ => exact tups ys rfl rfl
  | str t => cases d with
    | str z => cases z with
      | nil => exact lists rfl
      | cons c z => cases z with
        | nil => exact sgn c t rfl rfl
        | cons _ _ => exact lists rfl
    | _ => exact lists rfl
  | _ => cases d with
    | str z => cases z with
      | nil => exact lists rfl
      | cons c z => cases z <;> exact lists rfl
    | _ => exact lists rfl
end
end FL
end
section
set_option Elab.async false
set_option linter.all false
set_option maxRecDepth 100000
/-! FLJ: statements. -/
namespace FL
open PySem PySem.Spec PyProof.Rows L2

def PostS (g : Gc) (W0 : Wd) (Wx : WX) (r : Fl) (D : Ends) : Prop := match r with
  | .nx e st' => ∀ W' σ', Ext W0 W' → SR g W' → W'.st = st' → EnvR g W' σ' e → D.nx σ' W'.H
  | .bk e st' => ∀ W' σ', Ext W0 W' → SR g W' → W'.st = st' → EnvR g W' σ' e → D.bk σ' W'.H
  | .ct e st' => ∀ W' σ', Ext W0 W' → SR g W' → W'.st = st' → EnvR g W' σ' e → D.ct σ' W'.H
  | .rt d st' => ∀ W' v, Ext W0 W' → SR g W' → W'.st = st' → Den g W' v d → D.rt v W'.H
  | .exc x e st' => ∀ W' σ', Ext W0 W' → SR g W' → W'.st = st' → EnvR g W' σ' e → wx g Wx σ' x W'
  | .no => False
theorem PostS.ext {g : Gc} {W0 W1 : Wd} {Wx : WX} {r : Fl} {D : Ends} (p : PostS g W0 Wx r D) (e : Ext W0 W1) : PostS g W1 Wx r D := by
  cases r with
  | no => exact p
  | _ => exact fun W' s e' => p W' s (e.trans e')
theorem PostS.mono {g : Gc} {W0 : Wd} {Wx : WX} {r : Fl} {D D' : Ends} (p : PostS g W0 Wx r D) (h1 : ∀ σ H, D.nx σ H → D'.nx σ H) (h2 : ∀ v H, D.rt v H → D'.rt v H) (h3 : ∀ σ H, D.bk σ H → D'.bk σ H) (h4 : ∀ σ H, D.ct σ H → D'.ct σ H) : PostS g W0 Wx r D' := by
  cases r with
  | no => exact p
  | nx e st => exact fun W' s e' s' hs r => h1 _ _ (p W' s e' s' hs r)
  | bk e st => exact fun W' s e' s' hs r => h3 _ _ (p W' s e' s' hs r)
  | ct e st => exact fun W' s e' s' hs r => h4 _ _ (p W' s e' s' hs r)
  | rt e st => exact fun W' s e' s' hs r => h2 _ _ (p W' s e' s' hs r)
  | exc x e st => exact p
/-- a statement's reading by a function -/
def fS (g : Gc) (Wx : WX) (ms : Ms) : TS := fun D σ H => ∃ (W : Wd) (env : En), W.H = H ∧ SR g W ∧ EnvR g W σ env ∧ PostS g W Wx (ms env W.st) D
/-- a value at hand, a statement's rest -/
def sV (g : Gc) (Wx : WX) (k : D → En → Store → Fl) (v : V) : TS := fun Z σ H => ∃ (W : Wd) (env : En) (d : D), W.H = H ∧ SR g W ∧ EnvR g W σ env ∧ Den g W v d ∧ PostS g W Wx (k d env W.st) Z
section
variable {g : Gc} {Wx : WX} {Z : Ends} {σ : L2.St} {H : Hp}
theorem liftS {m : Me} {k : D → En → Store → Fl} (h : fS g Wx (fun e st => (m e st).fl e fun d st1 => k d e st1) Z σ H) : fE g Wx m σ H fun v H1 => sV g Wx k v Z σ H1 := by
  obtain ⟨W, env, rfl, s, r, p⟩ := h
  refine ⟨W, env, rfl, s, r, ?_⟩
  dsimp only at p
  cases q : m env W.st with
  | ok d st1 =>
    rw [q] at p
    exact fun W1 e1 s1 hs v hv => ⟨W1, env, d, rfl, s1, r.mono e1, hv, by rw [hs]; exact PostS.ext p e1⟩
  | exc x st1 => rw [q] at p; exact fun W1 e1 s1 hs => p W1 σ e1 s1 hs (r.mono e1)
  | no => rw [q] at p; exact p
theorem liftSB {m : Mt} {k : Bool → Ms} (h : fS g Wx (fun e st => (m e st).flB e fun d st1 => k d e st1) Z σ H) : fT g Wx m σ H fun b H1 => fS g Wx (k b) Z σ H1 := by
  obtain ⟨W, env, rfl, s, r, p⟩ := h
  refine ⟨W, env, rfl, s, r, ?_⟩
  dsimp only at p
  cases q : m env W.st with
  | ok d st1 =>
    rw [q] at p
    exact fun W1 e1 s1 hs v hv => ⟨W1, env, rfl, s1, r.mono e1, by rw [hs]; subst hv; exact PostS.ext p e1⟩
  | exc x st1 => rw [q] at p; exact fun W1 e1 s1 hs => p W1 σ e1 s1 hs (r.mono e1)
  | no => rw [q] at p; exact p
end

/-! ### blocks -/
def mPass : Ms := fun e st => .nx e st
def mSeq (a b : Ms) : Ms := fun e st => (a e st).bind b
def mSet (i : Nat) (m : Me) : Ms := fun e st => (m e st).fl e fun d st1 => .nx (e.set i (some d)) st1
def mExpr (m : Me) : Ms := fun e st => (m e st).fl e fun _ st1 => .nx e st1
def mRet (m : Me) : Ms := fun e st => (m e st).fl e fun d st1 => .rt d st1
def mRetN : Ms := fun _ st => .rt .non st
def mIfS (t : Mt) (a b : Ms) : Ms := fun e st => (t e st).flB e fun c st1 => if c = true then a e st1 else b e st1
def mBrk : Ms := fun e st => .bk e st
def mCont : Ms := fun e st => .ct e st
def mNever : Ms := fun _ _ => .no
section
variable {X : Cx} {Wx : WX} {pos pos' : Pos} {st : Stmt} {sts : List Stmt} {a b c e : Expr} {m : Me} {t : Mt} {ms mr : Ms}
theorem s_nil : PSs X [] (fS (gc X) Wx mPass) := PSs.imp pss_nil fun D σ H h => by
  obtain ⟨W, env, rfl, s, r, p⟩ := h
  exact p W σ (Ext.refl W) s rfl r
theorem s_pass : PS X (.Pass pos) (fS (gc X) Wx mPass) := PS.imp ps_pass fun D σ H h => by
  obtain ⟨W, env, rfl, s, r, p⟩ := h
  exact p W σ (Ext.refl W) s rfl r
theorem s_break : PS X (.Break pos) (fS (gc X) Wx mBrk) := PS.imp ps_break fun D σ H h => by
  obtain ⟨W, env, rfl, s, r, p⟩ := h
  exact p W σ (Ext.refl W) s rfl r
theorem s_continue : PS X (.Continue pos) (fS (gc X) Wx mCont) := PS.imp ps_continue fun D σ H h => by
  obtain ⟨W, env, rfl, s, r, p⟩ := h
  exact p W σ (Ext.refl W) s rfl r
theorem s_never : PS X st (fS (gc X) Wx mNever) := PS.imp ps_never fun D σ H h => by
  obtain ⟨W, env, rfl, s, r, p⟩ := h
  exact p
theorem ss_never : PSs X sts (fS (gc X) Wx mNever) := PSs.imp pss_never fun D σ H h => by
  obtain ⟨W, env, rfl, s, r, p⟩ := h
  exact p
theorem fS_seq {D : Ends} {σ : L2.St} {H : Hp} (h : fS (gc X) Wx (mSeq ms mr) D σ H) : fS (gc X) Wx ms { D with nx := fS (gc X) Wx mr D } σ H := by
  obtain ⟨W, env, rfl, s, r, p⟩ := h
  refine ⟨W, env, rfl, s, r, ?_⟩
  dsimp only [mSeq] at p
  cases q : ms env W.st with
  | nx e1 st1 =>
    rw [q] at p
    exact fun W1 σ1 e1 s1 hs r1 => ⟨W1, _, rfl, s1, r1, by rw [hs]; exact PostS.ext p e1⟩
  | _ => rw [q] at p; exact p
theorem s_cons (h1 : PS X st (fS (gc X) Wx ms)) (h2 : PSs X sts (fS (gc X) Wx mr)) : PSs X (st :: sts) (fS (gc X) Wx (mSeq ms mr)) := PSs.imp (pss_cons h1 h2) fun D σ H h => fS_seq h
theorem s_one (h1 : PS X st (fS (gc X) Wx ms)) : PSs X [st] (fS (gc X) Wx ms) := pss_one h1
/-! ### simple statements -/
theorem s_set (i : Nat) {x : Str} (hN : X.N.Nodup) (hi : X.N[i]? = some x) (hx : Loc X.env.scope x) (he : PE X e (fE (gc X) Wx m)) (hs : swapsWith e (some (.Name x pos')) pos.line X.env = pure false := by rfl)
    (hf : X.fn x = true ∨ X.env.scope.names.lookup x = some .local := by first | exact .inl rfl | exact .inr rfl | assumption) : PS X (.Assign [.Name x pos'] e pos) (fS (gc X) Wx (mSet i m)) :=
  PS.imp (ps_set hN hi hx he hs hf) fun D σ H h => by
    show fE (gc X) Wx m σ H fun v H1 => D.nx (σ.set i (some v)) H1
    refine fG_mono (liftS h) fun v H' ⟨W, env, d, e0, s, r, hv, p⟩ => ?_
    subst e0
    exact p W _ (Ext.refl W) s rfl (r.set i hv)
theorem s_expr (he : PE X e (fE (gc X) Wx m)) (hs : swapsWith e none pos.line X.env = pure false := by rfl) : PS X (.Expr e pos) (fS (gc X) Wx (mExpr m)) :=
  PS.imp (ps_expr he hs) fun D σ H h => by
    show fE (gc X) Wx m σ H fun v H1 => D.nx σ H1
    refine fG_mono (liftS h) fun v H' ⟨W, env, d, e0, s, r, hv, p⟩ => ?_
    subst e0
    exact p W _ (Ext.refl W) s rfl r
theorem s_doc {x : Str} {j} : PS X (.Expr (.Constant (.str x) j pos) pos') (fS (gc X) Wx mPass) := PS.imp ps_doc fun D σ H h => by
  obtain ⟨W, env, rfl, s, r, p⟩ := h
  exact p W σ (Ext.refl W) s rfl r
theorem s_ret (he : PE X e (fE (gc X) Wx m)) : PS X (.Return (some e) pos) (fS (gc X) Wx (mRet m)) :=
  PS.imp (ps_ret he) fun D σ H h => by
    show fE (gc X) Wx m σ H D.rt
    refine fG_mono (liftS h) fun v H' ⟨W, env, d, e0, s, r, hv, p⟩ => ?_
    subst e0
    exact p W _ (Ext.refl W) s rfl hv
theorem s_retN : PS X (.Return none pos) (fS (gc X) Wx mRetN) := PS.imp ps_retN fun D σ H h => by
  obtain ⟨W, env, rfl, s, r, p⟩ := h
  exact p W _ (Ext.refl W) s rfl .non
theorem s_if {as bs : List Stmt} {ma mb : Ms} (hc : PT X c (fT (gc X) Wx t)) (ha : PSs X as (fS (gc X) Wx ma)) (hb : PSs X bs (fS (gc X) Wx mb)) : PS X (.If c as bs pos) (fS (gc X) Wx (mIfS t ma mb)) :=
  PS.imp (ps_if hc ha hb) fun D σ H h => by
    show fT (gc X) Wx t σ H fun b H1 => if b = true then fS (gc X) Wx ma D σ H1 else fS (gc X) Wx mb D σ H1
    refine fG_mono (liftSB h) fun b H' q => ?_
    cases b with
    | true => rw [if_pos rfl]; simpa using q
    | false => rw [if_neg Bool.false_ne_true]; simpa using q
/-! ### targets -/
abbrev Mg := D → En → Store → Fl
/-- a target's reading by a function -/
def fTg (g : Gc) (Wx : WX) (vs : List Nat) (k : Mg) : TG := fun v σ H N => ∃ (W : Wd) (env : En) (d : D), W.H = H ∧ SR g W ∧ EnvR g W σ env ∧ Den g W v d ∧ PostS g W Wx (k d env W.st) { nx := fun σ' H' => wipe σ' vs = wipe σ vs → N σ' H', rt := fun _ _ => False }
theorem wipe_set_out {σ : L2.St} {i : Nat} {x : Option V} : ∀ {vs : List Nat}, i ∉ vs → wipe (σ.set i x) vs = (wipe σ vs).set i x
  | [], _ => rfl
  | v :: vs, h => by
    have h1 : v ≠ i := fun e => h (by rw [e]; exact List.mem_cons_self)
    unfold wipe
    rw [wipe_set_out fun m => h (List.mem_cons_of_mem _ m), List.set_comm _ _ (Ne.symm h1)]
theorem wipe_set {σ : L2.St} {i : Nat} {x : Option V} : ∀ {vs : List Nat}, i ∈ vs → wipe (σ.set i x) vs = wipe σ vs
  | [], h => by cases h
  | v :: vs, h => by
    unfold wipe
    by_cases hi : i ∈ vs
    · rw [wipe_set hi]
    · rcases List.mem_cons.mp h with e | h
      · subst e
        rw [wipe_set_out hi, List.set_set]
      · exact absurd h hi
def gN (i : Nat) : Mg := fun d e st => .nx (e.set i (some d)) st
theorem PG.imp {tg : Expr} {t t' : TG} (h : PG X tg t) (i : ∀ v σ H Q, t' v σ H Q → t v σ H Q) : PG X tg t' := ⟨fun pins s σ H v u Q I r q => h.run pins s σ H v u Q I r (i _ _ _ _ q)⟩
theorem g_name {vs : List Nat} (i : Nat) {x : Str} (hv : i ∈ vs) (hN : X.N.Nodup) (hi : X.N[i]? = some x) (hx : Loc X.env.scope x) (hf : X.fn x = true ∨ X.env.scope.names.lookup x = some .local := by first | exact .inl rfl | exact .inr rfl | assumption) :
    PG X (.Name x pos) (fTg (gc X) Wx vs (gN i)) := PG.imp (pg_name hN hi hx hf) fun v σ H Q h => by
  obtain ⟨W, env, d, rfl, s, r, hv', p⟩ := h
  exact p W _ (Ext.refl W) s rfl (r.set i hv') (wipe_set hv)
abbrev Mgs := List D → En → Store → Fl
def fTgs (g : Gc) (Wx : WX) (ns : List Nat) (k : Mgs) : TGs := fun vs σ H N => ∃ (W : Wd) (env : En) (ds : List D), W.H = H ∧ SR g W ∧ EnvR g W σ env ∧ DenL g W vs ds ∧ PostS g W Wx (k ds env W.st) { nx := fun σ' H' => wipe σ' ns = wipe σ ns → N σ' H', rt := fun _ _ => False }
def gNl : Mgs := fun ds e st => match ds with
  | [] => .nx e st
  | _ => .no
def gCo (k : Mg) (r : Mgs) : Mgs := fun ds e st => match ds with
  | d :: ds => (k d e st).bind fun e1 st1 => r ds e1 st1
  | [] => .no
theorem PGs.imp {tg : List Expr} {t t' : TGs} (h : PGs X tg t) (i : ∀ v σ H Q, t' v σ H Q → t v σ H Q) : PGs X tg t' := ⟨fun pins s σ H v u Q I r q => h.run pins s σ H v u Q I r (i _ _ _ _ q)⟩
theorem gs_nil {ns : List Nat} : PGs X [] (fTgs (gc X) Wx ns gNl) := PGs.imp pgs_nil fun vs σ H Q h => by
  obtain ⟨W, env, ds, rfl, s, r, l, p⟩ := h
  cases l with
  | nil => exact ⟨rfl, p W _ (Ext.refl W) s rfl r rfl⟩
  | cons _ _ => exact p.elim
theorem gs_cons {ns : List Nat} {e : Expr} {es : List Expr} {k : Mg} {kr : Mgs} (h1 : PG X e (fTg (gc X) Wx ns k)) (h2 : PGs X es (fTgs (gc X) Wx ns kr))
    (hs : (assignEach (e :: es) X.env).map (·.2) = assign e X.env :: (assignEach es X.env).map (·.2) := by rfl) : PGs X (e :: es) (fTgs (gc X) Wx ns (gCo k kr)) := PGs.imp (pgs_cons h1 h2 hs) fun vs σ H Q h => by
  obtain ⟨W, env, ds, rfl, s, r, l, p⟩ := h
  cases l with
  | nil => exact p.elim
  | @cons v d vs ds hv l =>
    refine ⟨v, vs, rfl, W, env, d, rfl, s, r, hv, ?_⟩
    dsimp only [gCo] at p
    cases q : k d env W.st with
    | nx e1 st1 =>
      rw [q] at p
      exact fun W1 σ1 e1 s1 hs r1 hw => ⟨W1, _, ds, rfl, s1, r1, l.mono e1, by
        rw [hs]
        exact (PostS.ext p e1).mono (fun σ' H' q hw' => q (hw'.trans hw)) (fun _ _ q => q) (fun _ _ q => q) fun _ _ q => q⟩
    | _ => rw [q] at p; exact p
def gTp (n : Nat) (r : Mgs) : Mg := fun d e st => match d with
  | .tup ds => if ds.length = n then r ds e st else .no
  | _ => .no
theorem g_tup {ns : List Nat} {es : List Expr} {k n : Nat} {kr : Mgs} (hc : X.calm = true) (h : PGs X es (fTgs (gc X) Wx ns kr)) (hn : (assignEach es X.env).length = n := by rfl) (hst : (assignEach es X.env).findIdx? (·.1) = none := by rfl) :
    PG X (.Tuple es k pos) (fTg (gc X) Wx ns (gTp n kr)) := PG.imp (pg_tup hc h hn hst) fun v σ H Q h => by
  obtain ⟨W, env, d, rfl, s, r, hv, p⟩ := h
  cases d with
  | tup ds =>
    obtain ⟨a, vs, rfl, hq, l⟩ := hv.tup_inv
    dsimp only [gTp] at p
    split at p
    · exact ⟨a, vs, rfl, hq, by rw [l.length]; assumption, W, env, ds, rfl, s, r, l, p⟩
    · exact p.elim
  | _ => exact p.elim
def mAsg (m : Me) (k : Mg) : Ms := fun e st => (m e st).fl e fun d st1 => k d e st1
/-- a target's outcome as a statement's -/
theorem PostS.ofN {g : Gc} {W : Wd} {Wx : WX} {r : Fl} {D : Ends} (p : PostS g W Wx r D) (h : ∀ e st, r ≠ .bk e st ∧ r ≠ .ct e st) (h2 : ∀ d st, r ≠ .rt d st) : PostS g W Wx r { nx := D.nx, rt := fun _ _ => False } := by
  cases r with
  | rt d st => exact absurd rfl (h2 d st)
  | bk e st => exact absurd rfl (h e st).1
  | ct e st => exact absurd rfl (h e st).2
  | _ => exact p
/-- only: goes on, raises, or nothing is said -/
def Fl.only : Fl → Fl
  | .rt _ _ | .bk _ _ | .ct _ _ => .no
  | r => r
def mAsgO (m : Me) (k : Mg) : Ms := fun e st => (m e st).fl e fun d st1 => (k d e st1).only
theorem s_asg {ns : List Nat} {tg : Expr} {k : Mg} (he : PE X e (fE (gc X) Wx m)) (hg : PG X tg (fTg (gc X) Wx ns k)) (hs : swapsWithSole [tg] e pos.line X.env = pure false := by rfl) (hw : swappedStores [tg] e X.env = pure none := by rfl)
    (h1 : (assignEach [tg] X.env).map (·.2) = [assign tg X.env] := by rfl) : PS X (.Assign [tg] e pos) (fS (gc X) Wx (mAsgO m k)) :=
  PS.imp (ps_asg he hg hs hw h1) fun D σ H h => by
    show fE (gc X) Wx m σ H fun v H1 => fTg (gc X) Wx ns k v σ H1 D.nx
    refine fG_mono (liftS h) fun v H' ⟨W, env, d, e0, s, r, hv, p⟩ => ⟨W, env, d, e0, s, r, hv, ?_⟩
    dsimp only at p
    cases q : k d env W.st with
    | nx _ _ => rw [q] at p; exact fun W1 σ1 e1 s1 hs r1 _ => p W1 σ1 e1 s1 hs r1
    | exc _ _ _ => rw [q] at p; exact p
    | _ => rw [q] at p; exact p.elim
end
end FL
end
section
set_option Elab.async false
set_option linter.all false
set_option maxRecDepth 100000
/-! FLK: what a loop walks; loops. -/
namespace FL
open PySem PySem.Spec PyProof.Rows L2

/-! ### the walked -/
/-- the walked cell, if it is one, stands as it stood -/
def gdOk (gd : Option Nat) (all : List D) (st : Store) : Bool := match gd with
  | none => true
  | some n => match st[n]? with
    | some (.lst xs) => shL xs 40 && shL all 40 && eqvL xs all
    | _ => false
structure ItOk (g : Gc) (J : It) (W : Wd) (ds : List D) : Prop where
  go : ∀ (W' : Wd) (i : Nat) (d : D), ExtW W W' → SR g W' → ds[i]? = some d → J.go i W'.H ∧ ∀ x H', J.yld i W'.H x H' → ∃ W'', W''.H = H' ∧ Ext W' W'' ∧ SR g W'' ∧ W''.st = W'.st ∧ Den g W'' x d
  stop : ∀ (W' : Wd) (i : Nat), ExtW W W' → SR g W' → ds.length = i → J.stop i W'.H
theorem ItOk.ext {g : Gc} {J : It} {W W1 : Wd} {ds : List D} (h : ItOk g J W ds) (e : ExtW W W1) : ItOk g J W1 ds := ⟨fun W' i d e' => h.go W' i d (e.trans e'), fun W' i e' => h.stop W' i (e.trans e')⟩
abbrev Mi := En → Store → Res (List D)
def fI (g : Gc) (Wx : WX) (m : Mi) : TI := fun σ H R => ∃ (W : Wd) (env : En), W.H = H ∧ SR g W ∧ EnvR g W σ env ∧ Post g W (wx g Wx σ) (m env W.st) fun ds W' => ∀ J, ItOk g J W' ds → R J W'.H
theorem PI.imp {X : Cx} {tg e : Expr} {t t' : TI} (h : PI X tg e t) (i : ∀ σ H Q, t' σ H Q → t σ H Q) : PI X tg e t' := ⟨fun pins s σ H Q I q => h.run pins s σ H Q I (i _ _ _ q)⟩
theorem PI.or {X : Cx} {tg e : Expr} {t t' : TI} (h : PI X tg e t) (h' : PI X tg e t') : PI X tg e fun σ H Q => t σ H Q ∨ t' σ H Q := ⟨fun pins s σ H Q I q => q.elim (h.run pins s σ H Q I) (h'.run pins s σ H Q I)⟩
section
variable {g : Gc} {W : Wd} {a : Addr} {vs : List V} {ds : List D}
theorem it_list (h : W.H a = some (.lst vs)) (n : ¬ Mu W a) (l : DenL g W vs ds) : ItOk g (Itl g.K a) W ds := by
  refine ⟨fun W' i d e s hd => ?_, fun W' i e s hi => ?_⟩
  · obtain ⟨v, hv, hd'⟩ := (l.monoW e).getD' hd
    have h1 : SqL g.K W'.H a vs := SqL.of (e.fz _ _ h n).1
    refine ⟨⟨vs, v, h1, hv⟩, fun x H' ⟨e1, hx⟩ => ⟨W', e1.symm, Ext.refl _, s, rfl, ?_⟩⟩
    have := hx vs h1
    rw [hv] at this
    cases this
    exact hd'
  · exact ⟨vs, SqL.of (e.fz _ _ h n).1, by rw [l.length]; exact Nat.le_of_eq hi⟩
theorem it_tup (h : SqT g.K W.H a vs) (n : W.H a = some (.tup vs) → ¬ Mu W a) (l : DenL g W vs ds) (hk : W.H a = some (.tup vs) ∨ TupK g.K a vs) : ItOk g (Itt g.K a) W ds := by
  have keep : ∀ W', ExtW W W' → SqT g.K W'.H a vs := fun W' e => by
    rcases hk with hk | hk
    · exact .inl (.inl (e.fz _ _ hk (n hk)).1)
    · exact .inr hk
  refine ⟨fun W' i d e s hd => ?_, fun W' i e s hi => ?_⟩
  · obtain ⟨v, hv, hd'⟩ := (l.monoW e).getD' hd
    refine ⟨⟨vs, v, keep W' e, hv⟩, fun x H' ⟨e1, hx⟩ => ⟨W', e1.symm, Ext.refl _, s, rfl, ?_⟩⟩
    have := hx vs (keep W' e)
    rw [hv] at this
    cases this
    exact hd'
  · exact ⟨vs, keep W' e, by rw [l.length]; exact Nat.le_of_eq hi⟩
def rgD (lo : Int) (n : Nat) : List D := (List.range n).map fun i => .int (lo + (i : Nat))
theorem it_rng (lo : Int) (n : Nat) : ItOk g (Itr lo n) W (rgD lo n) := by
  refine ⟨fun W' i d e s hd => ?_, fun W' i e s hi => ?_⟩
  · unfold rgD at hd
    rw [List.getElem?_map] at hd
    obtain ⟨j, hj, rfl⟩ := Option.map_eq_some_iff.mp hd
    obtain ⟨hl, hr⟩ := List.getElem?_eq_some_iff.mp hj
    rw [List.length_range] at hl
    rw [List.getElem_range] at hr
    subst hr
    exact ⟨hl, fun x H' ⟨e1, e2⟩ => ⟨W', e1.symm, Ext.refl _, s, rfl, by rw [e2]; exact .int _⟩⟩
  · unfold rgD at hi
    rw [List.length_map, List.length_range] at hi
    exact Nat.le_of_eq hi
end
section
variable {X : Cx} {Wx : WX} {pos p2 : Pos} {tg e e2 : Expr} {m m2 : Me} {ma : Ma}
/-- a frozen list -/
def iL (m : Me) : Mi := fun e st => (m e st).bind fun d st1 => match d with
  | .lst xs => .ok xs st1
  | _ => .no
theorem i_list (h : PE X e (fE (gc X) Wx m)) : PI X tg e (fI (gc X) Wx (iL m)) := PI.imp (pi_list h) fun σ H R h => by
  obtain ⟨W, env, rfl, s, r, p⟩ := h
  refine ⟨W, env, rfl, s, r, ?_⟩
  dsimp only [iL] at p
  cases q : m env W.st with
  | exc x st1 => rw [q] at p; exact p
  | no => rw [q] at p; exact p
  | ok d st1 =>
    rw [q] at p
    refine fun W1 e1 s1 hs v hv => ?_
    cases d with
    | lst xs =>
      obtain ⟨a, vs, rfl, h1, n1, l⟩ := hv.lst_inv
      exact ⟨a, rfl, ⟨vs, SqL.of h1⟩, p W1 e1 s1 hs _ (it_list h1 n1 l)⟩
    | _ => exact p.elim
def iScr (m : Me) : Mi := fun e st => (m e st).bind fun d st1 => match d with
  | .scr ns => .ok (ns.map .int) st1
  | _ => .no
theorem den_ints {g : Gc} {W : Wd} : ∀ ns : List Int, DenL g W (ns.map V.int) (ns.map D.int)
  | [] => .nil
  | n :: ns => .cons (.int n) (den_ints ns)
theorem i_scr (h : PE X e (fE (gc X) Wx m)) : PI X tg e (fI (gc X) Wx (iScr m)) := PI.imp (pi_list h) fun σ H R h => by
  obtain ⟨W, env, rfl, s, r, p⟩ := h
  refine ⟨W, env, rfl, s, r, ?_⟩
  dsimp only [iScr] at p
  cases q : m env W.st with
  | exc x st1 => rw [q] at p; exact p
  | no => rw [q] at p; exact p
  | ok d st1 =>
    rw [q] at p
    refine fun W1 e1 s1 hs v hv => ?_
    cases d with
    | scr ns =>
      have fin : ∀ {a : Addr}, (∀ W', ExtW W1 W' → SqL X.K W'.H a (ns.map V.int)) → ∃ b, V.ref a = .ref b ∧ (∃ xs, SqL X.K W1.H b xs) ∧ R (Itl X.K b) W1.H := fun {a} sq => by
        refine ⟨a, rfl, ⟨_, sq W1 (ExtW.refl _)⟩, p W1 e1 s1 hs _ ⟨fun W' i d e s hd => ?_, fun W' i e s hi => ?_⟩⟩
        · obtain ⟨v, hv, hd'⟩ := (den_ints (g := gc X) (W := W') ns).getD' hd
          refine ⟨⟨_, v, sq W' e, hv⟩, fun x H' ⟨e1, hx⟩ => ⟨W', e1.symm, Ext.refl _, s, rfl, ?_⟩⟩
          have := hx _ (sq W' e)
          rw [hv] at this
          cases this
          exact hd'
        · exact ⟨_, sq W' e, by have := Nat.le_of_eq hi; simpa using this⟩
      cases hv with
      | @scr a o _ h1 n1 => exact fin fun W' e => .inl (.inr ⟨o, (e.fz _ _ h1 n1).1⟩)
      | scrK h1 => exact fin fun W' e => .inr h1
    | _ => exact p.elim
def iT (m : Me) : Mi := fun e st => (m e st).bind fun d st1 => match d with
  | .tup xs => .ok xs st1
  | _ => .no
theorem i_tup (h : PE X e (fE (gc X) Wx m)) : PI X tg e (fI (gc X) Wx (iT m)) := PI.imp (pi_tup h) fun σ H R h => by
  obtain ⟨W, env, rfl, s, r, p⟩ := h
  refine ⟨W, env, rfl, s, r, ?_⟩
  dsimp only [iT] at p
  cases q : m env W.st with
  | exc x st1 => rw [q] at p; exact p
  | no => rw [q] at p; exact p
  | ok d st1 =>
    rw [q] at p
    refine fun W1 e1 s1 hs v hv => ?_
    cases d with
    | tup xs =>
      cases hv with
      | tupH h1 n1 l => exact ⟨_, rfl, ⟨_, SqT.of h1⟩, p W1 e1 s1 hs _ (it_tup (SqT.of h1) (fun _ => n1) l (.inl h1))⟩
      | tupK h1 l =>
        refine ⟨_, rfl, ⟨_, .inr h1⟩, p W1 e1 s1 hs _ (it_tup (.inr h1) (fun h2 => fun mu => ?_) l (.inr h1))⟩
        rcases mu with mu | ⟨n, c, q1, q2, q3⟩
        · obtain ⟨⟨o, h3, h4⟩, _⟩ := s1.rx _ mu
          exact h4 _ (Option.some.inj (h3.symm.trans h2))
        have ok := s1.cell n _ c q1 q2
        cases c with
        | lst ds => obtain ⟨vs, h3, _⟩ := ok; rw [h2] at h3; cases h3
        | dic ds => obtain ⟨vs, h3, _⟩ := ok; rw [h2] at h3; cases h3
        | nd ds => obtain ⟨xs, ⟨_, _, o, es, ep, ws, _, h3, _⟩, _⟩ := ok; rw [h2] at h3; cases h3
        | ins ds => obtain ⟨vs, _, h3, _⟩ := ok; rw [h2] at h3; cases h3
        | dead => cases q3
    | _ => exact p.elim
/-- list or tuple, whichever -/
def iSq (m : Me) : Mi := fun e st => (m e st).bind fun d st1 => match d with
  | .tup xs => .ok xs st1
  | .lst xs => .ok xs st1
  | _ => .no
theorem i_seq (h : PE X e (fE (gc X) Wx m)) : PI X tg e (fI (gc X) Wx (iSq m)) := PI.imp (FL.PI.or (i_tup h) (i_list h)) fun σ H R h => by
  obtain ⟨W, env, rfl, s, r, p⟩ := h
  dsimp only [iSq] at p
  cases q : m env W.st with
  | exc x st1 => rw [q] at p; exact .inl ⟨W, env, rfl, s, r, by dsimp only [iT]; rw [q]; exact p⟩
  | no => rw [q] at p; exact p.elim
  | ok d st1 =>
    rw [q] at p
    cases d with
    | tup xs => exact .inl ⟨W, env, rfl, s, r, by dsimp only [iT]; rw [q]; exact p⟩
    | lst xs => exact .inr ⟨W, env, rfl, s, r, by dsimp only [iL]; rw [q]; exact p⟩
    | _ => exact p.elim
/-- range(n), range(a, b) -/
def iR1 (ma : Ma) : Mi := fun e st => (ma e st).bind fun ds st1 => match ds with
  | [.int j] => if -(2 ^ 62) ≤ j ∧ j < 2 ^ 62 then .ok (rgD 0 j.toNat) st1 else .no
  | _ => .no
theorem i_rng1 (hg : Gl X "range") (hm : X.mg "range" = none) (ha : PA X [e] (fA (gc X) Wx ma)) (hs : starEach [e] X.env = [(false, eval e X.env)] := by rfl) : PI X tg (.Call (.Name "range" p2) [e] [] pos) (fI (gc X) Wx (iR1 ma)) :=
  PI.imp (pi_range1 hg hm ha hs) fun σ H R h => by
    obtain ⟨W, env, rfl, s, r, p⟩ := h
    refine ⟨W, env, rfl, s, r, ?_⟩
    dsimp only [iR1] at p
    cases q : ma env W.st with
    | exc x st1 => rw [q] at p; exact p
    | no => rw [q] at p; exact p
    | ok ds st1 =>
      rw [q] at p
      refine fun W1 e1 s1 hs v hv => ?_
      cases hv with
      | nil => exact p.elim
      | @cons v d vs ds h1 t =>
        cases t with
        | cons _ _ => cases d <;> exact p.elim
        | nil =>
          cases d with
          | int j =>
            cases h1.int_inv
            dsimp only [Res.bind] at p
            split at p
            · rename_i hj
              exact ⟨j, rfl, hj.1, hj.2, p W1 e1 s1 hs _ (it_rng 0 j.toNat)⟩
            · exact p.elim
          | _ => exact p.elim
def iR2 (ma : Ma) : Mi := fun e st => (ma e st).bind fun ds st1 => match ds with
  | [.int i, .int j] => if -(2 ^ 62) ≤ i ∧ i < 2 ^ 62 ∧ -(2 ^ 62) ≤ j ∧ j < 2 ^ 62 then .ok (rgD i (j - i).toNat) st1 else .no
  | _ => .no
theorem i_rng2 (hg : Gl X "range") (hm : X.mg "range" = none) (ha : PA X [e, e2] (fA (gc X) Wx ma)) (hs : starEach [e, e2] X.env = [(false, eval e X.env), (false, eval e2 X.env)] := by rfl) (hs2 : starEach [e2] X.env = [(false, eval e2 X.env)] := by rfl) : PI X tg (.Call (.Name "range" p2) [e, e2] [] pos) (fI (gc X) Wx (iR2 ma)) :=
  PI.imp (pi_range2 hg hm ha hs hs2) fun σ H R h => by
    obtain ⟨W, env, rfl, s, r, p⟩ := h
    refine ⟨W, env, rfl, s, r, ?_⟩
    dsimp only [iR2] at p
    cases q : ma env W.st with
    | exc x st1 => rw [q] at p; exact p
    | no => rw [q] at p; exact p
    | ok ds st1 =>
      rw [q] at p
      refine fun W1 e1 s1 hs v hv => ?_
      cases hv with
      | nil => exact p.elim
      | @cons v d vs ds h1 t =>
        cases t with
        | nil => cases d <;> exact p.elim
        | @cons v2 d2 vs ds h2 t =>
          cases t with
          | cons _ _ => cases d <;> cases d2 <;> exact p.elim
          | nil =>
            cases d with
            | int i =>
              cases d2 with
              | int j =>
                cases h1.int_inv
                cases h2.int_inv
                dsimp only [Res.bind] at p
                split at p
                · rename_i hj
                  exact ⟨i, j, rfl, hj, p W1 e1 s1 hs _ (it_rng i (j - i).toNat)⟩
                · exact p.elim
              | _ => exact p.elim
            | _ => cases d2 <;> exact p.elim
end
end FL
end
section
set_option Elab.async false
set_option linter.all false
set_option maxRecDepth 100000
/-! FLL: loops, blocks that drop their cells, comprehensions. -/
namespace FL
open PySem PySem.Spec PyProof.Rows L2

/-! ### cells dropped behind a block -/
def lowO (L : Nat) : Option D → Option D
  | some d => if d.low L = true then some d else none
  | none => none
def scp (L : Nat) : Fl → Fl
  | .nx e st => if st.length = L then .nx e st else if (st.take L).all (Cell.low L) = true then .nx (e.map (lowO L)) (st.take L) else .no
  | .ct e st => if st.length = L then .ct e st else if (st.take L).all (Cell.low L) = true then .ct (e.map (lowO L)) (st.take L) else .no
  | .bk e st => if st.length = L then .bk e st else if (st.take L).all (Cell.low L) = true then .bk (e.map (lowO L)) (st.take L) else .no
  | r => r
def mScope (ms : Ms) : Ms := fun e st => scp st.length (ms e st)
theorem EnvR.cut {g : Gc} {W : Wd} {σ : L2.St} {env : En} (r : EnvR g W σ env) (L : Nat) : EnvR g (W.cut L) σ (env.map (lowO L)) := by
  refine ⟨by rw [List.length_map]; exact r.len, fun i d h => ?_⟩
  rw [List.getElem?_map] at h
  obtain ⟨o, ho, e⟩ := Option.map_eq_some_iff.mp h
  cases o with
  | none => cases e
  | some d' =>
    dsimp only [lowO] at e
    by_cases hd : d'.low L = true
    · rw [if_pos hd] at e
      cases e
      obtain ⟨v, h1, h2⟩ := r.at_ i d ho
      exact ⟨v, h1, h2.cut hd⟩
    · rw [if_neg hd] at e; cases e
theorem scp_ok {g : Gc} {W : Wd} {Wx : WX} {r : Fl} {Z : Ends} (s : SR g W) (p : PostS g W Wx (scp W.st.length r) Z) : PostS g W Wx r Z := by
  have cutS : ∀ {W' : Wd}, Ext W W' → SR g W' → (W'.st.take W.st.length).all (Cell.low W.st.length) = true → Ext W (W'.cut W.st.length) ∧ SR g (W'.cut W.st.length) := fun e s' h => ⟨e.cut (by rw [s.len]; exact Nat.le_refl _), s'.cut (List.all_eq_true.mp h)⟩
  cases r with
  | nx e st =>
    dsimp only [scp] at p
    split at p
    · exact p
    · split at p
      · rename_i h
        intro W' σ' e' s' hs r
        rw [← hs] at h p
        obtain ⟨c1, c2⟩ := cutS e' s' h
        exact p (W'.cut W.st.length) σ' c1 c2 rfl (r.cut _)
      · exact p.elim
  | ct e st =>
    dsimp only [scp] at p
    split at p
    · exact p
    · split at p
      · rename_i h
        intro W' σ' e' s' hs r
        rw [← hs] at h p
        obtain ⟨c1, c2⟩ := cutS e' s' h
        exact p (W'.cut W.st.length) σ' c1 c2 rfl (r.cut _)
      · exact p.elim
  | bk e st =>
    dsimp only [scp] at p
    split at p
    · exact p
    · split at p
      · rename_i h
        intro W' σ' e' s' hs r
        rw [← hs] at h p
        obtain ⟨c1, c2⟩ := cutS e' s' h
        exact p (W'.cut W.st.length) σ' c1 c2 rfl (r.cut _)
      · exact p.elim
  | _ => exact p
theorem fS_scope {g : Gc} {Wx : WX} {ms : Ms} {Z : Ends} {σ : L2.St} {H : Hp} (h : fS g Wx (mScope ms) Z σ H) : fS g Wx ms Z σ H := by
  obtain ⟨W, env, e, s, r, p⟩ := h
  exact ⟨W, env, e, s, r, scp_ok s p⟩
theorem ss_scope {X : Cx} {Wx : WX} {sts : List Stmt} {ms : Ms} (h : PSs X sts (fS (gc X) Wx ms)) : PSs X sts (fS (gc X) Wx (mScope ms)) := PSs.imp h fun D σ H q => fS_scope q

/-! ### while -/
def whL (t : Mt) (b : Ms) : Nat → Ms
  | 0, _, _ => .no
  | n + 1, e, st => (t e st).flB e fun c st1 => if c = true then (match b e st1 with
    | .nx e2 st2 => whL t b n e2 st2
    | .ct e2 st2 => whL t b n e2 st2
    | .bk e2 st2 => .nx e2 st2
    | r => r) else .nx e st1
theorem s_while {X : Cx} {Wx : WX} {pos : Pos} {c : Expr} {body : List Stmt} {t : Mt} {b : Ms} (n : Nat) (hp : PassesOwn (model X.prog X.w) X.A X.env X.xe) (hc : PT X c (fT (gc X) Wx t)) (hb : PSs X body (fS (gc X) Wx b)) : PS X (.While c body [] pos) (fS (gc X) Wx (whL t b n)) :=
  PS.imp (ps_while hp hc hb) fun Z σ H h => by
    refine ⟨fun m σ H => fS (gc X) Wx (whL t b m) Z σ H, ⟨n, h⟩, fun m σ H h => ?_⟩
    cases m with
    | zero => obtain ⟨W, env, rfl, s, r, p⟩ := h; exact p.elim
    | succ m =>
      refine fG_mono (liftSB (k := fun c e st1 => if c = true then (match b e st1 with
        | .nx e2 st2 => whL t b m e2 st2
        | .ct e2 st2 => whL t b m e2 st2
        | .bk e2 st2 => .nx e2 st2
        | r => r) else .nx e st1) h) fun c H' q => ?_
      cases c with
      | false =>
        rw [if_neg Bool.false_ne_true]
        obtain ⟨W, env, rfl, s, r, p⟩ := q
        simp only [Bool.false_eq_true, if_false] at p
        exact p W σ (Ext.refl W) s rfl r
      | true =>
        rw [if_pos rfl]
        refine ⟨fun σ H => fS (gc X) Wx (whL t b m) Z σ H, fun σ' H' h => ⟨m, Nat.lt_succ_self m, h⟩, ?_⟩
        obtain ⟨W, env, rfl, s, r, p⟩ := q
        refine ⟨W, env, rfl, s, r, ?_⟩
        simp only [if_true] at p
        cases q : b env W.st with
        | nx e2 st2 => rw [q] at p; exact fun W1 σ1 e1 s1 hs r1 => ⟨W1, e2, rfl, s1, r1, by rw [hs]; exact PostS.ext p e1⟩
        | ct e2 st2 => rw [q] at p; exact fun W1 σ1 e1 s1 hs r1 => ⟨W1, e2, rfl, s1, r1, by rw [hs]; exact PostS.ext p e1⟩
        | bk e2 st2 => rw [q] at p; exact p
        | rt e2 st2 => rw [q] at p; exact p
        | exc x e2 st2 => rw [q] at p; exact p
        | no => rw [q] at p; exact p

/-! ### for -/
def foL (k : Mg) (b : Ms) : List D → Ms
  | [], e, st => .nx e st
  | x :: xs, e, st => match (k x e st).only with
    | .nx e1 st1 => (match b e1 st1 with
      | .nx e2 st2 => foL k b xs e2 st2
      | .ct e2 st2 => foL k b xs e2 st2
      | .bk e2 st2 => .nx e2 st2
      | r => r)
    | r => r
def mFor (mi : Mi) (k : Mg) (b : Ms) : Ms := fun e st => (mi e st).flB e fun xs st1 => foL k b xs e st1
theorem s_for {X : Cx} {Wx : WX} {pos : Pos} {tg iter : Expr} {body : List Stmt} {mi : Mi} {k : Mg} {b : Ms} {ns : List Nat} (hp : PassesOwn (model X.prog X.w) X.A X.env X.xe) (hc : X.calm = true) (hi : PI X tg iter (fI (gc X) Wx mi)) (hg : PG X tg (fTg (gc X) Wx ns k))
    (hb : PSs X body (fS (gc X) Wx b)) (hs : ∀ x, foldedSetIterable iter X.env x = pure x := by intro _; rfl) : PS X (.For tg iter body [] pos) (fS (gc X) Wx (mFor mi k b)) :=
  PS.imp (ps_for hp hc hi hg hb hs) fun Z σ H h => by
    obtain ⟨W, env, rfl, s, r, p⟩ := h
    refine ⟨W, env, rfl, s, r, ?_⟩
    dsimp only [mFor] at p
    cases q : mi env W.st with
    | exc x st1 => rw [q] at p; exact fun W1 e1 s1 hs => p W1 σ e1 s1 hs (r.mono e1)
    | no => rw [q] at p; exact p
    | ok xs st1 =>
      rw [q] at p
      refine fun W1 e1 s1 hs J ok => ?_
      refine ⟨fun i m σ H => m = xs.length - i ∧ i ≤ xs.length ∧ ∃ (W2 : Wd) (env : En), W2.H = H ∧ Ext W1 W2 ∧ SR (gc X) W2 ∧ EnvR (gc X) W2 σ env ∧ PostS (gc X) W2 Wx (foL k b (xs.drop i) env W2.st) Z,
        ⟨xs.length, by simp, Nat.zero_le _, W1, env, rfl, Ext.refl _, s1, r.mono e1, by rw [hs]; exact PostS.ext p e1⟩, ?_⟩
      rintro i m σ H ⟨rfl, hi, W2, env2, rfl, e2, s2, r2, p2⟩
      by_cases hlt : i < xs.length
      · obtain ⟨d, hd⟩ : ∃ d, xs[i]? = some d := ⟨xs[i], by simp [hlt]⟩
        obtain ⟨go, yld⟩ := ok.go W2 i d e2.toExtW s2 hd
        have hdrop : xs.drop i = d :: xs.drop (i + 1) := by
          rw [List.drop_eq_getElem_cons hlt]
          congr 1
          rw [List.getElem?_eq_getElem hlt] at hd
          exact Option.some.inj hd
        rw [hdrop] at p2
        refine .inr ⟨go, fun σ' H' => i + 1 ≤ xs.length ∧ ∃ (W2 : Wd) (env : En), W2.H = H' ∧ Ext W1 W2 ∧ SR (gc X) W2 ∧ EnvR (gc X) W2 σ' env ∧ PostS (gc X) W2 Wx (foL k b (xs.drop (i + 1)) env W2.st) Z, fun σ' H' ⟨h1, h2⟩ => ⟨xs.length - (i + 1), by omega, rfl, h1, h2⟩, fun x H' y => ?_⟩
        obtain ⟨W3, rfl, e3, s3, hs3, hv⟩ := yld x H' y
        refine ⟨W3, env2, d, rfl, s3, r2.mono e3, hv, ?_⟩
        rw [hs3]
        have p3 := PostS.ext p2 e3
        dsimp only [foL] at p3
        cases q3 : k d env2 W2.st with
        | exc x e st => rw [q3] at p3; exact p3
        | nx e4 st4 =>
          rw [q3] at p3
          refine fun W4 σ4 e4' s4 hs4 r4 _ => ⟨W4, e4, rfl, s4, r4, ?_⟩
          dsimp only [Fl.only] at p3
          have p4 := PostS.ext p3 e4'
          rw [hs4]
          cases q5 : b e4 st4 with
          | nx e5 st5 => rw [q5] at p4; exact fun W5 σ5 e5' s5 hs5 r5 => ⟨hlt, W5, e5, rfl, (((e2.trans e3).trans e4').trans e5'), s5, r5, by rw [hs5]; exact PostS.ext p4 e5'⟩
          | ct e5 st5 => rw [q5] at p4; exact fun W5 σ5 e5' s5 hs5 r5 => ⟨hlt, W5, e5, rfl, (((e2.trans e3).trans e4').trans e5'), s5, r5, by rw [hs5]; exact PostS.ext p4 e5'⟩
          | bk e5 st5 => rw [q5] at p4; exact p4
          | rt e5 st5 => rw [q5] at p4; exact p4
          | exc x e5 st5 => rw [q5] at p4; exact p4
          | no => rw [q5] at p4; exact p4
        | _ => rw [q3] at p3; exact p3.elim
      · have ei : i = xs.length := by omega
        subst ei
        refine .inl ⟨ok.stop W2 _ e2.toExtW s2 rfl, ?_⟩
        rw [List.drop_length] at p2
        exact p2 W2 σ (Ext.refl _) s2 rfl r2

/-! ### comprehensions -/
def wipeE (e : En) : List Nat → En
  | [] => e
  | v :: vs => (wipeE e vs).set v none
theorem EnvR.wipe {g : Gc} {W : Wd} {σ : L2.St} {env : En} (r : EnvR g W σ env) : ∀ vs : List Nat, EnvR g W (L2.wipe σ vs) (wipeE env vs)
  | [] => r
  | v :: vs => by
    have ih := r.wipe vs
    refine ⟨by show ((L2.wipe σ vs).set v none).length = ((wipeE env vs).set v none).length; rw [List.length_set, List.length_set]; exact ih.len, fun i d h => ?_⟩
    have h' : ((wipeE env vs).set v none)[i]? = some (some d) := h
    show ∃ u, ((L2.wipe σ vs).set v none)[i]? = some (some u) ∧ _
    by_cases e : v = i
    · subst e
      by_cases hl : v < (wipeE env vs).length
      · rw [List.getElem?_set_self hl] at h'; cases h'
      · rw [List.getElem?_eq_none (by simpa using hl)] at h'; cases h'
    · rw [List.getElem?_set_ne e] at h'
      rw [List.getElem?_set_ne e]
      exact ih.at_ i d h'
def tYe : Mt := fun _ st => .ok true st
def lcL (k : Mg) (t : Mt) (m : Me) (e : En) : List D → Store → List D → Res (List D)
  | [], st, acc => .ok acc st
  | x :: xs, st, acc => match k x e st with
    | .nx e1 st1 => (t e1 st1).bindN fun b st2 => if b = true then (m e1 st2).bindN fun d st3 => (if acc.length < BIG then lcL k t m e xs st3 (acc ++ [d]) else .no) else lcL k t m e xs st2 acc
    | _ => .no
def mLc (vs : List Nat) (mi : Mi) (k : Mg) (t : Mt) (m : Me) : Me := fun e st => (mi e st).bind fun xs st1 => (lcL k t m (wipeE e vs) xs st1 []).bind fun ys st2 => .ok (.lst ys) st2
/-- .. made as a cell -/
def mLcC (vs : List Nat) (mi : Mi) (k : Mg) (t : Mt) (m : Me) : Me := fun e st => (mi e st).bind fun xs st1 => (lcL k t m (wipeE e vs) xs st1 []).bind fun ys st2 => .ok (.ref st2.length) (st2 ++ [.lst ys])
abbrev noX : WX := fun _ _ _ _ => False
theorem t_yes {X : Cx} : PTs X [] (fT (gc X) noX tYe) := ⟨fun pins s σ H Q I h => pts_nil.run pins s σ H Q I (fT_ok h)⟩
theorem t_one {X : Cx} {c : Expr} {t : Mt} (h : PT X c (fT (gc X) noX t)) : PTs X [c] (fT (gc X) noX t) := pts_one h
end FL
end
section
set_option Elab.async false
set_option linter.all false
set_option maxRecDepth 100000
/-! FLM: list comprehensions. -/
namespace FL
open PySem PySem.Spec PyProof.Rows L2

/-- the new list at p is kept for the comprehension -/
def Wd.push (W : Wd) (p : Addr) (vs : List V) : Wd := { W with H := upd W.H p (.lst vs), rs := p :: W.rs }
/-- as Ext, but for what stands at p -/
structure ExtP (p : Addr) (W W' : Wd) : Prop extends ExtW W W' where
  rs : W'.rs = W.rs
  rk : ∀ a ∈ W.rs, a ≠ p → W'.H a = W.H a
theorem ExtP.refl {p : Addr} (W : Wd) : ExtP p W W := ⟨.refl W, rfl, fun _ _ _ => rfl⟩
theorem ExtP.trans {p : Addr} {W W1 W2 : Wd} (a : ExtP p W W1) (b : ExtP p W1 W2) : ExtP p W W2 :=
  ⟨a.toExtW.trans b.toExtW, b.rs.trans a.rs, fun c h n => (b.rk c (by rw [a.rs]; exact h) n).trans (a.rk c h n)⟩
theorem Ext.toP {p : Addr} {W W' : Wd} (e : Ext W W') : ExtP p W W' := ⟨e.toExtW, e.rs, fun a h _ => e.rk a h⟩
section
variable {g : Gc} {W : Wd} {p : Addr}
theorem push_mono {vs : List V} (hp : W.H p = none) : ExtW W (W.push p vs) := by
  refine ⟨fun a o h n => ?_, fun _ _ h => h⟩
  have ha : a ≠ p := fun e => by rw [e, hp] at h; cases h
  refine ⟨by show upd W.H p _ a = _; rw [upd_ne ha]; exact h, ?_⟩
  rintro (m | m)
  · rcases List.mem_cons.mp m with m | m
    · exact ha m
    · exact n (.inl m)
  · exact n (.inr m)
theorem SR.push {vs : List V} (s : SR g W) (hp : W.H p = none) : SR g (W.push p vs) := by
  have hn : ∀ {a : Addr}, (∃ o, W.H a = some o) → a ≠ p := fun ⟨o, h⟩ e => by rw [e, hp] at h; cases h
  have st : ∀ {a : Addr} {u : HO}, W.H a = some u → upd W.H p (.lst vs) a = some u := fun h => by rw [upd_ne (hn ⟨_, h⟩)]; exact h
  refine ⟨s.len, s.nd, fun a ha => (s.ex a ha).imp fun _ h => st h, fun a ha => ?_, fun n a c h1 h2 => (s.cell n a c h1 h2).mono (push_mono hp) fun hl => upd_ne (hn ((s.cell n a c h1 h2).there hl))⟩
  rcases List.mem_cons.mp ha with e | ha
  · subst e
    exact ⟨⟨_, upd_same, fun xs e => nomatch e⟩, fun h => hn (s.ex _ h) rfl⟩
  · exact ⟨(s.rx a ha).1.imp fun _ h => ⟨st h.1, h.2⟩, (s.rx a ha).2⟩
/-- .. is written -/
def Wd.wr (W : Wd) (p : Addr) (vs : List V) : Wd := { W with H := upd W.H p (.lst vs) }
theorem wr_ext {vs : List V} (hp : p ∈ W.rs) : ExtP p W (W.wr p vs) := by
  refine ⟨⟨fun a o h n => ?_, fun _ _ h => h⟩, rfl, fun a _ n => upd_ne n⟩
  have ha : a ≠ p := fun e => n (.inl (e ▸ hp))
  exact ⟨by show upd W.H p _ a = _; rw [upd_ne ha]; exact h, n⟩
theorem SR.wr {vs : List V} (s : SR g W) (hp : p ∈ W.rs) : SR g (W.wr p vs) := by
  have hcs : p ∉ W.cs := (s.rx p hp).2
  have hne : ∀ {a}, a ∈ W.cs → a ≠ p := fun h e => hcs (e ▸ h)
  refine ⟨s.len, s.nd, fun a ha => ?_, fun a ha => ⟨?_, (s.rx a ha).2⟩, fun n a c h1 h2 => (s.cell n a c h1 h2).mono (wr_ext hp).toExtW fun hl => upd_ne (hne (List.mem_of_getElem? h1))⟩
  · show ∃ u, upd W.H p _ a = some u
    rw [upd_ne (hne ha)]; exact s.ex a ha
  · show ∃ u, upd W.H p _ a = some u ∧ _
    by_cases h : a = p
    · subst h; exact ⟨_, upd_same, fun xs e => nomatch e⟩
    · rw [upd_ne h]; exact (s.rx a ha).1
/-- .. is given free: a new frozen list -/
def Wd.pop (W : Wd) : Wd := { W with rs := W.rs.tail }
theorem pop_mono : ExtW W W.pop := ⟨fun a o h n => ⟨h, fun m => n (m.elim (fun m => .inl (List.mem_of_mem_tail m)) .inr)⟩, fun _ _ h => h⟩
theorem SR.pop (s : SR g W) : SR g W.pop := ⟨s.len, s.nd, s.ex, fun a ha => s.rx a (List.mem_of_mem_tail ha), fun n a c h1 h2 => (s.cell n a c h1 h2).mono pop_mono fun _ => rfl⟩
end
theorem wipe_wipe (σ : L2.St) : ∀ vs : List Nat, L2.wipe (L2.wipe σ vs) vs = L2.wipe σ vs
  | [] => rfl
  | v :: vs => by
    show (L2.wipe ((L2.wipe σ vs).set v none) vs).set v none = (L2.wipe σ vs).set v none
    by_cases h : v ∈ vs
    · rw [wipe_set h, wipe_wipe σ vs]
    · rw [wipe_set_out h, wipe_wipe σ vs, List.set_set]
/-- what is wanted behind the comprehension's turns -/
def PostC (g : Gc) (W0 : Wd) (p : Addr) (r : Res (List D)) (R : Wd → List D → Prop) : Prop := match r with
  | .ok ys st' => ∀ W' vs, ExtP p W0 W' → SR g W' → W'.st = st' → W'.H p = some (.lst vs) → DenL g W' vs ys → R W' ys
  | _ => False
theorem PostC.ext {g : Gc} {W0 W1 : Wd} {p : Addr} {r : Res (List D)} {R : Wd → List D → Prop} (h : PostC g W0 p r R) (e : ExtP p W0 W1) : PostC g W1 p r R := by
  cases r with
  | ok ys st => exact fun W' vs e' => h W' vs (e.trans e')
  | _ => exact h
section
variable {X : Cx} {Wx : WX} {elt tg iter : Expr} {ifs : List Expr} {scope : Scope} {own : List (Str × Nat)} {pos : Pos} {mi : Mi} {k : Mg} {t : Mt} {m : Me}
theorem lcL_no_exc {e : En} : ∀ (xs : List D) (st : Store) (acc : List D) (x : Exn) (st' : Store), lcL k t m e xs st acc ≠ .exc x st'
  | [], st, acc, x, st', h => by cases h
  | y :: xs, st, acc, x, st', h => by
    unfold lcL at h
    cases q : k y e st with
    | nx e1 st1 =>
      rw [q] at h
      dsimp only at h
      cases q2 : t e1 st1 with
      | ok b st2 =>
        rw [q2] at h
        dsimp only [Res.bindN] at h
        split at h
        · cases q3 : m e1 st2 with
          | ok d st3 =>
            rw [q3] at h
            dsimp only at h
            split at h
            · exact lcL_no_exc xs _ _ _ _ h
            · cases h
          | exc _ _ => rw [q3] at h; cases h
          | no => rw [q3] at h; cases h
        · exact lcL_no_exc xs _ _ _ _ h
      | exc _ _ => rw [q2] at h; cases h
      | no => rw [q2] at h; cases h
    | _ => rw [q] at h; cases h
theorem lc_im {σ : L2.St} {H : Hp} {Q : VK} {vs : List Nat} {fin : List D → Store → Res D} (h : fE (gc X) Wx (fun e st => (mi e st).bind fun xs st1 => (lcL k t m (wipeE e vs) xs st1 []).bind fin) σ H Q)
    (hfin : ∀ (W : Wd) (W2 : Wd) (p : Addr) (us : List V) (ys : List D), Ext W W2.pop → W.H p = none → p ∉ W2.rs.tail → SR (gc X) W2 → p ∈ W2.rs → W2.H p = some (.lst us) → DenL (gc X) W2 us ys → Post (gc X) W (wx (gc X) Wx σ) (fin ys W2.st) (fun d W' => ∀ b, rD (gc X) W' b d → Q b W'.H) → Q (.ref p) W2.H) :
    tLc (fI (gc X) Wx mi) (fTg (gc X) noX vs k) (fT (gc X) noX t) (fE (gc X) noX m) vs σ H Q := by
  obtain ⟨W, env, rfl, s, r, p⟩ := h
  refine ⟨W, env, rfl, s, r, ?_⟩
  dsimp only at p
  cases q : mi env W.st with
  | exc x st1 => rw [q] at p; exact p
  | no => rw [q] at p; exact p
  | ok xs st1 =>
    rw [q] at p
    refine fun W1 e1 s1 hs J ok a ha => ?_
    have p1 := Post.ext p e1
    dsimp only [Res.bind] at p1
    rw [← hs] at p1
    have sp : SR (gc X) (W1.push a []) := s1.push ha
    have anr : a ∉ W1.rs := fun h => by obtain ⟨⟨o, h1, _⟩, _⟩ := s1.rx a h; rw [ha] at h1; cases h1
    have unpush : ∀ {W' : Wd}, ExtP a (W1.push a []) W' → Ext W1 W'.pop := fun {W'} e' => by
      have er : W'.rs = a :: W1.rs := e'.rs
      refine ⟨(push_mono ha).trans (e'.toExtW.trans pop_mono), by show W'.rs.tail = W1.rs; rw [er]; rfl, fun b hb => ?_⟩
      have hba : b ≠ a := fun e => anr (e ▸ hb)
      have h1 : W'.H b = (W1.push a []).H b := e'.rk b (List.mem_cons_of_mem _ hb) hba
      show W'.H b = W1.H b
      rw [h1]
      exact upd_ne hba
    have start : PostC (gc X) (W1.push a []) a (lcL k t m (wipeE env vs) xs W1.st []) fun W' ys => Q (.ref a) W'.H := by
      cases q2 : lcL k t m (wipeE env vs) xs W1.st [] with
      | exc x st2 => exact absurd q2 (lcL_no_exc _ _ _ _ _)
      | no => rw [q2] at p1; exact p1
      | ok ys st2 =>
        rw [q2] at p1
        intro W' us e' s' hs' hH hl
        have er : W'.rs = a :: W1.rs := e'.rs
        exact hfin W1 W' a us ys (unpush e') ha (by rw [er]; exact anr) s' (by rw [er]; exact List.mem_cons_self) hH hl (by rw [hs']; exact p1)
    refine ⟨fun i n H => n = xs.length - i ∧ i ≤ xs.length ∧ ∃ (W2 : Wd) (us : List V) (acc : List D), W2.H = H ∧ ExtP a (W1.push a []) W2 ∧ SR (gc X) W2 ∧ W2.H a = some (.lst us) ∧ DenL (gc X) W2 us acc ∧ PostC (gc X) W2 a (lcL k t m (wipeE env vs) (xs.drop i) W2.st acc) fun W' ys => Q (.ref a) W'.H,
      ⟨xs.length, by simp, Nat.zero_le _, W1.push a [], [], [], rfl, ExtP.refl _, sp, upd_same, .nil, start⟩, ?_⟩
    rintro i n H ⟨rfl, hi, W2, us, acc, rfl, e2, s2, h2, l2, p2⟩
    have er2 : W2.rs = a :: W1.rs := e2.rs
    have ha2 : a ∈ W2.rs := by rw [er2]; exact List.mem_cons_self
    have e12 : ExtW W1 W2 := (push_mono ha).trans e2.toExtW
    by_cases hlt : i < xs.length
    · obtain ⟨d, hd⟩ : ∃ d, xs[i]? = some d := ⟨xs[i], by simp [hlt]⟩
      obtain ⟨go, yld⟩ := ok.go W2 i d e12 s2 hd
      have hdrop : xs.drop i = d :: xs.drop (i + 1) := by
        rw [List.drop_eq_getElem_cons hlt]
        congr 1
        rw [List.getElem?_eq_getElem hlt] at hd
        exact Option.some.inj hd
      rw [hdrop] at p2
      refine .inr ⟨go, fun H' => i + 1 ≤ xs.length ∧ ∃ (W2 : Wd) (us : List V) (acc : List D), W2.H = H' ∧ ExtP a (W1.push a []) W2 ∧ SR (gc X) W2 ∧ W2.H a = some (.lst us) ∧ DenL (gc X) W2 us acc ∧ PostC (gc X) W2 a (lcL k t m (wipeE env vs) (xs.drop (i + 1)) W2.st acc) fun W' ys => Q (.ref a) W'.H,
        fun H' ⟨h1, h2⟩ => ⟨xs.length - (i + 1), by omega, rfl, h1, h2⟩, fun x H' y => ?_⟩
      obtain ⟨W3, rfl, e3, s3, hs3, hv⟩ := yld x H' y
      have er : EnvR (gc X) W3 (L2.wipe σ vs) (wipeE env vs) := (((r.mono e1).wipe vs).monoW e12).mono e3
      refine ⟨W3, wipeE env vs, d, rfl, s3, er, hv, ?_⟩
      rw [hs3]
      unfold lcL at p2
      cases q3 : k d (wipeE env vs) W2.st with
      | nx e4 st4 =>
        rw [q3] at p2
        dsimp only at p2
        refine fun W4 σ4 e4' s4 hs4 r4 hw => ⟨hw.trans (wipe_wipe σ vs), W4, e4, rfl, s4, r4, ?_⟩
        rw [hs4]
        cases q4 : t e4 st4 with
        | exc _ _ => rw [q4] at p2; exact p2.elim
        | no => rw [q4] at p2; exact p2.elim
        | ok b st5 =>
          rw [q4] at p2
          dsimp only [Res.bindN] at p2
          refine fun W5 e5 s5 hs5 b' hb => ?_
          subst hb
          have eA : ExtP a W2 W5 := ((e3.trans e4').trans e5).toP
          have hA : W5.H a = some (.lst us) := by
            rw [((e3.trans e4').trans e5).rk a ha2]; exact h2
          cases b' with
          | false =>
            simp only [Bool.false_eq_true, if_false] at p2 ⊢
            exact ⟨hlt, W5, us, acc, rfl, e2.trans eA, s5, hA, l2.monoW eA.toExtW, by rw [hs5]; exact p2.ext eA⟩
          | true =>
            simp only [if_true] at p2 ⊢
            refine ⟨W5, e4, rfl, s5, r4.mono e5, ?_⟩
            rw [hs5]
            cases q6 : m e4 st5 with
            | exc _ _ => rw [q6] at p2; exact p2.elim
            | no => rw [q6] at p2; exact p2.elim
            | ok y st6 =>
              rw [q6] at p2
              dsimp only at p2
              refine fun W6 e6 s6 hs6 u hu => ?_
              have eB : ExtP a W2 W6 := eA.trans e6.toP
              have ha6 : a ∈ W6.rs := by rw [eB.rs]; exact ha2
              have hB : W6.H a = some (.lst us) := by rw [e6.rk a (by rw [eA.rs]; exact ha2)]; exact hA
              split at p2
              · rename_i hz
                have l6 := l2.monoW eB.toExtW
                refine ⟨us, hB, by rw [l6.length, big_eq]; exact hz, hlt, W6.wr a (us ++ [u]), us ++ [u], acc ++ [y], rfl, (e2.trans eB).trans (wr_ext ha6), s6.wr ha6, upd_same, (l6.append (.cons hu .nil)).monoW (wr_ext ha6).toExtW, ?_⟩
                show PostC (gc X) (W6.wr a (us ++ [u])) a (lcL k t m (wipeE env vs) (xs.drop (i + 1)) W6.st (acc ++ [y])) _
                rw [hs6]
                exact p2.ext (eB.trans (wr_ext ha6))
              · exact p2.elim
      | _ => rw [q3] at p2; exact p2.elim
    · have ei : i = xs.length := by omega
      subst ei
      refine .inl ⟨ok.stop W2 _ e12 s2 rfl, ?_⟩
      rw [List.drop_length] at p2
      exact p2 W2 us (ExtP.refl _) s2 rfl h2 l2
/-- the comprehension's list is frozen; a cell -/
theorem lc_frozen {σ : L2.St} {Q : VK} {W W2 : Wd} {p : Addr} {us : List V} {ys : List D} (e : Ext W W2.pop) (hn : W.H p = none) (hr : p ∉ W2.rs.tail) (s2 : SR (gc X) W2) (hp : p ∈ W2.rs) (hH : W2.H p = some (.lst us)) (l : DenL (gc X) W2 us ys)
    (q : Post (gc X) W (wx (gc X) Wx σ) (.ok (.lst ys) W2.st) (fun d W' => ∀ b, rD (gc X) W' b d → Q b W'.H)) : Q (.ref p) W2.H := by
  refine q W2.pop e s2.pop rfl _ (.lstH hH ?_ (l.monoW pop_mono))
  rintro (m | ⟨n, c, h1, _, _⟩)
  · exact hr m
  · exact (s2.rx p hp).2 (List.mem_of_getElem? h1)
theorem lc_cell {σ : L2.St} {Q : VK} {W W2 : Wd} {p : Addr} {us : List V} {ys : List D} (e : Ext W W2.pop) (hn : W.H p = none) (hr : p ∉ W2.rs.tail) (s2 : SR (gc X) W2) (hp : p ∈ W2.rs) (hH : W2.H p = some (.lst us)) (l : DenL (gc X) W2 us ys)
    (q : Post (gc X) W (wx (gc X) Wx σ) (.ok (.ref W2.st.length) (W2.st ++ [.lst ys])) (fun d W' => ∀ b, rD (gc X) W' b d → Q b W'.H)) : Q (.ref p) W2.H := by
  have hcs : p ∉ W2.cs := (s2.rx p hp).2
  have l' := l.monoW pop_mono
  -- the world with p as a cell
  have mu : ∀ {a}, Mu { W2.pop with cs := W2.cs ++ [p], st := W2.st ++ [.lst ys] } a → a = p ∨ Mu W2.pop a := by
    rintro a (m | ⟨n, c, h1, h2, h3⟩)
    · exact .inr (.inl m)
    have h1' : (W2.cs ++ [p])[n]? = some a := h1
    have h2' : (W2.st ++ [.lst ys])[n]? = some c := h2
    by_cases hm : n < W2.cs.length
    · rw [List.getElem?_append_left hm] at h1'
      rw [List.getElem?_append_left (by rw [← s2.len]; exact hm)] at h2'
      exact .inr (.inr ⟨n, c, h1', h2', h3⟩)
    · rw [List.getElem?_append_right (by omega)] at h1'
      cases hq : n - W2.cs.length with
      | zero => rw [hq] at h1'; simp at h1'; exact .inl h1'.symm
      | succ j => rw [hq] at h1'; simp at h1'
  have x2 : ExtW W2 { W2.pop with cs := W2.cs ++ [p], st := W2.st ++ [.lst ys] } := by
    refine ⟨fun a o h n => ⟨h, fun m => ?_⟩, fun n a h => ?_⟩
    · rcases mu m with m | m
      · subst m; exact n (.inl hp)
      · exact (pop_mono.fz a o h n).2 m
    · have hm : n < W2.cs.length := (List.getElem?_eq_some_iff.mp h).1
      show (W2.cs ++ [p])[n]? = some a
      rw [List.getElem?_append_left hm]; exact h
  have x1 : Ext W { W2.pop with cs := W2.cs ++ [p], st := W2.st ++ [.lst ys] } := by
    refine ⟨⟨fun a o h n => ?_, fun n a h => ?_⟩, e.rs, e.rk⟩
    · obtain ⟨h1, n1⟩ := e.fz a o h n
      refine ⟨h1, fun m => ?_⟩
      rcases mu m with m | m
      · subst m; rw [hn] at h; cases h
      · exact n1 m
    · have h1 : W2.cs[n]? = some a := e.cs n a h
      have hm : n < W2.cs.length := (List.getElem?_eq_some_iff.mp h1).1
      show (W2.cs ++ [p])[n]? = some a
      rw [List.getElem?_append_left hm]; exact h1
  refine q _ x1 ⟨?_, ?_, fun a ha => ?_, fun a ha => ?_, fun n a c h1 h2 => ?_⟩ rfl _ (.ref ?_)
  · show (W2.cs ++ [p]).length = (W2.st ++ [Cell.lst ys]).length; simp [s2.len]
  · exact List.nodup_append.mpr ⟨s2.nd, by simp, fun x hx y hy q => by simp at hy; subst hy; exact hcs (q ▸ hx)⟩
  · rcases List.mem_append.mp ha with h | h
    · exact s2.ex a h
    · simp at h; subst h; exact ⟨_, hH⟩
  · have ha' : a ∈ W2.rs.tail := ha
    refine ⟨(s2.rx a (List.mem_of_mem_tail ha')).1, fun h => ?_⟩
    rcases List.mem_append.mp h with h | h
    · exact (s2.rx a (List.mem_of_mem_tail ha')).2 h
    · simp at h; subst h; exact hr ha'
  · have h1' : (W2.cs ++ [p])[n]? = some a := h1
    have h2' : (W2.st ++ [.lst ys])[n]? = some c := h2
    by_cases hm : n < W2.cs.length
    · rw [List.getElem?_append_left hm] at h1'
      rw [List.getElem?_append_left (by rw [← s2.len]; exact hm)] at h2'
      exact (s2.cell n a c h1' h2').mono x2 fun _ => rfl
    · rw [List.getElem?_append_right (by omega)] at h1'
      rw [List.getElem?_append_right (by rw [← s2.len]; omega)] at h2'
      cases hq : n - W2.cs.length with
      | zero =>
        rw [hq] at h1'
        rw [← s2.len, hq] at h2'
        simp at h1' h2'
        subst h1' h2'
        exact ⟨us, hH, l.monoW x2⟩
      | succ j => rw [hq] at h1'; simp at h1'
  · show (W2.cs ++ [p])[W2.st.length]? = some p
    rw [← s2.len]; simp
theorem e_lc (hc : X.calm = true) (hN : X.N.Nodup) (hi : PI X tg iter (fI (gc X) Wx mi)) (ok : BlkOk X.N X.env.scope scope own)
    (hg : ∀ (s : Shared) (H : Hp) (C : Addr) (cl : List (Str × Addr)) (fp : List Addr), PG (X.blk s H scope (compEnvC scope cl C X.env) fp) tg (fTg (gc X) noX (own.map (·.2)) k))
    (ht : ∀ (s : Shared) (H : Hp) (C : Addr) (cl : List (Str × Addr)) (fp : List Addr), PTs (X.blk s H scope (compEnvC scope cl C X.env) fp) ifs (fT (gc X) noX t))
    (he : ∀ (s : Shared) (H : Hp) (C : Addr) (cl : List (Str × Addr)) (fp : List Addr), PE (X.blk s H scope (compEnvC scope cl C X.env) fp) elt (fE (gc X) noX m)) (hs : ∀ x, foldedSetIterable iter X.env x = pure x := by intro _; rfl) :
    PE X (.ListComp elt [⟨tg, iter, ifs, 0⟩] scope pos) (fE (gc X) Wx (mLc (own.map (·.2)) mi k t m)) :=
  PE.imp (pe_lc hc hN hi ok hg ht he hs) fun σ H Q h => lc_im h fun W W2 p us ys a1 a2 a3 a4 a5 a6 a7 a8 => lc_frozen a1 a2 a3 a4 a5 a6 a7 a8
theorem e_lcC (hc : X.calm = true) (hN : X.N.Nodup) (hi : PI X tg iter (fI (gc X) Wx mi)) (ok : BlkOk X.N X.env.scope scope own)
    (hg : ∀ (s : Shared) (H : Hp) (C : Addr) (cl : List (Str × Addr)) (fp : List Addr), PG (X.blk s H scope (compEnvC scope cl C X.env) fp) tg (fTg (gc X) noX (own.map (·.2)) k))
    (ht : ∀ (s : Shared) (H : Hp) (C : Addr) (cl : List (Str × Addr)) (fp : List Addr), PTs (X.blk s H scope (compEnvC scope cl C X.env) fp) ifs (fT (gc X) noX t))
    (he : ∀ (s : Shared) (H : Hp) (C : Addr) (cl : List (Str × Addr)) (fp : List Addr), PE (X.blk s H scope (compEnvC scope cl C X.env) fp) elt (fE (gc X) noX m)) (hs : ∀ x, foldedSetIterable iter X.env x = pure x := by intro _; rfl) :
    PE X (.ListComp elt [⟨tg, iter, ifs, 0⟩] scope pos) (fE (gc X) Wx (mLcC (own.map (·.2)) mi k t m)) :=
  PE.imp (pe_lc hc hN hi ok hg ht he hs) fun σ H Q h => lc_im h fun W W2 p us ys a1 a2 a3 a4 a5 a6 a7 a8 => lc_cell a1 a2 a3 a4 a5 a6 a7 a8
end
end FL
end
section
set_option Elab.async false
set_option linter.all false
set_option maxRecDepth 100000
/-! FLN: a def's contract, calls. -/
namespace FL
open PySem PySem.Spec PyProof.Rows L2

/-! ### a def as a function of data -/
def popR (L : Nat) (d : D) (st : Store) : Res D := if st.length = L then .ok d st else if (d.low L && (st.take L).all (Cell.low L)) = true then .ok d (st.take L) else .no
def popX (L : Nat) (x : Exn) (st : Store) : Res D := if st.length = L then .exc x st else if (lowF L x.2 && (st.take L).all (Cell.low L)) = true then .exc x (st.take L) else .no
def finF (keep : Bool) (L : Nat) (r : Fl) : Res D := match r with
  | .nx _ st => if keep = true then .ok .non st else popR L .non st
  | .rt d st => if keep = true then .ok d st else popR L d st
  | .exc x _ st => if keep = true then .exc x st else popX L x st
  | _ => .no
def mkF (keep : Bool) (n N : Nat) (b : Ms) (ds : List D) (st : Store) : Res D := if ds.length = n then finF keep st.length (b (ds.map some ++ List.replicate (N - n) none) st) else .no
/-- the promise -/
def spF (g : Gc) (F : List D → Store → Res D) : Sp := fun vs H Q E => ∃ (W : Wd) (ds : List D), W.H = H ∧ SR g W ∧ DenL g W vs ds ∧
  Post g W (fun x W' => ∀ cls dd, ExD g W' cls dd x → E cls dd W'.H) (F ds W.st) fun d W' => ∀ v, Den g W' v d → Q v W'.H
theorem ExD.cut {g : Gc} {W : Wd} {cls : Value} {dd : Option Addr} {x : Exn} {L : Nat} (h : ExD g W cls dd x) (hl : lowF L x.2 = true) : ExD g (W.cut L) cls dd x := by
  obtain ⟨x1, x2⟩ := x
  obtain ⟨h1, h2⟩ := h
  refine ⟨h1, ?_⟩
  cases x2 with
  | nil => exact h2
  | cons p r =>
    obtain ⟨a, vs, q1, q2, q3, q4, q5⟩ := h2
    exact ⟨a, vs, q1, q2, fun m => q3 m.cut, q4, q5.cut (lowF_v hl)⟩
theorem start_env {g : Gc} {W : Wd} {vs : List V} {ds : List D} {N : List Str} (l : DenL g W vs ds) (n : Nat) (hn : ds.length = n) : EnvR g W (L2.start N vs) (ds.map some ++ List.replicate (N.length - n) none) := by
  refine ⟨by unfold L2.start; simp [l.length, hn], fun i d h => ?_⟩
  unfold L2.start
  by_cases hi : i < ds.length
  · rw [List.getElem?_append_left (by simpa using hi), List.getElem?_map] at h
    obtain ⟨d', hd, e⟩ := Option.map_eq_some_iff.mp h
    cases e
    obtain ⟨v, hv, hd'⟩ := l.getD' hd
    refine ⟨v, ?_, hd'⟩
    rw [List.getElem?_append_left (by rw [List.length_map, l.length]; exact hi), List.getElem?_map, hv]; rfl
  · rw [List.getElem?_append_right (by simpa using hi)] at h
    rw [List.getElem?_replicate] at h
    split at h <;> cases h
section
variable {P : Program} {w : World} {K : PySem.W.Frag} {mg : Str → Option Value} {base : Heap}
theorem mk_body {N ps : List Str} {b : Ms} {keep : Bool} {W : Wd} {ds : List D} {vs : List V} {Q : VK} {E : XK} (_hpre : N.take ps.length = ps) (l : DenL ⟨P, w, K⟩ W vs ds) (hn : ds.length = ps.length) (s : SR ⟨P, w, K⟩ W)
    (p : Post ⟨P, w, K⟩ W (fun x W' => ∀ cls dd, ExD ⟨P, w, K⟩ W' cls dd x → E cls dd W'.H) (finF keep W.st.length (b (ds.map some ++ List.replicate (N.length - ps.length) none) W.st)) fun d W' => ∀ v, Den ⟨P, w, K⟩ W' v d → Q v W'.H) :
    fS ⟨P, w, K⟩ (fun cls dd _ H => E cls dd H) b { nx := fun _ H' => Q .non H', rt := Q } (L2.start N vs) W.H := by
  refine ⟨W, ds.map some ++ List.replicate (N.length - ps.length) none, rfl, s, start_env l _ hn, ?_⟩
  have cutS : ∀ {W' : Wd}, Ext W W' → SR ⟨P, w, K⟩ W' → (W'.st.take W.st.length).all (Cell.low W.st.length) = true → Ext W (W'.cut W.st.length) ∧ SR ⟨P, w, K⟩ (W'.cut W.st.length) := fun e s' h => ⟨e.cut (by rw [s.len]; exact Nat.le_refl _), s'.cut (List.all_eq_true.mp h)⟩
  have popOk : ∀ (d : D) (st' : Store), Post ⟨P, w, K⟩ W (fun x W' => ∀ cls dd, ExD ⟨P, w, K⟩ W' cls dd x → E cls dd W'.H) (if keep = true then .ok d st' else popR W.st.length d st') (fun d W' => ∀ v, Den ⟨P, w, K⟩ W' v d → Q v W'.H) →
      ∀ W' v, Ext W W' → SR ⟨P, w, K⟩ W' → W'.st = st' → Den ⟨P, w, K⟩ W' v d → Q v W'.H := by
    intro d st' p W' v e s' hs hv
    split at p
    · exact p W' e s' hs v hv
    · dsimp only [popR] at p
      split at p
      · exact p W' e s' hs v hv
      · split at p
        · rename_i h
          obtain ⟨l1, l2⟩ := ba2 h
          rw [← hs] at l2 p
          obtain ⟨c1, c2⟩ := cutS e s' l2
          exact p (W'.cut W.st.length) c1 c2 rfl v (hv.cut l1)
        · exact p.elim
  cases q : b (ds.map some ++ List.replicate (N.length - ps.length) none) W.st with
  | nx e st' =>
    rw [q] at p
    exact fun W' σ' e' s' hs r => popOk .non st' p W' .non e' s' hs .non
  | rt d st' =>
    rw [q] at p
    exact fun W' v e' s' hs hv => popOk d st' p W' v e' s' hs hv
  | exc x e st' =>
    rw [q] at p
    intro W' σ' e' s' hs r cls dd hx
    dsimp only [finF] at p
    split at p
    · exact p W' e' s' hs cls dd hx
    · dsimp only [popX] at p
      split at p
      · exact p W' e' s' hs cls dd hx
      · split at p
        · rename_i h
          obtain ⟨l1, l2⟩ := ba2 h
          rw [← hs] at l2 p
          obtain ⟨c1, c2⟩ := cutS e' s' l2
          exact p (W'.cut W.st.length) c1 c2 rfl cls dd (hx.cut l1)
        · exact p.elim
  | bk e st' => rw [q] at p; exact p.elim
  | ct e st' => rw [q] at p; exact p.elim
  | no => rw [q] at p; exact p.elim
/-- a def keeps its contract -/
theorem fn_ok {x qual : Str} {st : Stmt} {f : Addr} {fd : FuncData} {N ps : List Str} {k : Nat} {b : Ms} {keep : Bool} (F : Fun K x qual st f fd) (S : FnScope N ps (defScope st))
    (hb : ∀ (cdv : Value) (A : Around) (outer : List Env) (s : Shared) (H : Hp) (E : XK), Room k (A.deeper (envOfC qual (defScope st) s.heap.objs.size f cdv)) →
      PSs (cxOf (L2.CX P w) P w K mg base N qual (defScope st) f cdv A outer s H E) (defBody st) (fS ⟨P, w, K⟩ (fun cls dd _ H => E cls dd H) b)) :
    FnOk P w K mg base (L2.CX P w) (k + 1) f fd ps (spF ⟨P, w, K⟩ (mkF keep ps.length N.length b)) := by
  refine F.okX S (fun vs H Q E h => ?_) (fun cdv A outer s H vs Q E hr h => ⟨_, hb cdv A outer s H E hr, ?_⟩)
  · obtain ⟨W, ds, rfl, s, l, p⟩ := h
    dsimp only [mkF] at p
    split at p
    · rw [l.length]; assumption
    · exact p.elim
  · obtain ⟨W, ds, rfl, s, l, p⟩ := h
    dsimp only [mkF] at p
    split at p
    · rename_i hn
      exact mk_body S.pre l hn s p
    · exact p.elim
end

/-! ### calls -/
section
variable {X : Cx} {Wx : WX} {k : Nat} {f : Addr} {fd : FuncData} {ps : List Str} {F : List D → Store → Res D} {x : Str} {p pos : Pos} {e : Expr} {es : List Expr} {m : Ma}
theorem e_call (G : FnOk X.prog X.w X.K X.mg X.base (L2.CX X.prog X.w) k f fd ps (spF (gc X) F)) (hr : Room k X.A) (tk : Takes X Wx) (hg : Gl X x) (hm : X.mg x = some (.ref f)) (hk : PySem.W.keepIn X.K (.ref f) = true) (hb : Binds X.K fd ps [])
    (ha : PA X (e :: es) (fA (gc X) Wx m)) (hdb : (x == ("__debug__" : Str)) = false := by decide) (he : starEach (e :: es) X.env = (false, eval e X.env) :: starEach es X.env := by rfl) (hpl : (backTo pos (starEach es X.env)).any (·.1) = false := by rfl) :
    PE X (.Call (.Name x p) (e :: es) [] pos) (fE (gc X) Wx (aL F m)) :=
  PE.imp (pe_callS G hr hg hm hk hb (passAt tk) ha hdb he hpl) fun σ H Q h => by
    dsimp only [tCallS]
    exact fG_mono (liftL h) fun vs H' ⟨W, ds, e0, s, l, p⟩ => ⟨W, ds, e0, s, l, p⟩
theorem e_call0 (G : FnOk X.prog X.w X.K X.mg X.base (L2.CX X.prog X.w) k f fd ps (spF (gc X) F)) (hr : Room k X.A) (tk : Takes X Wx) (hg : Gl X x) (hm : X.mg x = some (.ref f)) (hk : PySem.W.keepIn X.K (.ref f) = true) (hb : Binds X.K fd ps [])
    (hdb : (x == ("__debug__" : Str)) = false := by decide) :
    PE X (.Call (.Name x p) [] [] pos) (fE (gc X) Wx fun _ st => F [] st) := by
  refine ⟨fun pins s σ H Q I h => ?_⟩
  refine wpAny_Call_Name_kw (ld_glob I hg hm ?_ hdb)
  obtain ⟨W, env, rfl, sr, r, p⟩ := h
  exact PySem.W.callWith_K0 I.kIn hk (run_fnS (us := []) G hr hb (passAt tk σ) I .nil ⟨W, [], rfl, sr, .nil, p⟩)
end
end FL
end
section
set_option Elab.async false
set_option linter.all false
set_option maxRecDepth 100000
/-! FLO: instances: fields, methods, properties, new ones. -/
namespace FL
open PySem PySem.Spec PyProof.Rows L2

abbrev cA (X : Cx) (c : S) : Addr := He.ga X.K (toS c)
/-- the fields of an instance of class c -/
def flds (c : S) : D → Store → Option (List (S × D))
  | .obj c' fs, _ => if c' = c then some fs else none
  | .ref n, st => match st[n]? with
    | some (.ins c' fs) => if c' = c then some fs else none
    | _ => none
  | _, _ => none
theorem flds_inv {g : Gc} {W : Wd} {v : V} {c : S} {d : D} {fs : List (S × D)} (s : SR g W) (h : Den g W v d) (e : flds c d W.st = some fs) :
    ∃ a dx vs, v = .ref a ∧ W.H a = some (.ins (He.ga g.K (toS c)) dx vs) ∧ vs.map (·.1) = fs.map (fun p => toS p.1) ∧ DenL g W (vs.map (·.2)) (fs.map (·.2)) := by
  cases d with
  | obj c' fs' =>
    dsimp only [flds] at e
    split at e
    · rename_i hc
      subst hc
      cases e
      cases h with
      | obj h1 h2 h3 h4 => exact ⟨_, _, _, rfl, h1, h3, h4⟩
    · cases e
  | ref n =>
    cases h with
    | @ref a _ ha =>
    dsimp only [flds] at e
    cases q : W.st[n]? with
    | none => rw [q] at e; cases e
    | some cl =>
      rw [q] at e
      have ok := s.cell n a cl ha q
      cases cl with
      | ins c' fs' =>
        dsimp only at e
        split at e
        · rename_i hc
          subst hc
          cases e
          obtain ⟨dx, vs, h1, h2, h3⟩ := ok
          exact ⟨a, dx, vs, rfl, h1, h2, h3⟩
        · cases e
      | _ => cases e
  | _ => cases e
theorem lookup_den {g : Gc} {W : Wd} {f : S} {d : D} : ∀ {vs : List (Str × V)} {fs : List (S × D)}, vs.map (·.1) = fs.map (fun p => toS p.1) → DenL g W (vs.map (·.2)) (fs.map (·.2)) → fs.lookup f = some d → ∃ v, vs.lookup (toS f) = some v ∧ Den g W v d
  | [], [], _, _, e => by cases e
  | [], _ :: _, h, _, _ => by cases h
  | _ :: _, [], h, _, _ => by cases h
  | (x, v) :: vs, (f', d') :: fs, h, l, e => by
    have h1 : x = toS f' := (List.cons.inj h).1
    have h2 := (List.cons.inj h).2
    cases l with
    | cons hv l =>
      rw [List.lookup_cons] at e ⊢
      subst h1
      by_cases hf : f = f'
      · subst hf
        simp only [beq_self_eq_true] at e ⊢
        cases e
        exact ⟨v, rfl, hv⟩
      · have b1 : (f == f') = false := beq_eq_false_iff_ne.mpr hf
        have b2 : (toS f == toS f') = false := beq_eq_false_iff_ne.mpr fun q => hf (toS_inj q)
        rw [b1] at e
        rw [b2]
        exact lookup_den h2 l e
theorem lookup_none {f : S} : ∀ {vs : List (Str × V)} {fs : List (S × D)}, vs.map (·.1) = fs.map (fun p => toS p.1) → fs.lookup f = none → vs.lookup (toS f) = none
  | [], [], _, _ => rfl
  | [], _ :: _, h, _ => by cases h
  | _ :: _, [], h, _ => by cases h
  | (x, v) :: vs, (f', d') :: fs, h, e => by
    have h1 : x = toS f' := (List.cons.inj h).1
    have h2 := (List.cons.inj h).2
    rw [List.lookup_cons] at e ⊢
    subst h1
    by_cases hf : f = f'
    · subst hf; simp at e
    · have b1 : (f == f') = false := beq_eq_false_iff_ne.mpr hf
      have b2 : (toS f == toS f') = false := beq_eq_false_iff_ne.mpr fun q => hf (toS_inj q)
      rw [b1] at e
      rw [b2]
      exact lookup_none h2 e
def oFld (c f : S) (x : D) (st : Store) : Res D := match flds c x st with
  | some fs => match fs.lookup f with
    | some d => .ok d st
    | none => .no
  | none => .no
section
variable {X : Cx} {Wx : WX} {pos : Pos} {e : Expr} {m : Me} {c f : S} {F : Str}
theorem e_fld (hF : F = toS f) (hc : Cls X.K (cA X c)) (hn : NoAttr X.K (cA X c) F) (he : PE X e (fE (gc X) Wx m)) (hb : attributeBase e F X.env (eval e X.env) = eval e X.env := by rfl) : PE X (.Attribute e F pos) (fE (gc X) Wx (a1 (oFld c f) m)) :=
  PE.imp (pe_fld he hb) fun σ H Q h => by
    dsimp only [tFld]
    refine fG_mono (lift1 h) fun v H' ⟨W, d, e0, s, h1, p⟩ => ?_
    subst e0
    dsimp only [oFld] at p
    cases q : flds c d W.st with
    | none => rw [q] at p; exact p.elim
    | some fs =>
      rw [q] at p
      dsimp only at p
      obtain ⟨a, dx, vs, rfl, hh, k1, k2⟩ := flds_inv s h1 q
      cases q2 : fs.lookup f with
      | none => rw [q2] at p; exact p.elim
      | some d' =>
        rw [q2] at p
        obtain ⟨v', hv', hd'⟩ := lookup_den k1 k2 q2
        refine ⟨a, _, dx, vs, v', rfl, hh, hc, hn, by rw [hF]; exact hv', p W (Ext.refl W) s rfl v' hd'⟩
/-! methods -/
variable {k : Nat} {g : Addr} {fd : FuncData} {ps : List Str} {FF : List D → Store → Res D} {apos : Pos} {o : Expr} {es : List Expr} {ma : Ma} {M : Str}
/-- o.m(..): the receiver of class c without a field of that name -/
def mMeth (c f : S) (F : List D → Store → Res D) (m : Me) (ma : Ma) : Me := fun e st => (m e st).bind fun d st1 => match flds c d st1 with
  | some fs => if fs.lookup f = none then (ma e st1).bind fun ds st2 => F (d :: ds) st2 else .no
  | none => .no
theorem e_meth {pl : Sem Bool} (hM : M = toS f) (he : PE X o (fE (gc X) Wx m)) (c' : Cls X.K (cA X c)) (hm : Meth X.K (cA X c) M g) (G : FnOk X.prog X.w X.K X.mg X.base (L2.CX X.prog X.w) k g fd ps (spF (gc X) FF)) (hr : Room k X.A) (tk : Takes X Wx) (hb : Binds X.K fd ps [])
    (ha : PA X (e :: es) (fA (gc X) Wx ma)) (hst : starEach (e :: es) X.env = (false, eval e X.env) :: starEach es X.env := by rfl) (hpl : (backTo pos (starEach es X.env)).any (·.1) = false := by rfl)
    (ht : eval (.Call (.Attribute o M apos) (e :: es) [] pos) X.env = (do
      let ov ← eval o X.env
      standAt apos.atName
      let (f, first) ← holding [ov] (getMethod ov M pl)
      callWith pos f first (backTo pos (starEach (e :: es) X.env)) (backToKw pos (keywordEach [] X.env))) := by rfl) :
    PE X (.Call (.Attribute o M apos) (e :: es) [] pos) (fE (gc X) Wx (mMeth c f FF m ma)) := by
  refine ⟨fun pins s σ H Q I h => ?_⟩
  have h' : fE (gc X) Wx m σ H fun x H1 => ∃ (a : Addr) (dx : Addr) (fs : List (Str × V)), x = .ref a ∧ H1 a = some (.ins (cA X c) dx fs) ∧ fs.lookup M = none ∧ fA (gc X) Wx ma σ H1 fun vs H2 => spF (gc X) FF (x :: vs) H2 Q (WE Wx σ) := by
    obtain ⟨W, env, rfl, s, r, p⟩ := h
    refine ⟨W, env, rfl, s, r, ?_⟩
    dsimp only [mMeth] at p
    cases q : m env W.st with
    | exc x st1 => rw [q] at p; exact p
    | no => rw [q] at p; exact p
    | ok d st1 =>
      rw [q] at p
      refine fun W1 e1 s1 hs v hv => ?_
      dsimp only [Res.bind] at p
      rw [← hs] at p
      cases q2 : flds c d W1.st with
      | none => rw [q2] at p; exact p.elim
      | some fs =>
        rw [q2] at p
        dsimp only at p
        obtain ⟨a, dx, vs, rfl, hh, k1, k2⟩ := flds_inv s1 hv q2
        split at p
        · rename_i hl
          refine ⟨a, dx, vs, rfl, hh, by rw [hM]; exact lookup_none k1 hl, W1, env, rfl, s1, r.mono e1, ?_⟩
          cases q3 : ma env W1.st with
          | exc x st1 => rw [q3] at p; exact Post.ext p e1
          | no => rw [q3] at p; exact p
          | ok ds st2 =>
            rw [q3] at p
            exact fun W2 e2 s2 hs2 ws hw => ⟨W2, d :: ds, rfl, s2, .cons (hv.mono e2) hw, by rw [hs2]; exact Post.ext (Post.ext p e1) e2⟩
        · exact p.elim
  refine PySem.W.methodCall_KW (pl := pl) (thn (he.run pins s σ H _ I h') fun u s1 ⟨x, H1, I1, rx, a, dx, fs, ex, ea, l, q⟩ => ?_) ht
  subst ex
  obtain rfl : u = Value.ref a := rx
  refine getmeth_ok I1 ea c' hm l ?_
  refine PySem.W.callWith_K (first := [.ref a]) (h₀ := X.base) I.ok.mod.kin hm.kp (thn (ha.run pos pins s1 σ H1 _ I1 q) fun us s2 ⟨vs, H2, I2, r, q2⟩ => ⟨I2.kIn, ?_⟩) hst hpl
  exact run_fnS (us := .ref a :: us) (vs := .ref a :: vs) G hr hb (passAt tk σ) I2 (.cons rfl r) q2
theorem e_meth0 {pl : Sem Bool} (hM : M = toS f) (he : PE X o (fE (gc X) Wx m)) (c' : Cls X.K (cA X c)) (hm : Meth X.K (cA X c) M g) (G : FnOk X.prog X.w X.K X.mg X.base (L2.CX X.prog X.w) k g fd ps (spF (gc X) FF)) (hr : Room k X.A) (tk : Takes X Wx) (hb : Binds X.K fd ps [])
    (ht : eval (.Call (.Attribute o M apos) [] [] pos) X.env = (do
      let ov ← eval o X.env
      standAt apos.atName
      let (f, first) ← holding [ov] (getMethod ov M pl)
      callWith pos f first (backTo pos (starEach [] X.env)) (backToKw pos (keywordEach [] X.env))) := by rfl) :
    PE X (.Call (.Attribute o M apos) [] [] pos) (fE (gc X) Wx (mMeth c f FF m mNil)) := by
  refine ⟨fun pins s σ H Q I h => ?_⟩
  have h' : fE (gc X) Wx m σ H fun x H1 => ∃ (a : Addr) (dx : Addr) (fs : List (Str × V)), x = .ref a ∧ H1 a = some (.ins (cA X c) dx fs) ∧ fs.lookup M = none ∧ spF (gc X) FF [x] H1 Q (WE Wx σ) := by
    obtain ⟨W, env, rfl, s, r, p⟩ := h
    refine ⟨W, env, rfl, s, r, ?_⟩
    dsimp only [mMeth] at p
    cases q : m env W.st with
    | exc x st1 => rw [q] at p; exact p
    | no => rw [q] at p; exact p
    | ok d st1 =>
      rw [q] at p
      refine fun W1 e1 s1 hs v hv => ?_
      dsimp only [Res.bind] at p
      rw [← hs] at p
      cases q2 : flds c d W1.st with
      | none => rw [q2] at p; exact p.elim
      | some fs =>
        rw [q2] at p
        dsimp only at p
        obtain ⟨a, dx, vs, rfl, hh, k1, k2⟩ := flds_inv s1 hv q2
        split at p
        · rename_i hl
          exact ⟨a, dx, vs, rfl, hh, by rw [hM]; exact lookup_none k1 hl, W1, [d], rfl, s1, .cons hv .nil, Post.ext p e1⟩
        · exact p.elim
  refine PySem.W.methodCall_KW (pl := pl) (thn (he.run pins s σ H _ I h') fun u s1 ⟨x, H1, I1, rx, a, dx, fs, ex, ea, l, q⟩ => ?_) ht
  subst ex
  obtain rfl : u = Value.ref a := rx
  refine getmeth_ok I1 ea c' hm l ?_
  exact PySem.W.callWith_K0 (first := [.ref a]) I1.kIn hm.kp (run_fnS (us := [.ref a]) (vs := [.ref a]) G hr hb (passAt tk σ) I1 (.cons rfl .nil) q)
/-! properties -/
variable {P : Addr}
theorem e_prop (he : PE X e (fE (gc X) Wx m)) (c' : Cls X.K (cA X c)) (hp : PropOf X.K (cA X c) M P g) (G : FnOk X.prog X.w X.K X.mg X.base (L2.CX X.prog X.w) k g fd ps (spF (gc X) FF)) (hr : Room (k + 1) X.A) (hb : Binds X.K fd ps [])
    (hab : attributeBase e M X.env (eval e X.env) = eval e X.env := by rfl) : PE X (.Attribute e M pos) (fE (gc X) Wx (a1 (fun d st => match flds c d st with
      | some _ => (FF [d] st).bindN fun d st => .ok d st
      | none => .no) m)) :=
  PE.imp (pe_prop he c' hp G hr hb .nil (passL (X := X.nox)) hab) fun σ H Q h => by
    dsimp only [tProp]
    refine fG_mono (lift1 h) fun v H' ⟨W, d, e0, s, h1, p⟩ => ?_
    subst e0
    dsimp only at p
    cases q : flds c d W.st with
    | none => rw [q] at p; exact p.elim
    | some fs =>
      rw [q] at p
      dsimp only at p
      obtain ⟨a, dx, vs, rfl, hh, k1, k2⟩ := flds_inv s h1 q
      refine ⟨a, dx, vs, rfl, hh, W, [d], rfl, s, .cons h1 .nil, ?_⟩
      cases q2 : FF [d] W.st with
      | ok d' st' => rw [q2] at p; exact p
      | exc x st' => rw [q2] at p; exact p.elim
      | no => rw [q2] at p; exact p
/-! new instances -/
/-- a new instance of class c, __init__ run; then frozen, or left a cell -/
def mMake (fr : Bool) (c : S) (F : List D → Store → Res D) (ma : Ma) : Me := fun e st => (ma e st).bind fun ds st1 => (F (.ref st1.length :: ds) (st1 ++ [.ins c []])).bind fun r st2 => match r with
  | .non => if fr = true then fz (.ref st1.length) st2 else .ok (.ref st1.length) st2
  | _ => .no
theorem run_makeAt {CX : CXT} {C f : Addr} {sp : Sp} {E : XK} {pins : List (Addr × Obj)} {σ : L2.St} {H : Hp} {s : Shared} {Q : VK} {us : List Value} {vs : List V} (M : Mk X.K C f) (F : FnOk X.prog X.w X.K X.mg X.base CX k f fd ps sp) (hr : Room (k + 1) X.A) (hb : Binds X.K fd ps [])
    (hx : PassesAt CX X σ E) (I : Inv X pins σ H s) (r : Vals vs us)
    (h : ∀ x dx, H x = none → H dx = none → dx ≠ x → sp (.ref x :: vs) (upd (upd H dx (.own x)) x (.ins C dx [])) (fun v H2 => v = .non ∧ Q (.ref x) H2) E) :
    wpAny (model X.prog X.w) X.A (call (.ref C) us) (EP X pins σ Q) X.xe s := by
  have hq := h (s.heap.objs.size + 1) s.heap.objs.size (I.hok.fresh (Nat.le_succ _)) (I.hok.fresh (Nat.le_refl _)) (Nat.ne_of_lt (Nat.lt_succ_self _))
  have I2 := Inv.made (C := C) I
  have r2 : Vals (V.ref (s.heap.objs.size + 1) :: vs) (Value.ref (s.heap.objs.size + 1) :: us) := .cons rfl r
  have hl : (Value.ref (s.heap.objs.size + 1) :: us ++ []).length = ps.length := by
    have e := r2.length
    rw [F.len _ _ _ _ hq] at e
    rw [List.append_nil]
    exact e.symm
  have hbb := hb _ (Value.ref (s.heap.objs.size + 1) :: us) I2.kIn hl
  rw [List.append_nil] at hbb
  refine wpAny_call (make_map (f := f) I.kIn M.makes M.init (beq_iff_eq.mp M.fn) (codeAny_mono (F.run _ X.stack _ _ ⟨Value.ref (s.heap.objs.size + 1) :: us, []⟩ (Value.ref (s.heap.objs.size + 1) :: us) _ _ E (hr.make C us [])
    (I2.env0.make C us []) hbb r2 hq) fun r s' hq' => ?_))
  cases r with
  | error e => exact hx pins _ _ e s' I2 hq'
  | ok fl =>
    cases fl with
    | ret u =>
      obtain ⟨v, H', I3, rv, ev, q3⟩ := I2.after hq'
      subst ev
      exact ⟨rv, ⟨V.ref (s.heap.objs.size + 1), H', I3, rfl, q3⟩⟩
    | next => exact False.elim hq'
    | brk => exact False.elim hq'
    | cont => exact False.elim hq'
theorem make_sp {σ : L2.St} {Q : VK} {fr : Bool} {W : Wd} {ds : List D} {vs : List V} (s : SR (gc X) W) (l : DenL (gc X) W vs ds)
    (p : Post (gc X) W (wx (gc X) Wx σ) ((FF (.ref W.st.length :: ds) (W.st ++ [.ins c []])).bind fun r st2 => match r with
      | .non => if fr = true then fz (.ref W.st.length) st2 else .ok (.ref W.st.length) st2
      | _ => .no) fun d W' => ∀ b, Den (gc X) W' b d → Q b W'.H) (x dx : Addr) (hx : W.H x = none) (hdx : W.H dx = none) (ne : dx ≠ x) :
    spF (gc X) FF (.ref x :: vs) (upd (upd W.H dx (.own x)) x (.ins (cA X c) dx [])) (fun v H2 => v = .non ∧ Q (.ref x) H2) (WE Wx σ) := by
  obtain ⟨e1, s1, n1⟩ := s.lay (o := .own x) hdx
  have hx1 : (upd W.H dx (.own x)) x = none := by rw [upd_ne (Ne.symm ne)]; exact hx
  obtain ⟨e2, s2⟩ := s1.cellNew (o := .ins (cA X c) dx []) (c := .ins c []) hx1 fun W' e' h => ⟨dx, [], h, rfl, .nil⟩
  have e12 := e1.trans e2
  have hcs : (W.cs ++ [x])[W.st.length]? = some x := by rw [← s.len]; simp
  refine ⟨_, .ref W.st.length :: ds, rfl, s2, .cons (.ref hcs) (l.mono e12), ?_⟩
  show Post _ _ _ (FF (.ref W.st.length :: ds) (W.st ++ [.ins c []])) _
  cases q : FF (.ref W.st.length :: ds) (W.st ++ [.ins c []]) with
  | exc x st => rw [q] at p; exact fun W' e' s' hs => p W' (e12.trans e') s' hs
  | no => rw [q] at p; exact p
  | ok r st2 =>
    rw [q] at p
    refine fun W' e' s' hs v hv => ?_
    dsimp only [Res.bind] at p
    cases r with
    | non =>
      refine ⟨hv.non_inv, ?_⟩
      have hr : Den (gc X) W' (.ref x) (.ref W.st.length) := .ref (e'.cs _ _ hcs)
      dsimp only at p
      cases fr with
      | false =>
        simp only [Bool.false_eq_true, if_false] at p
        exact p W' (e12.trans e') s' hs _ hr
      | true =>
        simp only [if_true] at p
        rw [← hs] at p
        cases q2 : fz (.ref W.st.length) W'.st with
        | ok d st3 =>
          rw [q2] at p
          obtain ⟨W3, e3, s3, hs3, hH, hd⟩ := fz_ok s' hr q2
          rw [← hH]
          exact p W3 ((e12.trans e').trans e3) s3 hs3 _ hd
        | exc x st => rw [q2] at p; dsimp only [fz] at q2; split at q2 <;> cases q2
        | no => rw [q2] at p; exact p.elim
    | _ => exact p.elim
theorem e_make {x : Str} {p : Pos} {fr : Bool} (M : Mk X.K (cA X c) g) (G : FnOk X.prog X.w X.K X.mg X.base (L2.CX X.prog X.w) k g fd ps (spF (gc X) FF)) (hr : Room (k + 1) X.A) (tk : Takes X Wx) (hg : Gl X x) (hm : X.mg x = some (.ref (cA X c))) (hb : Binds X.K fd ps [])
    (ha : PA X (e :: es) (fA (gc X) Wx ma)) (hdb : (x == ("__debug__" : Str)) = false := by decide) (he : starEach (e :: es) X.env = (false, eval e X.env) :: starEach es X.env := by rfl) (hpl : (backTo pos (starEach es X.env)).any (·.1) = false := by rfl) :
    PE X (.Call (.Name x p) (e :: es) [] pos) (fE (gc X) Wx (mMake fr c FF ma)) := by
  refine ⟨fun pins s σ H Q I h => ?_⟩
  refine wpAny_Call_Name_kw (ld_glob I hg hm ?_ hdb)
  have h' : fA (gc X) Wx ma σ H fun vs H1 => ∀ x dx, H1 x = none → H1 dx = none → dx ≠ x → spF (gc X) FF (.ref x :: vs) (upd (upd H1 dx (.own x)) x (.ins (cA X c) dx [])) (fun v H2 => v = .non ∧ Q (.ref x) H2) (WE Wx σ) := by
    obtain ⟨W, env, rfl, s, r, p⟩ := h
    refine ⟨W, env, rfl, s, r, ?_⟩
    dsimp only [mMake] at p
    cases q : ma env W.st with
    | exc x st1 => rw [q] at p; exact p
    | no => rw [q] at p; exact p
    | ok ds st1 =>
      rw [q] at p
      refine fun W1 e1 s1 hs vs l x dx hx hdx ne => ?_
      dsimp only [Res.bind] at p
      rw [← hs] at p
      exact make_sp s1 l (Post.ext p e1) x dx hx hdx ne
  refine PySem.W.callWith_K (h₀ := X.base) I.ok.mod.kin M.kp (thn (ha.run pos pins s σ H _ I h') fun us s1 ⟨vs, H1, I1, r, q⟩ => ⟨I1.kIn, ?_⟩) he hpl
  exact run_makeAt M G hr hb (passAt tk σ) I1 r q
end
end FL
end
section
set_option Elab.async false
set_option linter.all false
set_option maxRecDepth 100000
/-! FLP: products, stores into lists, methods of lists and texts. -/
namespace FL
open PySem PySem.Spec PyProof.Rows L2

/-! ### a new list: frozen, or a cell -/
def mkL (c : Bool) (ds : List D) (st : Store) : Res D := if c = true then .ok (.ref st.length) (st ++ [.lst ds]) else .ok (.lst ds) st
theorem Post.mkL {g : Gc} {Wx : WX} {σ : L2.St} {Q : VK} {W : Wd} {vs : List V} {ds : List D} {c : Bool} (s : SR g W) (l : DenL g W vs ds) (p : Post g W (wx g Wx σ) (mkL c ds W.st) fun d W' => ∀ b, Den g W' b d → Q b W'.H) :
    ∀ q, W.H q = none → Q (.ref q) (upd W.H q (.lst vs)) := by
  cases c with
  | false => exact Post.newL s l p
  | true =>
    intro q hq
    obtain ⟨W', e, s', h1, h2, h3⟩ := s.newC hq l
    rw [← h2]
    exact p W' e s' h1 _ h3
/-- list + list -/
def oCat (c : Bool) (x y : D) (st : Store) : Res D := match lsOf x st, lsOf y st with
  | some a, some b => if a.length + b.length ≤ BIG then mkL c (a ++ b) st else .no
  | _, _ => .no
section
variable {X : Cx} {Wx : WX} {σ : L2.St} {H : Hp} {Q : VK} {x y : V} {c : Bool}
theorem im_cat (h : f2 (gc X) Wx (rD (gc X)) (oCat c) x y σ H Q) : rCat x y H Q := by
  obtain ⟨W, d, e, rfl, s, h1, h2, p⟩ := h
  dsimp only [oCat] at p
  cases q1 : lsOf d W.st with
  | none => rw [q1] at p; exact p.elim
  | some a =>
    cases q2 : lsOf e W.st with
    | none => rw [q1, q2] at p; exact p.elim
    | some b =>
      rw [q1, q2] at p
      dsimp only at p
      split at p
      · rename_i hl
        obtain ⟨a1, v1, rfl, b1, l1⟩ := lsOf_inv s h1 q1
        obtain ⟨a2, v2, rfl, b2, l2⟩ := lsOf_inv s h2 q2
        exact ⟨_, _, _, _, rfl, rfl, b1, b2, by rw [l1.length, l2.length, big_eq]; exact hl, Post.mkL s (l1.append l2) p⟩
      · exact p.elim
/-! ### products -/
def oMu (c : Bool) (x y : D) (st : Store) : Res D := match x, y with
  | .int i, .int j => if (-(2 ^ 64) < i ∧ i < 2 ^ 64) ∨ (-(2 ^ 64) < j ∧ j < 2 ^ 64) then .ok (.int (i * j)) st else .no
  | .tup xs, .int k => if xs ≠ [] ∧ 2 ≤ k ∧ k ≤ 1000 ∧ xs.length ≤ 1000 then .ok (.tup (List.replicate k.toNat xs).flatten) st else .no
  | x, .int k => match lsOf x st with
    | some xs => if -(2 ^ 63) ≤ k ∧ k < 2 ^ 63 ∧ xs.length * k.toNat ≤ BIG then mkL c (List.replicate k.toNat xs).flatten st else .no
    | none => .no
  | _, _ => .no
theorem DenL.rep {g : Gc} {W : Wd} {vs : List V} {ds : List D} (l : DenL g W vs ds) : ∀ k : Nat, DenL g W (List.replicate k vs).flatten (List.replicate k ds).flatten
  | 0 => .nil
  | k + 1 => by
    rw [List.replicate_succ, List.replicate_succ, List.flatten_cons, List.flatten_cons]
    exact l.append (l.rep k)
def rMu (K : PySem.W.Frag) : R2 := fun x y H Q => rI CMul (fun i j => V.int (i * j)) x y H Q ∨ rRep x y H Q ∨ rRepT K x y H Q
theorem op_mu : OpR X (binaryOp .Mult) (rMu X.K) := op_mul.or (op_rep.or op_repT)
theorem im_mu (h : f2 (gc X) Wx (rD (gc X)) (oMu c) x y σ H Q) : rMu X.K x y H Q := by
  obtain ⟨W, d, e, rfl, s, h1, h2, p⟩ := h
  cases e with
  | int k =>
    cases h2.int_inv
    have lists : (match lsOf d W.st with | some xs => if -(2 ^ 63) ≤ k ∧ k < 2 ^ 63 ∧ xs.length * k.toNat ≤ BIG then FL.mkL c (List.replicate k.toNat xs).flatten W.st else .no | none => .no) = oMu c d (.int k) W.st → rMu X.K x (.int k) W.H Q := fun e => by
      rw [← e] at p
      cases q1 : lsOf d W.st with
      | none => rw [q1] at p; exact p.elim
      | some a =>
        rw [q1] at p
        dsimp only at p
        split at p
        · rename_i hl
          obtain ⟨a1, v1, rfl, b1, l1⟩ := lsOf_inv s h1 q1
          exact .inr (.inl ⟨a1, k, v1, rfl, rfl, b1, hl.1, hl.2.1, by rw [l1.length, big_eq]; exact hl.2.2, Post.mkL s (l1.rep _) p⟩)
        · exact p.elim
    cases d with
    | int i =>
      cases h1.int_inv
      dsimp only [oMu] at p
      split at p
      · exact .inl ⟨i, k, rfl, rfl, by assumption, p W (Ext.refl W) s rfl _ (.int _)⟩
      · exact p.elim
    | tup xs =>
      obtain ⟨a, vs, rfl, hq, l⟩ := h1.tup_inv
      dsimp only [oMu] at p
      split at p
      · rename_i hl
        refine .inr (.inr ⟨a, k, vs, rfl, rfl, hq, fun e0 => hl.1 ?_, hl.2.1, hl.2.2.1, by rw [l.length]; exact hl.2.2.2, Post.newT s (l.rep _) p⟩)
        subst e0
        cases l; rfl
      · exact p.elim
    | _ => exact lists rfl
  | _ => cases d <;> exact p.elim
end

/-! ### x[i] = v, x a list -/
def stL (o i v : D) (e : En) (st : Store) : Fl := match o, i with
  | .ref n, .int k => match st[n]? with
    | some (.lst xs) => match ixN xs.length k with
      | some j => .nx e (st.set n (.lst (xs.set j v)))
      | none => .no
    | _ => .no
  | _, _ => .no
def gIx (mo mi : Me) : Mg := fun d e st => (mo e st).fl e fun o st1 => (mi e st1).fl e fun i st2 => stL o i d e st2
section
variable {X : Cx} {Wx : WX} {pos : Pos} {o i : Expr} {mo mi : Me} {ns : List Nat}
theorem g_ix (ho : PE X o (fE (gc X) Wx mo)) (hi : PE X i (fE (gc X) Wx mi))
    (ha : ∀ v, assign (.Subscript o i pos) X.env v = (do
      let ov ← holding [v] (eval o X.env)
      let iv ← holding [v, ov] (eval i X.env)
      standAt pos
      holding [v, ov, iv] (setItem ov iv v)
      release [v, ov, iv] []) := by intro _; rfl) : PG X (.Subscript o i pos) (fTg (gc X) Wx ns (gIx mo mi)) := PG.imp (pg_sub ho hi set_list ha) fun v σ H Q h => by
  show fE (gc X) Wx mo σ H fun o H1 => fE (gc X) Wx mi σ H1 fun i H2 => rSetL o i v H2 fun H3 => Q σ H3
  obtain ⟨W, env, d, rfl, s, r, hv, p⟩ := h
  refine ⟨W, env, rfl, s, r, ?_⟩
  dsimp only [gIx] at p
  cases q1 : mo env W.st with
  | no => rw [q1] at p; exact p
  | exc x st1 => rw [q1] at p; exact fun W1 e1 s1 hs => p W1 σ e1 s1 hs (r.mono e1)
  | ok od st1 =>
    rw [q1] at p
    dsimp only [Res.fl] at p
    refine fun W1 e1 s1 hs1 ov hov => ⟨W1, env, rfl, s1, r.mono e1, ?_⟩
    rw [hs1]
    cases q2 : mi env st1 with
    | no => rw [q2] at p; exact p
    | exc x st2 => rw [q2] at p; exact fun W2 e2 s2 hs => p W2 σ (e1.trans e2) s2 hs ((r.mono e1).mono e2)
    | ok di st2 =>
      rw [q2] at p
      dsimp only at p
      refine fun W2 e2 s2 hs2 iv hiv => ?_
      cases od with
      | ref n =>
        cases di with
        | int k =>
          cases hiv.int_inv
          dsimp only [stL] at p
          cases q3 : st2[n]? with
          | none => rw [q3] at p; exact p.elim
          | some c =>
            rw [q3] at p
            cases c with
            | lst xs =>
              dsimp only at p
              cases q4 : ixN xs.length k with
              | none => rw [q4] at p; exact p.elim
              | some j =>
                rw [q4] at p
                cases hov.mono e2 with
                | @ref a _ ha =>
                rw [← hs2] at q3
                obtain ⟨vs, h1, l⟩ := s2.cell n a _ ha q3
                obtain ⟨e3, s3⟩ := s2.cellSet (o := .lst (vs.set j v)) (c := .lst (xs.set j d)) ha q3 rfl rfl fun W' e' h => ⟨_, h, (l.mono e').set (((hv.mono e1).mono e2).mono e') j⟩
                refine ⟨a, vs, k, j, rfl, rfl, h1, by rw [l.length]; exact q4, ?_⟩
                exact p _ σ ((e1.trans e2).trans e3) s3 (by show W2.st.set n _ = _; rw [hs2]) (((r.mono e1).mono e2).mono e3) rfl
            | _ => exact p.elim
        | _ => exact p.elim
      | _ => cases di <;> exact p.elim
end

/-! ### methods -/
def mBm (ty : D → Store → Bool) (k : D → List D → Store → Res D) (m : Me) (r : Ma) : Me := fun e st => (m e st).bind fun d st1 => if ty d st1 = true then (r e st1).bind fun ds st2 => k d ds st2 else .no
def fM (g : Gc) (Wx : WX) (k : D → List D → Store → Res D) (x : V) (vs : List V) : L2.St → Hp → VK → Prop := fun σ H Q =>
  ∃ (W : Wd) (d : D) (ds : List D), W.H = H ∧ SR g W ∧ Den g W x d ∧ DenL g W vs ds ∧ Post g W (wx g Wx σ) (k d ds W.st) fun d W' => ∀ b, Den g W' b d → Q b W'.H
section
variable {X : Cx} {Wx : WX} {o e : Expr} {es : List Expr} {name : Str} {apos cpos : Pos} {T id : String} {r : V → List V → Hp → VK → Prop} {ty : D → Store → Bool} {k : D → List D → Store → Res D} {m : Me} {ma : Ma}
theorem e_bm (ht : ∀ {W : Wd} {v : V} {d : D}, SR (gc X) W → Den (gc X) W v d → ty d W.st = true → tyV X.K T v W.H) (hm : MtR X id r)
    (im : ∀ {σ : L2.St} {H : Hp} {Q : VK} {x : V} {vs : List V}, fM (gc X) Wx k x vs σ H Q → r x vs H Q)
    (pa : PlainAttrs T) (slot : Slot T name id) (hty : typeOf (.builtin id) = pure (.type "method_descriptor")) (ho : PE X o (fE (gc X) Wx m)) (ha : PA X (e :: es) (fA (gc X) Wx ma))
    (hbase : attributeBase o name X.env (eval o X.env) = eval o X.env := by rfl)
    (hfew : ((backTo cpos (starEach (e :: es) X.env)).all (fun x => !x.1) && (backToKw cpos (keywordEach [] X.env)).all (fun x => x.1.isSome)
      && decide ((e :: es).length + ([] : List Keyword).length + (if ([] : List Keyword).isEmpty then 0 else 1) < 30)) = true := by rfl)
    (hline : (apos.endLine == cpos.line) = true := by rfl) (hs : starEach (e :: es) X.env = (false, eval e X.env) :: starEach es X.env := by rfl) (hplain : (backTo cpos (starEach es X.env)).any (·.1) = false := by rfl) :
    PE X (.Call (.Attribute o name apos) (e :: es) [] cpos) (fE (gc X) Wx (mBm ty k m ma)) :=
  PE.imp (pe_bm pa slot hty hm ho ha hbase hfew hline hs hplain) fun σ H Q h => by
    show fE (gc X) Wx m σ H fun x H1 => tyV X.K T x H1 ∧ fA (gc X) Wx ma σ H1 fun xs H2 => r x xs H2 Q
    obtain ⟨W, env, rfl, s, rr, p⟩ := h
    refine ⟨W, env, rfl, s, rr, ?_⟩
    dsimp only [mBm] at p
    cases q1 : m env W.st with
    | no => rw [q1] at p; exact p
    | exc x st1 => rw [q1] at p; exact p
    | ok d st1 =>
      rw [q1] at p
      dsimp only [Res.bind] at p
      split at p
      · rename_i ht'
        refine fun W1 e1 s1 hs1 v hv => ⟨ht s1 hv (by rw [hs1]; exact ht'), W1, env, rfl, s1, rr.mono e1, ?_⟩
        rw [hs1]
        cases q2 : ma env st1 with
        | no => rw [q2] at p; exact p
        | exc x st2 => rw [q2] at p; exact Post.ext p e1
        | ok ds st2 =>
          rw [q2] at p
          exact fun W2 e2 s2 hs2 vs hvs => im ⟨W2, d, ds, rfl, s2, hv.mono e2, hvs, by rw [hs2]; exact Post.ext p (e1.trans e2)⟩
      · exact p.elim
theorem e_bm0 (ht : ∀ {W : Wd} {v : V} {d : D}, SR (gc X) W → Den (gc X) W v d → ty d W.st = true → tyV X.K T v W.H) (hm : MtR X id r)
    (im : ∀ {σ : L2.St} {H : Hp} {Q : VK} {x : V} {vs : List V}, fM (gc X) Wx k x vs σ H Q → r x vs H Q)
    (pa : PlainAttrs T) (slot : Slot T name id) (hty : typeOf (.builtin id) = pure (.type "method_descriptor")) (ho : PE X o (fE (gc X) Wx m))
    (hbase : attributeBase o name X.env (eval o X.env) = eval o X.env := by rfl) (hline : (apos.endLine == cpos.line) = true := by rfl) :
    PE X (.Call (.Attribute o name apos) [] [] cpos) (fE (gc X) Wx (mBm ty k m mNil)) :=
  PE.imp (pe_bm0 pa slot hty hm ho hbase hline) fun σ H Q h => by
    show fE (gc X) Wx m σ H fun x H1 => tyV X.K T x H1 ∧ r x [] H1 Q
    obtain ⟨W, env, rfl, s, rr, p⟩ := h
    refine ⟨W, env, rfl, s, rr, ?_⟩
    dsimp only [mBm] at p
    cases q1 : m env W.st with
    | no => rw [q1] at p; exact p
    | exc x st1 => rw [q1] at p; exact p
    | ok d st1 =>
      rw [q1] at p
      dsimp only [Res.bind] at p
      split at p
      · rename_i ht'
        exact fun W1 e1 s1 hs1 v hv => ⟨ht s1 hv (by rw [hs1]; exact ht'), im ⟨W1, d, [], rfl, s1, hv, .nil, by rw [hs1]; exact Post.ext p e1⟩⟩
      · exact p.elim
end
/-! of lists -/
def tyL (d : D) (st : Store) : Bool := (lsOf d st).isSome
theorem tyL_ok {g : Gc} {W : Wd} {v : V} {d : D} (s : SR g W) (h : Den g W v d) (t : tyL d W.st = true) : tyV g.K "list" v W.H := by
  unfold tyL at t
  obtain ⟨ds, e⟩ := Option.isSome_iff_exists.mp t
  obtain ⟨a, vs, rfl, h1, _⟩ := lsOf_inv s h e
  exact .inl ⟨rfl, vs, SqL.of h1⟩
def onC (d : D) (st : Store) (k : Nat → List D → Res D) : Res D := match d with
  | .ref n => match st[n]? with
    | some (.lst xs) => k n xs
    | _ => .no
  | _ => .no
def lApp (d : D) (ds : List D) (st : Store) : Res D := onC d st fun n xs => match ds with
  | [v] => if xs.length < BIG then .ok .non (st.set n (.lst (xs ++ [v]))) else .no
  | _ => .no
def lExt (d : D) (ds : List D) (st : Store) : Res D := onC d st fun n xs => match ds with
  | [b] => match lsOf b st with
    | some zs => if xs.length + zs.length ≤ BIG then .ok .non (st.set n (.lst (xs ++ zs))) else .no
    | none => .no
  | _ => .no
def lPop (d : D) (ds : List D) (st : Store) : Res D := onC d st fun n xs => match ds with
  | [] => match xs[xs.length - 1]? with
    | some y => .ok y (st.set n (.lst xs.dropLast))
    | none => .no
  | _ => .no
def lPopAt (d : D) (ds : List D) (st : Store) : Res D := onC d st fun n xs => match ds with
  | [.int i] => match ixN xs.length i with
    | some j => match xs[j]? with
      | some y => if xs.length ≤ BIG then .ok y (st.set n (.lst (xs.eraseIdx j))) else .no
      | none => .no
    | none => .no
  | _ => .no
theorem onC_at {X : Cx} {W : Wd} {x : V} {d : D} {k : Nat → List D → Res D} {Wx : Exn → Wd → Prop} {R : D → Wd → Prop} (s : SR (gc X) W) (h : Den (gc X) W x d) (p : Post (gc X) W Wx (onC d W.st k) R) :
    ∃ n a xs vs, d = .ref n ∧ x = V.ref a ∧ W.cs[n]? = some a ∧ W.st[n]? = some (.lst xs) ∧ W.H a = some (.lst vs) ∧ DenL (gc X) W vs xs ∧ Post (gc X) W Wx (k n xs) R := by
  unfold onC at p
  cases d with
  | ref n =>
    dsimp only at p
    cases q : W.st[n]? with
    | none => rw [q] at p; exact p.elim
    | some c =>
      rw [q] at p
      cases c with
      | lst xs =>
        cases h with
        | @ref a _ ha =>
        obtain ⟨vs, h1, l⟩ := s.cell n a _ ha q
        exact ⟨n, a, xs, vs, rfl, rfl, ha, q, h1, l, p⟩
      | _ => exact p.elim
  | _ => exact p.elim
section
variable {X : Cx} {Wx : WX} {σ : L2.St} {H : Hp} {Q : VK} {x : V} {vs : List V}
theorem im_app (h : fM (gc X) Wx lApp x vs σ H Q) : rAppend x vs H Q := by
  obtain ⟨W, d, ds, rfl, s, h1, l, p⟩ := h
  obtain ⟨n, a, xs, vs', rfl, rfl, ha, hst, hH, l2, p⟩ := onC_at s h1 p
  cases l with
  | nil => exact p.elim
  | @cons v d vs ds hv t =>
    cases t with
    | cons _ _ => exact p.elim
    | nil =>
      dsimp only at p
      split at p
      · rename_i hl
        obtain ⟨e3, s3⟩ := s.cellSet (o := .lst (vs' ++ [v])) (c := .lst (xs ++ [d])) ha hst rfl rfl fun W' e' h => ⟨_, h, (l2.mono e').append (.cons (hv.mono e') .nil)⟩
        exact ⟨a, vs', v, rfl, rfl, hH, by rw [l2.length, big_eq]; exact hl, p _ e3 s3 rfl _ .non⟩
      · exact p.elim
theorem im_ext (h : fM (gc X) Wx lExt x vs σ H Q) : rExtend x vs H Q := by
  obtain ⟨W, d, ds, rfl, s, h1, l, p⟩ := h
  obtain ⟨n, a, xs, vs', rfl, rfl, ha, hst, hH, l2, p⟩ := onC_at s h1 p
  cases l with
  | nil => exact p.elim
  | @cons v d vs ds hv t =>
    cases t with
    | cons _ _ => exact p.elim
    | nil =>
      dsimp only at p
      cases q : lsOf d W.st with
      | none => rw [q] at p; exact p.elim
      | some zs =>
        rw [q] at p
        dsimp only at p
        obtain ⟨a2, v2, rfl, b2, l3⟩ := lsOf_inv s hv q
        split at p
        · rename_i hl
          obtain ⟨e3, s3⟩ := s.cellSet (o := .lst (vs' ++ v2)) (c := .lst (xs ++ zs)) ha hst rfl rfl fun W' e' h => ⟨_, h, (l2.mono e').append (l3.mono e')⟩
          exact ⟨a, a2, vs', v2, rfl, rfl, hH, b2, by rw [l2.length, l3.length, big_eq]; exact hl, p _ e3 s3 rfl _ .non⟩
        · exact p.elim
theorem DenL.dropLast {g : Gc} {W : Wd} {vs : List V} {ds : List D} (l : DenL g W vs ds) : DenL g W vs.dropLast ds.dropLast := by
  rw [List.dropLast_eq_take, List.dropLast_eq_take, l.length]
  exact l.take _
theorem DenL.erase {g : Gc} {W : Wd} : ∀ {vs : List V} {ds : List D} (i : Nat), DenL g W vs ds → DenL g W (vs.eraseIdx i) (ds.eraseIdx i)
  | _, _, _, .nil => .nil
  | _, _, 0, .cons _ t => t
  | _, _, i + 1, .cons h t => .cons h (t.erase i)
theorem im_pop (h : fM (gc X) Wx lPop x vs σ H Q) : rPop x vs H Q := by
  obtain ⟨W, d, ds, rfl, s, h1, l, p⟩ := h
  obtain ⟨n, a, xs, vs', rfl, rfl, ha, hst, hH, l2, p⟩ := onC_at s h1 p
  cases l with
  | cons _ _ => exact p.elim
  | nil =>
    dsimp only at p
    cases q : xs[xs.length - 1]? with
    | none => rw [q] at p; exact p.elim
    | some y =>
      rw [q] at p
      obtain ⟨v, hv, hd⟩ := l2.getD' q
      obtain ⟨e3, s3⟩ := s.cellSet (o := .lst vs'.dropLast) (c := .lst xs.dropLast) ha hst rfl rfl fun W' e' h => ⟨_, h, (l2.mono e').dropLast⟩
      exact ⟨a, vs', v, rfl, rfl, hH, by rw [l2.length]; exact hv, p _ e3 s3 rfl _ (hd.mono e3)⟩
theorem im_popAt (h : fM (gc X) Wx lPopAt x vs σ H Q) : rPopAt x vs H Q := by
  obtain ⟨W, d, ds, rfl, s, h1, l, p⟩ := h
  obtain ⟨n, a, xs, vs', rfl, rfl, ha, hst, hH, l2, p⟩ := onC_at s h1 p
  cases l with
  | nil => exact p.elim
  | @cons v d vs ds hv t =>
    cases t with
    | cons _ _ => cases d <;> exact p.elim
    | nil =>
      cases d with
      | int i =>
        cases hv.int_inv
        dsimp only at p
        cases q : ixN xs.length i with
        | none => rw [q] at p; exact p.elim
        | some j =>
          rw [q] at p
          dsimp only at p
          cases q2 : xs[j]? with
          | none => rw [q2] at p; exact p.elim
          | some y =>
            rw [q2] at p
            dsimp only at p
            split at p
            case isFalse => exact p.elim
            rename_i hz
            obtain ⟨v, hv, hd⟩ := l2.getD' q2
            obtain ⟨e3, s3⟩ := s.cellSet (o := .lst (vs'.eraseIdx j)) (c := .lst (xs.eraseIdx j)) ha hst rfl rfl fun W' e' h => ⟨_, h, (l2.mono e').erase j⟩
            obtain ⟨i1, i2, i3, i4⟩ := ixN_seq q
            have hz2 : BIG = 16777216 := rfl
            exact ⟨a, vs', i, j, v, rfl, rfl, hH, by omega, by omega, by rw [l2.length]; exact i1, hv, p _ e3 s3 rfl _ (hd.mono e3)⟩
      | _ => exact p.elim
end
end FL
end
section
set_option Elab.async false
set_option linter.all false
set_option maxRecDepth 100000
/-! FLQ: methods of texts. -/
namespace FL
open PySem PySem.Spec PyProof.Rows L2 TL

def tyS (d : D) (_ : Store) : Bool := match d with
  | .str _ => true
  | _ => false
theorem tyS_ok {g : Gc} {W : Wd} {v : V} {d : D} (s : SR g W) (h : Den g W v d) (t : tyS d W.st = true) : tyV g.K "str" v W.H := by
  cases d with
  | str z => obtain ⟨rfl, _⟩ := h.str_inv; rfl
  | _ => cases t
/-- texts -/
def ssOf : List D → Option (List S)
  | [] => some []
  | .str s :: r => (ssOf r).map (s :: ·)
  | _ => none
theorem ssOf_inv {g : Gc} {W : Wd} : ∀ {vs : List V} {ds : List D} {ss : List S}, DenL g W vs ds → ssOf ds = some ss → vs = (ss.map toS).map V.str ∧ ∀ s ∈ ss, okS s = true
  | _, _, _, .nil, e => by cases e; exact ⟨rfl, fun _ h => by cases h⟩
  | _, .str z :: r, _, .cons h t, e => by
    dsimp only [ssOf] at e
    obtain ⟨bs', e1, rfl⟩ := Option.map_eq_some_iff.mp e
    obtain ⟨rfl, oz⟩ := h.str_inv
    obtain ⟨rfl, o2⟩ := ssOf_inv t e1
    exact ⟨rfl, fun s hs => by rcases List.mem_cons.mp hs with h | h; exact h ▸ oz; exact o2 s h⟩
  | _, .bl _ :: _, _, .cons _ _, e => by cases e
  | _, .non :: _, _, .cons _ _, e => by cases e
  | _, .int _ :: _, _, .cons _ _, e => by cases e
  | _, .tup _ :: _, _, .cons _ _, e => by cases e
  | _, .lst _ :: _, _, .cons _ _, e => by cases e
  | _, .dic _ :: _, _, .cons _ _, e => by cases e
  | _, .nd _ :: _, _, .cons _ _, e => by cases e
  | _, .obj _ _ :: _, _, .cons _ _, e => by cases e
  | _, .exn _ _ :: _, _, .cons _ _, e => by cases e
  | _, .ref _ :: _, _, .cons _ _, e => by cases e
  | _, .scr _ :: _, _, .cons _ _, e => by cases e
/-! join -/
def lenSum (ss : List S) : Nat := (ss.map (·.length)).sum
def sJoin (d : D) (ds : List D) (st : Store) : Res D := match d, ds with
  | .str a, [y] => onSq y st fun xs => match ssOf xs with
    | some ss => if lenSum ss + ss.length * a.length ≤ BIG then .ok (.str (joinL a ss)) st else .no
    | none => .no
  | _, _ => .no
theorem joinL_ok {a : S} : ∀ {ss : List S}, (∀ c ∈ joinL a ss, c ∈ a ∨ ∃ s ∈ ss, c ∈ s) ∧ (joinL a ss).length ≤ lenSum ss + ss.length * a.length
  | [] => ⟨fun _ h => (by cases h), by simp [joinL]⟩
  | [p] => ⟨fun c h => .inr ⟨p, by simp, h⟩, by simp [joinL, lenSum]⟩
  | p :: q :: r => by
    obtain ⟨h1, h2⟩ := joinL_ok (a := a) (ss := q :: r)
    refine ⟨fun c h => ?_, ?_⟩
    · unfold joinL at h
      rcases List.mem_append.mp h with h | h
      · exact .inr ⟨p, by simp, h⟩
      rcases List.mem_append.mp h with h | h
      · exact .inl h
      · rcases h1 c h with h | ⟨s, hs, hc⟩
        · exact .inl h
        · exact .inr ⟨s, List.mem_cons_of_mem _ hs, hc⟩
    · unfold joinL
      simp only [List.length_append, lenSum, List.map_cons, List.sum_cons, List.length_cons] at h2 ⊢
      have : (r.length + 1 + 1) * a.length = (r.length + 1) * a.length + a.length := by rw [Nat.add_mul]; omega
      omega
theorem okS_iff {s : S} : okS s = true ↔ (∀ c ∈ s, c < 128) ∧ s.length ≤ BIG := by
  unfold okS
  rw [Bool.and_eq_true, List.all_eq_true, decide_eq_true_iff, big_eq]
  exact and_congr (forall_congr' fun c => forall_congr' fun _ => decide_eq_true_iff) Iff.rfl
theorem toS_join (a : S) (ss : List S) : Txt.join (toS a) (ss.map toS) = toS (joinL a ss) := by
  rw [join_eq]
  refine ext_tl ?_
  rw [tl_join]
  have e : (ss.map toS).map tl = ss := by
    rw [List.map_map]
    conv => rhs; rw [← List.map_id ss]
    exact List.map_congr_left fun x _ => by simp [toS, tl]
  rw [e]
  simp [toS, tl]
section
variable {X : Cx} {Wx : WX} {σ : L2.St} {H : Hp} {Q : VK} {x : V} {vs : List V}
theorem im_join (h : fM (gc X) Wx sJoin x vs σ H Q) : ∃ a p, ∃ ys : List Str, x = .str a ∧ vs = [.ref p] ∧ (SqL X.K H p (ys.map V.str) ∨ SqT X.K H p (ys.map V.str)) ∧
    (ys.map (·.length)).sum + ys.length * a.length ≤ 16777216 ∧ Q (.str (Txt.join a ys)) H := by
  obtain ⟨W, d, ds, rfl, s, h1, l, p⟩ := h
  cases d with
  | str a =>
    obtain ⟨rfl, oa⟩ := h1.str_inv
    cases l with
    | nil => exact p.elim
    | @cons v d vs ds hv t =>
      cases t with
      | cons _ _ => exact p.elim
      | nil =>
        dsimp only [sJoin, onSq] at p
        cases q : sqOf d W.st with
        | none => rw [q] at p; exact p.elim
        | some xs =>
          rw [q] at p
          dsimp only at p
          obtain ⟨b, vs, rfl, hq, l⟩ := sqOf_inv s hv q
          cases q2 : ssOf xs with
          | none => rw [q2] at p; exact p.elim
          | some ss =>
            rw [q2] at p
            dsimp only at p
            obtain ⟨rfl, os⟩ := ssOf_inv l q2
            split at p
            · rename_i hl
              refine ⟨toS a, b, ss.map toS, rfl, rfl, hq, ?_, ?_⟩
              · have e : ((ss.map toS).map (·.length)).sum = lenSum ss := by
                  unfold lenSum
                  rw [List.map_map]
                  exact congrArg List.sum (List.map_congr_left fun x _ => len_toS x)
                rw [e, List.length_map, len_toS]
                exact hl
              · rw [toS_join]
                obtain ⟨j1, j2⟩ := joinL_ok (a := a) (ss := ss)
                refine p W (Ext.refl W) s rfl _ (.str _ (okS_iff.mpr ⟨fun c hc => ?_, by omega⟩))
                rcases j1 c hc with h | ⟨z, hz, hc⟩
                · exact (okS_iff.mp oa).1 c h
                · exact (okS_iff.mp (os z hz)).1 c hc
            · exact p.elim
  | _ => cases ds <;> exact p.elim
/-! split -/
def sSplit (d : D) (ds : List D) (st : Store) : Res D := match d, ds with
  | .str z, [.str [c]] => if z.length + 2 ≤ BIG then .ok (.lst ((spl [c] 0 [] z).map D.str)) st else .no
  | _, _ => .no
theorem spl_mem {c : Nat} : ∀ (z acc p : S), p ∈ spl [c] 0 acc z → (∀ a ∈ p, a ∈ acc ∨ a ∈ z) ∧ p.length ≤ acc.length + z.length
  | [], acc, p, h => by
    rw [spl_nil] at h
    rw [List.mem_singleton] at h
    subst h
    exact ⟨fun a ha => .inl ha, by simp⟩
  | x :: z, acc, p, h => by
    cases q : pre [c] (x :: z) with
    | true =>
      rw [spl_hit q] at h
      rcases List.mem_cons.mp h with h | h
      · subst h; exact ⟨fun a ha => .inl ha, by simp⟩
      · obtain ⟨h1, h2⟩ := spl_mem z [] p h
        exact ⟨fun a ha => .inr (List.mem_cons_of_mem _ ((h1 a ha).resolve_left (by simp))), by simp at h2 ⊢; omega⟩
    | false =>
      rw [spl_miss q] at h
      obtain ⟨h1, h2⟩ := spl_mem z (acc ++ [x]) p h
      refine ⟨fun a ha => ?_, by simp at h2 ⊢; omega⟩
      rcases h1 a ha with h | h
      · rcases List.mem_append.mp h with h | h
        · exact .inl h
        · exact .inr (by simp at h; simp [h])
      · exact .inr (List.mem_cons_of_mem _ h)
theorem map_tl_toS : ∀ {l : List Str} {m : List S}, l.map tl = m → l = m.map toS
  | [], _, e => by subst e; rfl
  | a :: l, m, e => by
    subst e
    rw [List.map_cons, List.map_cons]
    exact congr (congrArg List.cons (ext_tl (by simp [toS, tl]))) (map_tl_toS rfl)
theorem den_strs {g : Gc} {W : Wd} : ∀ {ss : List S}, (∀ s ∈ ss, okS s = true) → DenL g W ((ss.map toS).map V.str) (ss.map D.str)
  | [], _ => .nil
  | s :: ss, h => .cons (.str s (h s (by simp))) (den_strs fun z hz => h z (List.mem_cons_of_mem _ hz))
theorem im_split (h : fM (gc X) Wx sSplit x vs σ H Q) : ∃ a b, x = .str a ∧ vs = [.str b] ∧ (b.length == 0) = false ∧ a.length + 2 ≤ sizeLine ∧ rNewStrs (Txt.split a b) H Q := by
  obtain ⟨W, d, ds, rfl, s, h1, l, p⟩ := h
  cases d with
  | str z =>
    obtain ⟨rfl, oz⟩ := h1.str_inv
    cases l with
    | nil => exact p.elim
    | @cons v d vs ds hv t =>
      cases d with
      | str y =>
        cases y with
        | nil => exact p.elim
        | cons c y =>
          cases y with
          | cons _ _ => exact p.elim
          | nil =>
            cases t with
            | cons _ _ => exact p.elim
            | nil =>
              obtain ⟨rfl, oc⟩ := hv.str_inv
              dsimp only [sSplit] at p
              split at p
              · rename_i hl
                have hk : (toS [c]).cps.all (· < 256) = true := by
                  have := (okS_iff.mp oc).1 c (by simp)
                  simp [toS]; omega
                have e : Txt.split (toS z) (toS [c]) = (spl [c] 0 [] z).map toS := map_tl_toS (by
                  rw [split_spl _ _ (by simp [toS, tl]) (kind_ok hk)]
                  simp [toS, tl])
                refine ⟨toS z, toS [c], rfl, rfl, by simp [toS, Str.length], by rw [len_toS, big_eq]; exact hl, ?_⟩
                unfold rNewStrs
                rw [e]
                refine Post.newL s (den_strs fun p hp => ?_) p
                obtain ⟨m1, m2⟩ := spl_mem z [] p hp
                exact okS_iff.mpr ⟨fun a ha => (okS_iff.mp oz).1 a ((m1 a ha).resolve_left (by simp)), by simp at m2; omega⟩
              · exact p.elim
      | _ => exact p.elim
  | _ => cases ds <;> exact p.elim
/-! upper, lower -/
def upA (c : Nat) : Nat := if 97 ≤ c ∧ c ≤ 122 then c - 32 else c
def loA (c : Nat) : Nat := if 65 ≤ c ∧ c ≤ 90 then c + 32 else c
theorem up_all : ((List.range 128).all fun c => Unicode.upperOf c == [upA c]) = true := by decide +kernel
theorem lo_all : ((List.range 128).all fun c => Unicode.lowerOf c == [loA c]) = true := by decide +kernel
def sUp (f : Nat → Nat) (d : D) (ds : List D) (st : Store) : Res D := match d, ds with
  | .str z, [] => if z.length ≤ 5592405 then .ok (.str (z.map f)) st else .no
  | _, _ => .no
theorem placed_map {f : Nat → Nat → List Nat} {g : Nat → Nat} {z : S} (h : ∀ i c, z[i]? = some c → f i c = [g c]) : (⟨PySem.placed (toS z) f⟩ : Str) = toS (z.map g) := by
  refine ext_tl ?_
  have : ∀ (z : S) (k : Nat), (∀ i c, z[i]? = some c → f (k + i) c = [g c]) → ((z.mapIdx fun i c => f (k + i) c).flatten) = z.map g := by
    intro z
    induction z with
    | nil => intro k h; rfl
    | cons c z ih =>
      intro k h
      rw [List.mapIdx_cons, List.flatten_cons, List.map_cons]
      have := h 0 c rfl
      rw [this]
      have h2 := ih (k + 1) fun i c' hc => by
        have := h (i + 1) c' (by simpa using hc)
        rw [← this]; congr 1; omega
      have e : (fun i c => f (k + (i + 1)) c) = (fun i c => f (k + 1 + i) c) := by
        funext i c; congr 1; omega
      rw [e, h2]; rfl
  have h0 := this z 0 fun i c hc => by rw [Nat.zero_add]; exact h i c hc
  unfold PySem.placed toS tl
  simp only [Nat.zero_add] at h0
  simp only
  rw [← h0]
  have e2 : (Array.mapIdx (fun i c => (f i c).toArray) z.toArray) = ((z.mapIdx fun i c => f i c).map List.toArray).toArray := by
    rw [List.mapIdx_toArray]
    refine congrArg List.toArray (List.ext_getElem? fun i => ?_)
    rw [List.getElem?_map, List.getElem?_mapIdx, List.getElem?_mapIdx]
    cases z[i]? <;> rfl
  rw [e2]
  simp
theorem okS_map {g : Nat → Nat} {z : S} (h : okS z = true) (hg : ∀ c, c < 128 → g c < 128) : okS (z.map g) = true := by
  obtain ⟨h1, h2⟩ := okS_iff.mp h
  refine okS_iff.mpr ⟨fun c hc => ?_, by simpa using h2⟩
  obtain ⟨a, ha, rfl⟩ := List.mem_map.mp hc
  exact hg a (h1 a ha)
theorem im_upper (h : fM (gc X) Wx (sUp upA) x vs σ H Q) : ∃ a, x = .str a ∧ vs = [] ∧ a.length ≤ 5592405 ∧ Q (.str (Txt.upper a)) H := by
  obtain ⟨W, d, ds, rfl, s, h1, l, p⟩ := h
  cases d with
  | str z =>
    obtain ⟨rfl, oz⟩ := h1.str_inv
    cases l with
    | cons _ _ => exact p.elim
    | nil =>
      dsimp only [sUp] at p
      split at p
      · rename_i hl
        refine ⟨toS z, rfl, rfl, by rw [len_toS]; exact hl, ?_⟩
        have e : Txt.upper (toS z) = toS (z.map upA) := placed_map fun i c hc => by
          have := List.all_eq_true.mp up_all c (List.mem_range.mpr ((okS_iff.mp oz).1 c (List.mem_of_getElem? hc)))
          exact beq_iff_eq.mp this
        rw [e]
        exact p W (Ext.refl W) s rfl _ (.str _ (okS_map oz fun c hc => by unfold upA; split <;> omega))
      · exact p.elim
  | _ => cases ds <;> exact p.elim
theorem im_lower (h : fM (gc X) Wx (sUp loA) x vs σ H Q) : ∃ a, x = .str a ∧ vs = [] ∧ a.length ≤ 5592405 ∧ Q (.str (Txt.lower a)) H := by
  obtain ⟨W, d, ds, rfl, s, h1, l, p⟩ := h
  cases d with
  | str z =>
    obtain ⟨rfl, oz⟩ := h1.str_inv
    cases l with
    | cons _ _ => exact p.elim
    | nil =>
      dsimp only [sUp] at p
      split at p
      · rename_i hl
        refine ⟨toS z, rfl, rfl, by rw [len_toS]; exact hl, ?_⟩
        have e : Txt.lower (toS z) = toS (z.map loA) := placed_map fun i c hc => by
          have hc2 := (okS_iff.mp oz).1 c (List.mem_of_getElem? hc)
          have := beq_iff_eq.mp (List.all_eq_true.mp lo_all c (List.mem_range.mpr hc2))
          have e : (toS z).cps[i]? = some c := by simp [toS, hc]
          unfold Unicode.lowerAt
          rw [e]
          have : (c == 0x3A3) = false := beq_eq_false_iff_ne.mpr (by omega)
          simp only [this, Bool.false_and]
          assumption
        rw [e]
        exact p W (Ext.refl W) s rfl _ (.str _ (okS_map oz fun c hc => by unfold loA; split <;> omega))
      · exact p.elim
  | _ => cases ds <;> exact p.elim
end
end FL
end
section
set_option Elab.async false
set_option linter.all false
set_option maxRecDepth 100000
/-! FLR: enumerate and zip, of lists and tuples. -/
namespace FL
open PySem PySem.Spec PyProof.Rows L2

/-- a list (false) or a tuple (true) -/
def SqB (K : PySem.W.Frag) (b : Bool) (H : Hp) (a : Addr) (xs : List V) : Prop := if b = true then SqT K H a xs else SqL K H a xs
def ItB (b : Bool) (h : Heap) (it a : Addr) (i : Nat) : Prop := if b = true then h.IsTupleIter it a i else h.IsListIter it a i
def SeB (b : Bool) (h : Heap) (a : Addr) (xs : Array Value) : Prop := if b = true then h.IsTuple a xs else h.IsList a xs
theorem ItB.at_ {b : Bool} {h h' : Heap} {it a : Addr} {i : Nat} (x : ItB b h it a i) (e : ∀ o, h.get? it = some o → h'.get? it = some o) : ItB b h' it a i := by
  cases b
  · exact Heap.IsListIter.at (show h.IsListIter it a i from x) e
  · exact Heap.IsTupleIter.at (show h.IsTupleIter it a i from x) e
theorem ItB.obj {b : Bool} {h : Heap} {it a : Addr} {i : Nat} (x : ItB b h it a i) : ∃ o, h.get? it = some o ∧ ∀ v, o.data ≠ .cell v := by
  cases b
  · obtain ⟨o, ho, _, hd⟩ := (show h.IsListIter it a i from x); exact ⟨o, ho, fun v q => by rw [hd] at q; cases q⟩
  · obtain ⟨o, ho, _, hd⟩ := (show h.IsTupleIter it a i from x); exact ⟨o, ho, fun v q => by rw [hd] at q; cases q⟩
theorem SqB.obj {X : Cx} {pins : List (Addr × Obj)} {σ : L2.St} {H : Hp} {s : Shared} {b : Bool} {a : Addr} {xs : List V} (I : Inv X pins σ H s) (q : SqB X.K b H a xs) : ∃ its : List Value, Vals xs its ∧ SeB b s.heap a its.toArray ∧ a < s.heap.objs.size := by
  cases b
  · obtain ⟨its, rv, p, hz⟩ := I.list (show SqL X.K H a xs from q)
    exact ⟨its, rv, p.isList, p.lt⟩
  · obtain ⟨its, rv, p, hz⟩ := I.tuple (show SqT X.K H a xs from q)
    obtain ⟨o1, ho1, _⟩ := id p
    exact ⟨its, rv, p, Heap.lt_size ho1⟩
theorem SqB.inj {X : Cx} {pins : List (Addr × Obj)} {σ : L2.St} {H : Hp} {s : Shared} {b : Bool} {a : Addr} {xs ys : List V} (I : Inv X pins σ H s) (q : SqB X.K b H a xs) (q' : SqB X.K b H a ys) : xs = ys := by
  cases b
  · exact I.list_inj q q'
  · exact I.tuple_inj q q'
theorem drawsB {P : Program} {w : World} {A : Around} (hh : A.handled = none) (b : Bool) (it a : Addr) (hne : a ≠ it) (items : Array Value) :
    Draws P w A it [it, a] items.size (fun i v => items[i]? = some v) (fun i h => ItB b h it a i ∧ SeB b h a items) := by
  cases b
  · exact Draws.list hh it a hne items
  · exact Draws.tuple hh it a hne items

/-! ### enumerate -/
def IteB (K : PySem.W.Frag) (b : Bool) (a : Addr) : It :=
  ⟨fun i H => ∃ (xs : List V) (x : V), SqB K b H a xs ∧ xs[i]? = some x, fun i H v H' => ∃ T x, v = .ref T ∧ H T = none ∧ H' = upd H T (.tup [.int (i : Nat), x]) ∧ ∀ xs, SqB K b H a xs → xs[i]? = some x, fun i H => ∃ xs : List V, SqB K b H a xs ∧ xs.length = i⟩
theorem turn_enumB {P : Program} {w : World} {K : PySem.W.Frag} {elts : List Expr} {kk : Nat} {tpos : Pos} (b : Bool) (a e it : Addr) :
    Turn P w K (.Tuple elts kk tpos) (IteB K b a) [e, it] e (fun i h => (∃ old, IsEnum h e it ((i : Nat) : Int) old) ∧ ItB b h it a i ∧ e ≠ it ∧ e ≠ a ∧ a ≠ it) where
  mem := by simp
  obj := fun i h st c hc => by
    obtain ⟨⟨old, he⟩, hi, _⟩ := st
    have e' : c = e ∨ c = it := by simpa using hc
    rcases e' with z | z
    · rw [z]; exact ⟨_, he, fun v q => nomatch q⟩
    · rw [z]; exact hi.obj
  keep := fun i h h' st k => let ⟨⟨old, he⟩, hi, hne⟩ := st; ⟨⟨old, k e (by simp) _ he⟩, hi.at_ fun o q => k it (by simp) o q, hne⟩
  item := by
    intro X hP hw hK hc i pins s σ H E I hf st hg
    subst hP hw hK
    obtain ⟨⟨old, he⟩, hit, hne, hea, hai⟩ := st
    obtain ⟨xs, x, hq, hx⟩ := hg
    obtain ⟨its, rv, p, hal⟩ := hq.obj I
    obtain ⟨u, hu, ru⟩ := rv.get hx
    have hel : e < s.heap.objs.size := Heap.lt_size he
    have hil : it < s.heap.objs.size := by obtain ⟨_, q, _⟩ := hit.obj; exact Heap.lt_size q
    have hu' : its.toArray[i]? = some u := by simpa using hu
    have hlt : i < its.toArray.size := by
      rcases Nat.lt_or_ge i its.toArray.size with q | q
      · exact q
      · rw [Array.getElem?_eq_none q] at hu'; cases hu'
    refine wpAny_pyNext_enum_itemD (drawsB (A := X.A.in1) (show X.A.in1.handled = none from I.ok.hd hc) b it a hai its.toArray) he ⟨hit, p⟩ hlt hne (by simp [hne, hea]) fun u2 h' tk hP2 ho hst hT hsz hk => ?_
    have hu2 : u2 = u := by rw [hu'] at hP2; exact (Option.some.inj hP2).symm
    subst hu2
    obtain ⟨hit', _⟩ := hst
    refine ⟨_, rfl, wpAny_letOwnedTupleGo_enum (s := { s with heap := h', toks := tk + 1 }) ho fun h'' he' sb => ?_⟩
    have hT2 : h''.get? s.heap.objs.size = some { cls := .type "tuple", data := .seq #[.int i tk, u2] } := (sb.2 _ (Nat.ne_of_gt hel)).trans hT
    have new : ObjOk X.prog X.w (upd H s.heap.objs.size (.tup [.int (i : Nat), x])) h'' s.heap.objs.size (.tup [.int (i : Nat), x]) :=
      ⟨by show 2 ≤ sizeLine; decide, [.int i tk, u2], .cons ⟨_, rfl⟩ (.cons ru .nil), ⟨_, hT2, rfl, _, rfl⟩⟩
    have I1 : Inv X pins σ (upd H s.heap.objs.size (.tup [.int (i : Nat), x])) { s with heap := h'', toks := tk + 1 } :=
      I.turnedNew (ch := [e, it]) (fun c ob hb q => (sb.2 c (fun z => hb (by simp [z]))).trans (hk c ob (fun z => hb (by simp [z])) (fun z => hb (by simp [z])) q)) hf (Nat.le_refl _) new
    refine ⟨.ref s.heap.objs.size, _, I1, rfl, ⟨_, x, rfl, I.hok.fresh (Nat.le_refl _), rfl, fun ys hy => by rw [hy.inj I hq]; exact hx⟩, ⟨⟨u2, ?_⟩, hit'.at_ fun o q => (sb.2 it (Ne.symm hne)).trans q, hne, hea, hai⟩, fun c hb => ?_⟩
    · have e1 : ((i + 1 : Nat) : Int) = (i : Int) + 1 := by omega
      rw [e1]; exact he'
    · have hb' : c < s.heap.objs.size := by
        have e' : c = e ∨ c = it := by simpa using hb
        rcases e' with z | z
        · rw [z]; exact hel
        · rw [z]; exact hil
      rw [upd_ne (Nat.ne_of_lt hb')]
      exact (hf c hb).1
  done := by
    intro X hP hw hK hc i pins s σ H E I hf st hg
    subst hP hw hK
    obtain ⟨⟨old, he⟩, hit, hne, hea, hai⟩ := st
    obtain ⟨xs, hq, hx⟩ := hg
    obtain ⟨its, rv, p, hal⟩ := hq.obj I
    obtain ⟨f0, f1, f2, f3, f4, f5⟩ := hf it (by simp)
    have hl := rv.length
    have hi : i = its.toArray.size := by simp; omega
    subst hi
    exact wpAny_pyNext_enum_endD (drawsB (A := X.A.in1) (show X.A.in1.handled = none from I.ok.hd hc) b it a hai its.toArray) he ⟨hit, p⟩ fun h' eb => ⟨rfl, I.turned (t' := s.toks) (fun b o hb q => eb b o hb q) f0 f1 f3 f4 f5⟩
  self := fun A i s Q E st h => let ⟨⟨_, he⟩, _⟩ := st; wpAny_pyIter_enum he h
open AutoSeq1 (wpAny_loadPart')
theorem meets_enumerate_newT (l : Addr) (items : Array Value) (n : Nat) (dct : Option Addr) (sl : Array (Option Value)) :
    Meets (Builtin.«enumerate.__new__» ⟨[.type "enumerate", .ref l], []⟩) (fun _ R s => s.heap.get? l = some { cls := .type "tuple", dict := dct, data := .seq items n, slots := sl } ∧
      R (.ok (.ret (.ref (s.heap.push { cls := .type "tuple_iterator", data := .fields #[.ref l, .int 0 0] }).objs.size)))
        { s with heap := (s.heap.push { cls := .type "tuple_iterator", data := .fields #[.ref l, .int 0 0] }).push { cls := .type "enumerate", data := .fields #[.none, .bool false, .ref s.heap.objs.size, rawInt 0, .none, .none] } }) :=
  .of_wp fun prog w A R s h => by
    obtain ⟨hp, g, d, tk, os⟩ := s; obtain ⟨hl, h⟩ := h
    have hsub := sub_enumerate
    have hL : Heap.IsTuple (Shared.heap ⟨hp, g, d, tk, os⟩) l items := ⟨_, hl, rfl, n, rfl⟩
    wp_walk using wpAny_loadPart' hl
    refine wpAny_stack_any fun st => wpAny_pure ?_
    split
    · rename_i c _ _ _ _ _
      cases (c == Value.type "enumerate")
      · wp_walk using wpAny_loadPart' hl, wpAny_pyIter_tuple hL
        exact ⟨_, rfl, h⟩
      · wp_walk using wpAny_loadPart' hl, wpAny_pyIter_tuple hL
        exact ⟨_, rfl, h⟩
    · wp_walk using wpAny_loadPart' hl, wpAny_pyIter_tuple hL
      exact ⟨_, rfl, h⟩
theorem call_enumerate_tuple {prog : Program} {w : World} {A : Around} {E : Value → Shared → Prop} {s : Shared} {l : Addr} {items : Array Value} {Q : Value → Shared → Prop} (hL : s.heap.IsTuple l items)
    (h : ∀ h', IsEnum h' (s.heap.objs.size + 1) s.heap.objs.size 0 .none → h'.IsTupleIter s.heap.objs.size l 0 → h'.objs.size = s.heap.objs.size + 2 →
      (∀ b o, s.heap.get? b = some o → h'.get? b = some o) → Q (.ref (s.heap.objs.size + 1)) { s with heap := h' }) :
    wpAny (model prog w) A (call (.type "enumerate") [.ref l]) Q E s := by
  obtain ⟨⟨c, dct, dt, sl⟩, hl, hc, n, hd⟩ := hL
  replace hc : c = .type "tuple" := hc
  replace hd : dt = .seq items n := hd
  subst hc hd
  refine callType_new F.called_enumerate (by decide) (F.typeCall_enumerate_1 _) (F.newCall_enumerate_1 _) (fun obj => F.args_object_init_2 obj _) F.entry_enumerate_new
    (meets_enumerate_newT l items n dct sl) ⟨hl, ?_⟩
  have hz : (s.heap.push { cls := .type "tuple_iterator", data := .fields #[.ref l, .int 0 0] }).objs.size = s.heap.objs.size + 1 := Heap.size_push ..
  show _ ∧ _
  rw [hz]
  have he : IsEnum ((s.heap.push { cls := .type "tuple_iterator", data := .fields #[.ref l, .int 0 0] }).push
      { cls := .type "enumerate", data := .fields #[.none, .bool false, .ref s.heap.objs.size, rawInt 0, .none, .none] }) (s.heap.objs.size + 1) s.heap.objs.size 0 .none := by
    have := Heap.get?_push_size (s.heap.push { cls := .type "tuple_iterator", data := .fields #[.ref l, .int 0 0] })
      (o := { cls := .type "enumerate", data := .fields #[.none, .bool false, .ref s.heap.objs.size, rawInt 0, .none, .none] }) rfl
    rw [hz] at this; exact this
  refine ⟨⟨_, he, rfl⟩, h _ he ⟨_, Heap.get?_push_of_some _ (Heap.get?_push_size _ rfl), rfl, rfl⟩ (by rw [Heap.size_push, hz]) fun b o x => Heap.get?_push_of_some _ (Heap.get?_push_of_some _ x)⟩
theorem call_enumerate_B {prog : Program} {w : World} {A : Around} {E : Value → Shared → Prop} {s : Shared} {l : Addr} {items : Array Value} {Q : Value → Shared → Prop} (b : Bool) (hL : SeB b s.heap l items)
    (h : ∀ h', IsEnum h' (s.heap.objs.size + 1) s.heap.objs.size 0 .none → ItB b h' s.heap.objs.size l 0 → h'.objs.size = s.heap.objs.size + 2 →
      (∀ b o, s.heap.get? b = some o → h'.get? b = some o) → Q (.ref (s.heap.objs.size + 1)) { s with heap := h' }) :
    wpAny (model prog w) A (call (.type "enumerate") [.ref l]) Q E s := by
  cases b
  · exact call_enumerate_list hL h
  · exact call_enumerate_tuple hL h
def iEnumB (K : PySem.W.Frag) (ta : TA) : TI := fun σ H R => ta σ H fun vs H1 => ∃ b a xs, vs = [.ref a] ∧ SqB K b H1 a xs ∧ R (IteB K b a) H1
theorem pi_enumB {X : Cx} {e : Expr} {ta : TA} {p pos tpos : Pos} {elts : List Expr} {kk : Nat} (hg : Gl X "enumerate") (hm : X.mg "enumerate" = none) (ha : PA X [e] ta) (hs : starEach [e] X.env = [(false, eval e X.env)] := by rfl) :
    PI X (.Tuple elts kk tpos) (.Call (.Name "enumerate" p) [e] [] pos) (iEnumB X.K ta) := by
  refine ⟨fun pins s σ H R I h => ?_⟩
  refine Call_ (ld_blt I hg hm boot_enumerate (PyProof.Rows.callWith_type1 (thn (ha.run pos pins s σ H _ I h) fun us s1 ⟨vs, H1, I1, r1, q1⟩ => ?_) hs rfl))
  obtain ⟨b, a, xs, ex, hq, q⟩ := q1
  subst ex
  cases r1 with
  | cons r rr =>
    cases rr
    cases r
    obtain ⟨its, rv, p', hal⟩ := hq.obj I1
    refine call_enumerate_B b p' fun h' he hit hsz hk => wpAny_pyIter_enum he ?_
    have I2 : Inv X pins σ H1 { s1 with heap := h' } := I1.kept (t' := s1.toks) hk
    refine ⟨s1.heap.objs.size + 1, [s1.heap.objs.size + 1, s1.heap.objs.size], _, _, H1, rfl, I2, turn_enumB b a (s1.heap.objs.size + 1) s1.heap.objs.size, ⟨⟨.none, he⟩, hit, Nat.succ_ne_self _, Nat.ne_of_gt (Nat.lt_succ_of_lt hal), Nat.ne_of_lt hal⟩, fun b hb => ?_, q⟩
    have e' : b = s1.heap.objs.size + 1 ∨ b = s1.heap.objs.size := by simpa using hb
    have hle : s1.heap.objs.size ≤ b := by
      rcases e' with z | z
      · rw [z]; exact Nat.le_add_right _ _
      · rw [z]; exact Nat.le_refl _
    exact I1.fpOk hle (I1.hok.fresh hle)

abbrev zipLTH1 (h : Heap) (l1 : Addr) : Heap := h.push { cls := .type "list_iterator", data := .fields #[.ref l1, .int 0 0] }
abbrev zipLTH2 (h : Heap) (l1 l2 : Addr) : Heap := (zipLTH1 h l1).push { cls := .type "tuple_iterator", data := .fields #[.ref l2, .int 0 0] }
abbrev zipLTH3 (h : Heap) (l1 l2 : Addr) : Heap := (zipLTH2 h l1 l2).push { cls := .type "tuple", data := .seq #[.ref h.objs.size, .ref (zipLTH1 h l1).objs.size] }
abbrev zipLTH4 (h : Heap) (l1 l2 : Addr) : Heap := (zipLTH3 h l1 l2).push { cls := .type "tuple", data := .seq #[.none, .none] }
abbrev zipLTH5 (h : Heap) (l1 l2 : Addr) : Heap := (zipLTH4 h l1 l2).push { cls := .type "zip", data := .fields #[.none, .bool false, .bool false, .ref (zipLTH2 h l1 l2).objs.size, .ref (zipLTH3 h l1 l2).objs.size] }
theorem meets_zipLT_new (l1 l2 : Addr) (xs ys : Array Value) :
    Meets (Builtin.«zip.__new__» ⟨[.type "zip", .ref l1, .ref l2], []⟩) (fun _ R s => s.heap.IsList l1 xs ∧ s.heap.IsTuple l2 ys ∧
      R (.ok (.ret (.ref (zipLTH4 s.heap l1 l2).objs.size))) { s with heap := zipLTH5 s.heap l1 l2 }) :=
  .of_wp fun prog w A R s h => by
    obtain ⟨hp, g, d, tk, os⟩ := s; obtain ⟨hl1, hl2, h⟩ := h
    have hsub := sub_zip
    have hL1 : Heap.IsList (Shared.heap ⟨hp, g, d, tk, os⟩) l1 xs := hl1
    have hL2 : Heap.IsTuple (Shared.heap ⟨hp.push { cls := .type "list_iterator", data := .fields #[.ref l1, .int 0 0] }, g, d, tk, os⟩) l2 ys := Heap.IsTuple.push hl2 _
    wp_walk using wpAny_pyIter_list hL1, wpAny_pyIter_tuple hL2
    exact ⟨_, rfl, h⟩
theorem call_zipLT {prog : Program} {w : World} {A : Around} {E : Value → Shared → Prop} {s : Shared} {l1 l2 : Addr} {xs ys : Array Value} {Q : Value → Shared → Prop} (hl1 : s.heap.IsList l1 xs) (hl2 : s.heap.IsTuple l2 ys)
    (h : ∀ h', IsZip h' (s.heap.objs.size + 4) (s.heap.objs.size + 2) (s.heap.objs.size + 3) .none → IsPair h' (s.heap.objs.size + 2) (.ref s.heap.objs.size) (.ref (s.heap.objs.size + 1)) →
      IsPair h' (s.heap.objs.size + 3) .none .none → h'.IsListIter s.heap.objs.size l1 0 → h'.IsTupleIter (s.heap.objs.size + 1) l2 0 → h'.objs.size = s.heap.objs.size + 5 →
      (∀ c o, s.heap.get? c = some o → h'.get? c = some o) → Q (.ref (s.heap.objs.size + 4)) { s with heap := h' }) :
    wpAny (model prog w) A (call (.type "zip") [.ref l1, .ref l2]) Q E s := by
  refine callType_new F.called_zip (by decide) (F.typeCall_zip_2 _ _) (F.newCall_zip_2 _ _) (fun obj => F.args_object_init_3 obj _ _) F.entry_zip_new
    (meets_zipLT_new l1 l2 xs ys) ⟨hl1, hl2, ?_⟩
  have z1 : (zipLTH1 s.heap l1).objs.size = s.heap.objs.size + 1 := Heap.size_push ..
  have z2 : (zipLTH2 s.heap l1 l2).objs.size = s.heap.objs.size + 2 := by rw [Heap.size_push, z1]
  have z3 : (zipLTH3 s.heap l1 l2).objs.size = s.heap.objs.size + 3 := by rw [Heap.size_push, z2]
  have z4 : (zipLTH4 s.heap l1 l2).objs.size = s.heap.objs.size + 4 := by rw [Heap.size_push, z3]
  have z5 : (zipLTH5 s.heap l1 l2).objs.size = s.heap.objs.size + 5 := by rw [Heap.size_push, z4]
  have g5 : (zipLTH5 s.heap l1 l2).get? (zipLTH4 s.heap l1 l2).objs.size = some _ := Heap.get?_push_size _ rfl
  have g4 : (zipLTH5 s.heap l1 l2).get? (zipLTH3 s.heap l1 l2).objs.size = some _ := Heap.get?_push_of_some _ (Heap.get?_push_size _ rfl)
  have g3 : (zipLTH5 s.heap l1 l2).get? (zipLTH2 s.heap l1 l2).objs.size = some _ := Heap.get?_push_of_some _ (Heap.get?_push_of_some _ (Heap.get?_push_size _ rfl))
  have g2 : (zipLTH5 s.heap l1 l2).get? (zipLTH1 s.heap l1).objs.size = some _ := Heap.get?_push_of_some _ (Heap.get?_push_of_some _ (Heap.get?_push_of_some _ (Heap.get?_push_size _ rfl)))
  have g1 : (zipLTH5 s.heap l1 l2).get? s.heap.objs.size = some _ := Heap.get?_push_of_some _ (Heap.get?_push_of_some _ (Heap.get?_push_of_some _ (Heap.get?_push_of_some _ (Heap.get?_push_size _ rfl))))
  show _ ∧ _
  rw [z2, z3, z4] at g5
  rw [z1, z2] at g3
  rw [z3] at g4
  rw [z1] at g2
  rw [z4]
  exact ⟨⟨_, g5, rfl⟩, h _ g5 g3 g4 ⟨_, g1, rfl, rfl⟩ ⟨_, g2, rfl, rfl⟩ z5 fun c o x =>
    Heap.get?_push_of_some _ (Heap.get?_push_of_some _ (Heap.get?_push_of_some _ (Heap.get?_push_of_some _ (Heap.get?_push_of_some _ x))))⟩

abbrev zipTLH1 (h : Heap) (l1 : Addr) : Heap := h.push { cls := .type "tuple_iterator", data := .fields #[.ref l1, .int 0 0] }
abbrev zipTLH2 (h : Heap) (l1 l2 : Addr) : Heap := (zipTLH1 h l1).push { cls := .type "list_iterator", data := .fields #[.ref l2, .int 0 0] }
abbrev zipTLH3 (h : Heap) (l1 l2 : Addr) : Heap := (zipTLH2 h l1 l2).push { cls := .type "tuple", data := .seq #[.ref h.objs.size, .ref (zipTLH1 h l1).objs.size] }
abbrev zipTLH4 (h : Heap) (l1 l2 : Addr) : Heap := (zipTLH3 h l1 l2).push { cls := .type "tuple", data := .seq #[.none, .none] }
abbrev zipTLH5 (h : Heap) (l1 l2 : Addr) : Heap := (zipTLH4 h l1 l2).push { cls := .type "zip", data := .fields #[.none, .bool false, .bool false, .ref (zipTLH2 h l1 l2).objs.size, .ref (zipTLH3 h l1 l2).objs.size] }
theorem meets_zipTL_new (l1 l2 : Addr) (xs ys : Array Value) :
    Meets (Builtin.«zip.__new__» ⟨[.type "zip", .ref l1, .ref l2], []⟩) (fun _ R s => s.heap.IsTuple l1 xs ∧ s.heap.IsList l2 ys ∧
      R (.ok (.ret (.ref (zipTLH4 s.heap l1 l2).objs.size))) { s with heap := zipTLH5 s.heap l1 l2 }) :=
  .of_wp fun prog w A R s h => by
    obtain ⟨hp, g, d, tk, os⟩ := s; obtain ⟨hl1, hl2, h⟩ := h
    have hsub := sub_zip
    have hL1 : Heap.IsTuple (Shared.heap ⟨hp, g, d, tk, os⟩) l1 xs := hl1
    have hL2 : Heap.IsList (Shared.heap ⟨hp.push { cls := .type "tuple_iterator", data := .fields #[.ref l1, .int 0 0] }, g, d, tk, os⟩) l2 ys := Heap.IsList.push hl2 _
    wp_walk using wpAny_pyIter_tuple hL1, wpAny_pyIter_list hL2
    exact ⟨_, rfl, h⟩
theorem call_zipTL {prog : Program} {w : World} {A : Around} {E : Value → Shared → Prop} {s : Shared} {l1 l2 : Addr} {xs ys : Array Value} {Q : Value → Shared → Prop} (hl1 : s.heap.IsTuple l1 xs) (hl2 : s.heap.IsList l2 ys)
    (h : ∀ h', IsZip h' (s.heap.objs.size + 4) (s.heap.objs.size + 2) (s.heap.objs.size + 3) .none → IsPair h' (s.heap.objs.size + 2) (.ref s.heap.objs.size) (.ref (s.heap.objs.size + 1)) →
      IsPair h' (s.heap.objs.size + 3) .none .none → h'.IsTupleIter s.heap.objs.size l1 0 → h'.IsListIter (s.heap.objs.size + 1) l2 0 → h'.objs.size = s.heap.objs.size + 5 →
      (∀ c o, s.heap.get? c = some o → h'.get? c = some o) → Q (.ref (s.heap.objs.size + 4)) { s with heap := h' }) :
    wpAny (model prog w) A (call (.type "zip") [.ref l1, .ref l2]) Q E s := by
  refine callType_new F.called_zip (by decide) (F.typeCall_zip_2 _ _) (F.newCall_zip_2 _ _) (fun obj => F.args_object_init_3 obj _ _) F.entry_zip_new
    (meets_zipTL_new l1 l2 xs ys) ⟨hl1, hl2, ?_⟩
  have z1 : (zipTLH1 s.heap l1).objs.size = s.heap.objs.size + 1 := Heap.size_push ..
  have z2 : (zipTLH2 s.heap l1 l2).objs.size = s.heap.objs.size + 2 := by rw [Heap.size_push, z1]
  have z3 : (zipTLH3 s.heap l1 l2).objs.size = s.heap.objs.size + 3 := by rw [Heap.size_push, z2]
  have z4 : (zipTLH4 s.heap l1 l2).objs.size = s.heap.objs.size + 4 := by rw [Heap.size_push, z3]
  have z5 : (zipTLH5 s.heap l1 l2).objs.size = s.heap.objs.size + 5 := by rw [Heap.size_push, z4]
  have g5 : (zipTLH5 s.heap l1 l2).get? (zipTLH4 s.heap l1 l2).objs.size = some _ := Heap.get?_push_size _ rfl
  have g4 : (zipTLH5 s.heap l1 l2).get? (zipTLH3 s.heap l1 l2).objs.size = some _ := Heap.get?_push_of_some _ (Heap.get?_push_size _ rfl)
  have g3 : (zipTLH5 s.heap l1 l2).get? (zipTLH2 s.heap l1 l2).objs.size = some _ := Heap.get?_push_of_some _ (Heap.get?_push_of_some _ (Heap.get?_push_size _ rfl))
  have g2 : (zipTLH5 s.heap l1 l2).get? (zipTLH1 s.heap l1).objs.size = some _ := Heap.get?_push_of_some _ (Heap.get?_push_of_some _ (Heap.get?_push_of_some _ (Heap.get?_push_size _ rfl)))
  have g1 : (zipTLH5 s.heap l1 l2).get? s.heap.objs.size = some _ := Heap.get?_push_of_some _ (Heap.get?_push_of_some _ (Heap.get?_push_of_some _ (Heap.get?_push_of_some _ (Heap.get?_push_size _ rfl))))
  show _ ∧ _
  rw [z2, z3, z4] at g5
  rw [z1, z2] at g3
  rw [z3] at g4
  rw [z1] at g2
  rw [z4]
  exact ⟨⟨_, g5, rfl⟩, h _ g5 g3 g4 ⟨_, g1, rfl, rfl⟩ ⟨_, g2, rfl, rfl⟩ z5 fun c o x =>
    Heap.get?_push_of_some _ (Heap.get?_push_of_some _ (Heap.get?_push_of_some _ (Heap.get?_push_of_some _ (Heap.get?_push_of_some _ x))))⟩

theorem call_zipB {prog : Program} {w : World} {A : Around} {E : Value → Shared → Prop} {s : Shared} {l1 l2 : Addr} {xs ys : Array Value} {Q : Value → Shared → Prop} (b1 b2 : Bool) (hl1 : SeB b1 s.heap l1 xs) (hl2 : SeB b2 s.heap l2 ys)
    (h : ∀ h', IsZip h' (s.heap.objs.size + 4) (s.heap.objs.size + 2) (s.heap.objs.size + 3) .none → IsPair h' (s.heap.objs.size + 2) (.ref s.heap.objs.size) (.ref (s.heap.objs.size + 1)) →
      IsPair h' (s.heap.objs.size + 3) .none .none → ItB b1 h' s.heap.objs.size l1 0 → ItB b2 h' (s.heap.objs.size + 1) l2 0 → h'.objs.size = s.heap.objs.size + 5 →
      (∀ c o, s.heap.get? c = some o → h'.get? c = some o) → Q (.ref (s.heap.objs.size + 4)) { s with heap := h' }) :
    wpAny (model prog w) A (call (.type "zip") [.ref l1, .ref l2]) Q E s := by
  cases b1 <;> cases b2
  · exact call_zip_2 hl1 hl2 h
  · exact call_zipLT hl1 hl2 h
  · exact call_zipTL hl1 hl2 h
  · exact RZ.call_zipT hl1 hl2 h
def ItzB (K : PySem.W.Frag) (b1 b2 : Bool) (a b : Addr) : It :=
  ⟨fun i H => ∃ (xs ys : List V) (x y : V), SqB K b1 H a xs ∧ SqB K b2 H b ys ∧ xs[i]? = some x ∧ ys[i]? = some y,
    fun i H v H' => ∃ T x y, v = .ref T ∧ H T = none ∧ H' = upd H T (.tup [x, y]) ∧ (∀ xs, SqB K b1 H a xs → xs[i]? = some x) ∧ ∀ ys, SqB K b2 H b ys → ys[i]? = some y,
    fun i H => ∃ xs ys : List V, SqB K b1 H a xs ∧ SqB K b2 H b ys ∧ i ≤ xs.length ∧ i ≤ ys.length ∧ (i = xs.length ∨ i = ys.length)⟩
theorem turn_zipB {P : Program} {w : World} {K : PySem.W.Frag} {elts : List Expr} {kk : Nat} {tpos : Pos} {a b z TI TO i1 i2 : Addr} (b1 b2 : Bool) (S : ZipSep2 z TI TO i1 i2 [i1, a] [i2, b]) (ha : a ≠ i1) (hb : b ≠ i2) :
    Turn P w K (.Tuple elts kk tpos) (ItzB K b1 b2 a b) [z, TI, TO, i1, i2] z (fun i h => IsZip h z TI TO .none ∧ IsPair h TI (.ref i1) (.ref i2) ∧ (∃ x y, IsPair h TO x y) ∧ ItB b1 h i1 a i ∧ ItB b2 h i2 b i) where
  mem := by simp
  obj := fun i h st c hc => by
    obtain ⟨hz, hTI, ⟨x, y, hTO⟩, h1, h2⟩ := st
    have e' : c = z ∨ c = TI ∨ c = TO ∨ c = i1 ∨ c = i2 := by simpa using hc
    rcases e' with q | q | q | q | q
    · rw [q]; exact ⟨_, hz, fun v q => nomatch q⟩
    · rw [q]; exact ⟨_, hTI, fun v q => nomatch q⟩
    · rw [q]; exact ⟨_, hTO, fun v q => nomatch q⟩
    · rw [q]; exact h1.obj
    · rw [q]; exact h2.obj
  keep := fun i h h' st k => by
    obtain ⟨hz, hTI, ⟨x, y, hTO⟩, h1, h2⟩ := st
    exact ⟨k z (by simp) _ hz, k TI (by simp) _ hTI, ⟨x, y, k TO (by simp) _ hTO⟩, h1.at_ fun o q => k i1 (by simp) o q, h2.at_ fun o q => k i2 (by simp) o q⟩
  item := by
    intro X hP hw hK hc i pins s σ H E I hf st hg
    subst hP hw hK
    obtain ⟨hz, hTI, ⟨x0, y0, hTO⟩, h1, h2⟩ := st
    obtain ⟨xs, ys, x, y, hqx, hqy, hx, hy⟩ := hg
    obtain ⟨its, rv, p, _⟩ := hqx.obj I
    obtain ⟨its2, rv2, p2, _⟩ := hqy.obj I
    obtain ⟨u, hu, ru⟩ := rv.get hx
    obtain ⟨u2, hu2, ru2⟩ := rv2.get hy
    have hzl : z < s.heap.objs.size := Heap.lt_size hz
    have hu' : its.toArray[i]? = some u := by simpa using hu
    have hu2' : its2.toArray[i]? = some u2 := by simpa using hu2
    have lt : ∀ {it : Array Value} {v : Value}, it[i]? = some v → i < it.size := fun {it v} e => by
      rcases Nat.lt_or_ge i it.size with q | q
      · exact q
      · rw [Array.getElem?_eq_none q] at e; cases e
    refine wpAny_pyNext_zipD2_item S (drawsB (A := X.A.in1) (show X.A.in1.handled = none from I.ok.hd hc) b1 i1 a ha its.toArray) (drawsB (A := X.A.in1) (show X.A.in1.handled = none from I.ok.hd hc) b2 i2 b hb its2.toArray) hz hTI hTO ⟨h1, p⟩ ⟨h2, p2⟩ (lt hu') (lt hu2') fun v1 v2 h' tk e1 e2 z' TO' hs1 hs2 hT hsz hk => ?_
    obtain rfl : v1 = u := by rw [hu'] at e1; exact (Option.some.inj e1).symm
    obtain rfl : v2 = u2 := by rw [hu2'] at e2; exact (Option.some.inj e2).symm
    obtain ⟨h1', _⟩ := hs1
    obtain ⟨h2', _⟩ := hs2
    refine ⟨_, rfl, wpAny_letOwnedTupleGo_zip (s := { s with heap := h', toks := tk }) z' fun h'' z'' sb => ?_⟩
    have hT2 : h''.get? s.heap.objs.size = some { cls := .type "tuple", data := .seq #[v1, v2] } := (sb.2 _ (Nat.ne_of_gt hzl)).trans hT
    have new : ObjOk X.prog X.w (upd H s.heap.objs.size (.tup [x, y])) h'' s.heap.objs.size (.tup [x, y]) :=
      ⟨by show 2 ≤ sizeLine; decide, [v1, v2], .cons ru (.cons ru2 .nil), ⟨_, hT2, rfl, _, rfl⟩⟩
    have I1 : Inv X pins σ (upd H s.heap.objs.size (.tup [x, y])) { s with heap := h'', toks := tk } :=
      I.turnedNew (ch := [z, TI, TO, i1, i2]) (fun c o hb q => (sb.2 c (fun q' => hb (by simp [q']))).trans (hk c o (fun q' => hb (by simp [q'])) (fun q' => hb (by simp [q'])) (fun q' => hb (by simp [q'])) (fun q' => hb (by simp [q'])) q)) hf (Nat.le_refl _) new
    refine ⟨.ref s.heap.objs.size, _, I1, rfl, ⟨_, x, y, rfl, I.hok.fresh (Nat.le_refl _), rfl, fun l hl => by rw [hl.inj I hqx]; exact hx, fun l hl => by rw [hl.inj I hqy]; exact hy⟩, ⟨z'', ?_, ⟨v1, v2, ?_⟩, ?_, ?_⟩, fun c hcm => ?_⟩
    · exact (sb.2 _ S.TIz).trans (hk _ _ S.TIz S.TITO S.TIi1 S.TIi2 hTI)
    · exact (sb.2 _ S.TOz).trans TO'
    · exact h1'.at_ fun o q => (sb.2 _ S.zi1.symm).trans q
    · exact h2'.at_ fun o q => (sb.2 _ S.zi2.symm).trans q
    · have hlt : c < s.heap.objs.size := by
        have e' : c = z ∨ c = TI ∨ c = TO ∨ c = i1 ∨ c = i2 := by simpa using hcm
        rcases e' with q | q | q | q | q
        · rw [q]; exact hzl
        · rw [q]; exact Heap.lt_size hTI
        · rw [q]; exact Heap.lt_size hTO
        · rw [q]; obtain ⟨_, e1, _⟩ := h1.obj; exact Heap.lt_size e1
        · rw [q]; obtain ⟨_, e1, _⟩ := h2.obj; exact Heap.lt_size e1
      rw [upd_ne (Nat.ne_of_lt hlt)]
      exact (hf c hcm).1
  done := by
    intro X hP hw hK hc i pins s σ H E I hf st hg
    subst hP hw hK
    obtain ⟨hz, hTI, ⟨x0, y0, hTO⟩, h1, h2⟩ := st
    obtain ⟨xs, ys, hqx, hqy, hl1, hl2, hend⟩ := hg
    obtain ⟨its, rv, p, _⟩ := hqx.obj I
    obtain ⟨its2, rv2, p2, _⟩ := hqy.obj I
    have l1 := rv.length
    have l2 := rv2.length
    exact wpAny_pyNext_zipD2_end S (drawsB (A := X.A.in1) (show X.A.in1.handled = none from I.ok.hd hc) b1 i1 a ha its.toArray) (drawsB (A := X.A.in1) (show X.A.in1.handled = none from I.ok.hd hc) b2 i2 b hb its2.toArray) hz hTI hTO ⟨h1, p⟩ ⟨h2, p2⟩ (by simp; omega) (by simp; omega) (by simp; omega) fun h' tk hk => ⟨rfl, I.turnedL (ch := [z, TI, TO, i1, i2]) (fun c o hb q =>
      hk c o (fun q' => hb (by simp [q'])) (fun q' => hb (by simp [q'])) (fun q' => hb (by simp [q'])) (fun q' => hb (by simp [q'])) q) hf⟩
  self := fun A i s Q E st h => wpAny_pyIter_zip st.1 h
def iZipB (K : PySem.W.Frag) (ta : TA) : TI := fun σ H R => ta σ H fun vs H1 => ∃ b1 b2 a b xs ys, vs = [.ref a, .ref b] ∧ SqB K b1 H1 a xs ∧ SqB K b2 H1 b ys ∧ R (ItzB K b1 b2 a b) H1
theorem pi_zipB {X : Cx} {e e2 : Expr} {ta : TA} {p pos tpos : Pos} {elts : List Expr} {kk : Nat} (hg : Gl X "zip") (hm : X.mg "zip" = none) (ha : PA X [e, e2] ta)
    (hs : starEach [e, e2] X.env = (false, eval e X.env) :: starEach [e2] X.env := by rfl) (hpl : (backTo pos (starEach [e2] X.env)).any (·.1) = false := by rfl) :
    PI X (.Tuple elts kk tpos) (.Call (.Name "zip" p) [e, e2] [] pos) (iZipB X.K ta) := by
  refine ⟨fun pins s σ H R I h => ?_⟩
  refine Call_ (ld_blt I hg hm PyProof.Rows.boot_zip (PyProof.Rows.callWith_type1 (thn (ha.run pos pins s σ H _ I h) fun us s1 ⟨vs, H1, I1, r1, q1⟩ => ?_) hs hpl))
  obtain ⟨b1, b2, a, b, xs, ys, ex, hqx, hqy, q⟩ := q1
  subst ex
  cases r1 with
  | cons r rr =>
    cases rr with
    | cons r' rr =>
      cases rr
      cases r
      cases r'
      have fresh5 : ∀ c, c ∈ [s1.heap.objs.size + 4, s1.heap.objs.size + 2, s1.heap.objs.size + 3, s1.heap.objs.size, s1.heap.objs.size + 1] → FpOk X pins H1 c := fun c hcm => by
        have e' : c = s1.heap.objs.size + 4 ∨ c = s1.heap.objs.size + 2 ∨ c = s1.heap.objs.size + 3 ∨ c = s1.heap.objs.size ∨ c = s1.heap.objs.size + 1 := by simpa using hcm
        have hle : s1.heap.objs.size ≤ c := by
          rcases e' with z | z | z | z | z
          · rw [z]; exact Nat.le_add_right _ _
          · rw [z]; exact Nat.le_add_right _ _
          · rw [z]; exact Nat.le_add_right _ _
          · rw [z]; exact Nat.le_refl _
          · rw [z]; exact Nat.le_add_right _ _
        exact I1.fpOk hle (I1.hok.fresh hle)
      obtain ⟨its, rv, p1, la⟩ := hqx.obj I1
      obtain ⟨its2, rv2, p2, lb⟩ := hqy.obj I1
      refine call_zipB b1 b2 p1 p2 fun h' hz hTI hTO h1 h2 hsz hk => wpAny_pyIter_zip hz ?_
      have I2 : Inv X pins σ H1 { s1 with heap := h' } := I1.kept (t' := s1.toks) hk
      have S : ZipSep2 (s1.heap.objs.size + 4) (s1.heap.objs.size + 2) (s1.heap.objs.size + 3) s1.heap.objs.size (s1.heap.objs.size + 1) [s1.heap.objs.size, a] [s1.heap.objs.size + 1, b] := by
        have la' : @LT.lt Nat _ a s1.heap.objs.size := la
        have lb' : @LT.lt Nat _ b s1.heap.objs.size := lb
        have ne : ∀ {x y : Nat}, x < y → (x : Addr) ≠ y := fun h => Nat.ne_of_lt h
        have ng : ∀ {x y : Nat}, y < x → (x : Addr) ≠ y := fun h => Nat.ne_of_gt h
        have nm : ∀ {x y z : Addr}, x ≠ y → x ≠ z → x ∉ [y, z] := fun h1 h2 h => by
          rcases List.mem_cons.mp h with h | h
          · exact h1 h
          · rw [List.mem_singleton] at h; exact h2 h
        refine ⟨ne ?_, ne ?_, ne ?_, ng ?_, List.mem_cons_self .., nm (ng ?_) (ng ?_), nm (ng ?_) (ng ?_), ng ?_, List.mem_cons_self .., nm (ng ?_) (ng ?_), nm (ng ?_) (ng ?_), nm (ne ?_) (ng ?_), nm (ng ?_) (ng ?_)⟩ <;> omega
      exact ⟨s1.heap.objs.size + 4, [s1.heap.objs.size + 4, s1.heap.objs.size + 2, s1.heap.objs.size + 3, s1.heap.objs.size, s1.heap.objs.size + 1], _, _, H1, rfl, I2, turn_zipB b1 b2 S (Nat.ne_of_lt la) (Nat.ne_of_lt (Nat.lt_succ_of_lt lb)), ⟨hz, hTI, ⟨_, _, hTO⟩, h1, h2⟩, fresh5, q⟩
end FL
end
section
set_option Elab.async false
set_option linter.all false
set_option maxRecDepth 100000
/-! FLS: enumerate and zip as readings; isinstance. -/
namespace FL
open PySem PySem.Spec PyProof.Rows L2

def fzOf : D → Option (List D)
  | .lst xs => some xs
  | .tup xs => some xs
  | _ => none
theorem fzOf_at {g : Gc} {W : Wd} {v : V} {d : D} {xs : List D} (s : SR g W) (h : Den g W v d) (e : fzOf d = some xs) :
    ∃ b a vs, v = .ref a ∧ DenL g W vs xs ∧ ∀ W', ExtW W W' → SqB g.K b W'.H a vs := by
  cases d with
  | lst ys =>
    cases e
    obtain ⟨a, vs, rfl, h1, n1, l⟩ := h.lst_inv
    exact ⟨false, a, vs, rfl, l, fun W' e => show SqL _ _ _ _ from SqL.of (e.fz _ _ h1 n1).1⟩
  | tup ys =>
    cases e
    cases h with
    | tupH h1 n1 l => exact ⟨true, _, _, rfl, l, fun W' e => show SqT _ _ _ _ from SqT.of (e.fz _ _ h1 n1).1⟩
    | tupK h1 l => exact ⟨true, _, _, rfl, l, fun W' e => show SqT _ _ _ _ from .inr h1⟩
  | _ => cases e
def enD : Nat → List D → List D
  | _, [] => []
  | k, x :: xs => .tup [.int k, x] :: enD (k + 1) xs
theorem enD_get : ∀ (xs : List D) (k i : Nat), (enD k xs)[i]? = xs[i]?.map fun x => .tup [.int (k + i : Nat), x]
  | [], _, _ => by simp [enD]
  | x :: xs, k, 0 => by simp [enD]
  | x :: xs, k, i + 1 => by
    show (enD (k + 1) xs)[i]? = xs[i]?.map _
    rw [enD_get xs (k + 1) i]
    have e : k + 1 + i = k + (i + 1) := by omega
    rw [e]
theorem enD_len : ∀ (xs : List D) (k : Nat), (enD k xs).length = xs.length
  | [], _ => rfl
  | _ :: xs, k => congrArg (· + 1) (enD_len xs (k + 1))
def zpD (xs ys : List D) : List D := (xs.zip ys).map fun p => .tup [p.1, p.2]
def iEn (ma : Ma) : Mi := fun e st => (ma e st).bind fun ds st1 => match ds with
  | [d] => match fzOf d with
    | some xs => .ok (enD 0 xs) st1
    | none => .no
  | _ => .no
def iZp (ma : Ma) : Mi := fun e st => (ma e st).bind fun ds st1 => match ds with
  | [d, d2] => match fzOf d, fzOf d2 with
    | some xs, some ys => .ok (zpD xs ys) st1
    | _, _ => .no
  | _ => .no
section
variable {X : Cx} {Wx : WX} {pos p2 tpos : Pos} {e e2 : Expr} {ma : Ma} {elts : List Expr} {kk : Nat}
theorem i_enum (hg : Gl X "enumerate") (hm : X.mg "enumerate" = none) (ha : PA X [e] (fA (gc X) Wx ma)) (hs : starEach [e] X.env = [(false, eval e X.env)] := by rfl) :
    PI X (.Tuple elts kk tpos) (.Call (.Name "enumerate" p2) [e] [] pos) (fI (gc X) Wx (iEn ma)) := PI.imp (pi_enumB hg hm ha hs) fun σ H R h => by
  obtain ⟨W, env, rfl, s, r, p⟩ := h
  refine ⟨W, env, rfl, s, r, ?_⟩
  dsimp only [iEn] at p
  cases q : ma env W.st with
  | exc x st1 => rw [q] at p; exact p
  | no => rw [q] at p; exact p
  | ok ds st1 =>
    rw [q] at p
    refine fun W1 e1 s1 hs1 v hv => ?_
    cases hv with
    | nil => exact p.elim
    | @cons v d vs ds h1 t =>
      cases t with
      | cons _ _ => exact p.elim
      | nil =>
        dsimp only [Res.bind] at p
        cases q2 : fzOf d with
        | none => rw [q2] at p; exact p.elim
        | some xs =>
          rw [q2] at p
          obtain ⟨b, a, vs, rfl, l, keep⟩ := fzOf_at s1 h1 q2
          refine ⟨b, a, vs, rfl, keep W1 (ExtW.refl _), p W1 e1 s1 hs1 _ ⟨fun W' i d e' s' hd => ?_, fun W' i e' s' hi => ?_⟩⟩
          · rw [enD_get, Nat.zero_add] at hd
            obtain ⟨x, hx, rfl⟩ := Option.map_eq_some_iff.mp hd
            obtain ⟨v, hv, hd'⟩ := (l.monoW e').getD' hx
            refine ⟨⟨vs, v, keep W' e', hv⟩, ?_⟩
            rintro u H' ⟨T, y, rfl, hT, rfl, hy⟩
            have := hy vs (keep W' e')
            rw [hv] at this
            cases this
            obtain ⟨W2, x1, x2, x3, x4, x5⟩ := s'.newT hT (.cons (.int (i : Nat)) (.cons hd' .nil))
            exact ⟨W2, x4, x1, x2, x3, x5⟩
          · refine ⟨vs, keep W' e', ?_⟩
            rw [enD_len] at hi
            rw [l.length]
            exact hi
theorem i_zip (hg : Gl X "zip") (hm : X.mg "zip" = none) (ha : PA X [e, e2] (fA (gc X) Wx ma)) (hs : starEach [e, e2] X.env = (false, eval e X.env) :: starEach [e2] X.env := by rfl) (hpl : (backTo pos (starEach [e2] X.env)).any (·.1) = false := by rfl) :
    PI X (.Tuple elts kk tpos) (.Call (.Name "zip" p2) [e, e2] [] pos) (fI (gc X) Wx (iZp ma)) := PI.imp (pi_zipB hg hm ha hs hpl) fun σ H R h => by
  obtain ⟨W, env, rfl, s, r, p⟩ := h
  refine ⟨W, env, rfl, s, r, ?_⟩
  dsimp only [iZp] at p
  cases q : ma env W.st with
  | exc x st1 => rw [q] at p; exact p
  | no => rw [q] at p; exact p
  | ok ds st1 =>
    rw [q] at p
    refine fun W1 e1 s1 hs1 v hv => ?_
    cases hv with
    | nil => exact p.elim
    | @cons v d vs ds h1 t =>
      cases t with
      | nil => exact p.elim
      | @cons v2 d2 vs ds h2 t =>
        cases t with
        | cons _ _ => exact p.elim
        | nil =>
          dsimp only [Res.bind] at p
          cases q2 : fzOf d with
          | none => rw [q2] at p; exact p.elim
          | some xs =>
            cases q3 : fzOf d2 with
            | none => rw [q2, q3] at p; exact p.elim
            | some ys =>
              rw [q2, q3] at p
              obtain ⟨b1, a, vs, rfl, l, keep⟩ := fzOf_at s1 h1 q2
              obtain ⟨b2, b, ws, rfl, l2, keep2⟩ := fzOf_at s1 h2 q3
              refine ⟨b1, b2, a, b, vs, ws, rfl, keep W1 (ExtW.refl _), keep2 W1 (ExtW.refl _), p W1 e1 s1 hs1 _ ⟨fun W' i d e' s' hd => ?_, fun W' i e' s' hi => ?_⟩⟩
              · unfold zpD at hd
                rw [List.getElem?_map] at hd
                obtain ⟨⟨x, y⟩, hx, rfl⟩ := Option.map_eq_some_iff.mp hd
                obtain ⟨hx1, hx2⟩ := List.getElem?_zip_eq_some.mp hx
                obtain ⟨v, hv, hd'⟩ := (l.monoW e').getD' hx1
                obtain ⟨v2, hv2, hd2'⟩ := (l2.monoW e').getD' hx2
                refine ⟨⟨vs, ws, v, v2, keep W' e', keep2 W' e', hv, hv2⟩, ?_⟩
                rintro u H' ⟨T, y, z, rfl, hT, rfl, hy, hz⟩
                have a1 := hy vs (keep W' e')
                have a2 := hz ws (keep2 W' e')
                rw [hv] at a1
                rw [hv2] at a2
                cases a1
                cases a2
                obtain ⟨W2, x1, x2, x3, x4, x5⟩ := s'.newT hT (.cons hd' (.cons hd2' .nil))
                exact ⟨W2, x4, x1, x2, x3, x5⟩
              · refine ⟨vs, ws, keep W' e', keep2 W' e', ?_⟩
                unfold zpD at hi
                rw [List.length_map, List.length_zip] at hi
                rw [l.length, l2.length]
                omega
end
end FL
end
section
set_option Elab.async false
set_option linter.all false
set_option maxRecDepth 100000
/-! FLT: isinstance. -/
namespace FL
open PySem PySem.Spec PyProof.Rows L2

def isT (a b : Ty) : Bool := decide (a = b) || (decide (a = .bl) && decide (b = .int))
theorem isT_ok : ∀ a b : Ty, kitB a.nm b.nm = some (isT a b) := by intro a b; cases a <;> cases b <;> decide +kernel
/-- a value's type: built-in or own -/
def tyN : D → Store → Option (Ty ⊕ S)
  | .non, _ => some (.inl .non)
  | .bl _, _ => some (.inl .bl)
  | .int _, _ => some (.inl .int)
  | .str _, _ => some (.inl .str)
  | .tup _, _ => some (.inl .tup)
  | .lst _, _ => some (.inl .lst)
  | .scr _, _ => some (.inl .lst)
  | .dic _, _ => some (.inl .dic)
  | .obj c _, _ => some (.inr c)
  | .nd _, _ => none
  | .exn _ _, _ => none
  | .ref n, st => match st[n]? with
    | some (.lst _) => some (.inl .lst)
    | some (.dic _) => some (.inl .dic)
    | some (.ins c _) => some (.inr c)
    | _ => none
def isiTB (K : PySem.W.Frag) (c : S) (T : Ty) : Bool := insB K c && decide (PySem.W.kitOne K (.ref (He.ga K (toS c))) (.type T.nm) = some false)
def oIsiT (T : Ty) (cs : List S) (d : D) (st : Store) : Res D := match tyN d st with
  | some (.inl a) => .ok (.bl (isT a T)) st
  | some (.inr c) => if cs.contains c = true then .ok (.bl false) st else .no
  | none => .no
def oIsiC (cs : List (S × Bool)) (d : D) (st : Store) : Res D := match tyN d st with
  | some (.inl _) => .ok (.bl false) st
  | some (.inr c) => match cs.lookup c with
    | some b => .ok (.bl b) st
    | none => .no
  | none => .no
theorem tyN_inl {g : Gc} {W : Wd} {v : V} {d : D} {a : Ty} (s : SR g W) (h : Den g W v d) (e : tyN d W.st = some (.inl a)) : TyX g.K W.H v (.type a.nm) := by
  cases h with
  | non => cases e; exact .base .non
  | bl b => cases e; exact .base (.bl b)
  | int b => cases e; exact .base (.int b)
  | str b _ => cases e; exact .base (.str _)
  | tupH h _ _ => cases e; exact .base (.tup h)
  | tupK h _ => cases e; obtain ⟨o, its, n, h1, h2, _⟩ := h; exact .kTuple h1 h2
  | lstH h _ _ => cases e; exact .base (.lst h)
  | scr h _ => cases e; exact .base (.frz h)
  | scrK h => cases e; obtain ⟨o, its, n, h1, h2, _⟩ := h; exact .kList h1 h2
  | dic h _ _ _ => cases e; exact .base (.dK h)
  | dicF h _ _ _ => cases e; exact .fDict h
  | ndic _ _ _ _ _ => cases e
  | obj _ _ _ _ => cases e
  | exn _ _ _ _ _ _ _ => cases e
  | @ref b n hb =>
    dsimp only [tyN] at e
    cases q : W.st[n]? with
    | none => rw [q] at e; cases e
    | some c =>
      rw [q] at e
      have ok := s.cell n b c hb q
      cases c with
      | lst _ => cases e; obtain ⟨vs, h1, _⟩ := ok; exact .base (.lst h1)
      | dic _ => cases e; obtain ⟨vs, h1, _⟩ := ok; exact .base (.dK h1)
      | _ => cases e
theorem tyN_inr {g : Gc} {W : Wd} {v : V} {d : D} {c : S} (s : SR g W) (h : Den g W v d) (e : tyN d W.st = some (.inr c)) (hc : insB g.K c = true) : TyX g.K W.H v (.ref (He.ga g.K (toS c))) := by
  obtain ⟨k1, hc⟩ := ba2 hc
  obtain ⟨k2, hc⟩ := ba2 hc
  obtain ⟨k3, hc⟩ := ba2 hc
  obtain ⟨k4, k5⟩ := ba2 hc
  have mk : ∀ {a dx : Addr} {fs : List (Str × V)}, W.H a = some (.ins (He.ga g.K (toS c)) dx fs) → TyX g.K W.H (.ref a) (.ref (He.ga g.K (toS c))) := fun h =>
    .base (.ins h (He.cls_ok k1) (He.eqO_ok k2) (He.eqO_ok k3) (of_decide_eq_true k4) (of_decide_eq_true k5))
  cases h with
  | obj h _ _ _ => cases e; exact mk h
  | @ref b n hb =>
    dsimp only [tyN] at e
    cases q : W.st[n]? with
    | none => rw [q] at e; cases e
    | some c =>
      rw [q] at e
      have ok := s.cell n b c hb q
      cases c with
      | ins _ _ => cases e; obtain ⟨dx, vs, h1, _⟩ := ok; exact mk h1
      | _ => cases e
  | _ => cases e
theorem lookup_mem {α β : Type} [BEq α] [LawfulBEq α] {c : α} {b : β} : ∀ {cs : List (α × β)}, cs.lookup c = some b → (c, b) ∈ cs
  | [], h => by cases h
  | (y1, y2) :: ys, h => by
    rw [List.lookup_cons] at h
    by_cases e : c = y1
    · subst e; simp only [beq_self_eq_true] at h; cases h; exact List.mem_cons_self ..
    · rw [beq_eq_false_iff_ne.mpr e] at h; exact List.mem_cons_of_mem _ (lookup_mem h)
section
variable {X : Cx} {Wx : WX} {pos p q : Pos} {e : Expr} {m : Me}
theorem e_isiT (T : Ty) (cs : List S) (hg : Gl X "isinstance") (hm : X.mg "isinstance" = none) {x : Str} (hgx : Gl X x) (hmx : X.mg x = none) (hv : bootBuiltins x = some (.type T.nm)) (hc : ∀ c ∈ cs, isiTB X.K c T = true) (he : PE X e (fE (gc X) Wx m))
    (hn : x ≠ "__name__" := by decide) (hd : (x == ("__debug__" : Str)) = false := by decide)
    (h1 : starEach [e, .Name x q] X.env = (false, eval e X.env) :: starEach [.Name x q] X.env := by rfl) (hpl : (backTo pos (starEach [.Name x q] X.env)).any (·.1) = false := by rfl) :
    PE X (.Call (.Name "isinstance" p) [e, .Name x q] [] pos) (fE (gc X) Wx (a1 (oIsiT T cs) m)) :=
  PE.imp (pe_callB call_isi hg hm boot_isinstance (pa_cons he (pa_cons (pe_bltn hgx hmx hv (v := .ty T.nm) rfl hn hd) pa_nil) h1) (he := h1) (hpl := hpl)) fun σ H Q h => by
    show fE (gc X) Wx m σ H fun x H1 => rIsi X.K [x, .ty T.nm] H1 Q
    refine fG_mono (lift1 h) fun v H' ⟨W, d, e0, s, hd, p⟩ => ?_
    subst e0
    dsimp only [oIsiT] at p
    cases q2 : tyN d W.st with
    | none => rw [q2] at p; exact p.elim
    | some k =>
      rw [q2] at p
      cases k with
      | inl a => exact ⟨v, .ty T.nm, _, _, _, rfl, .ty _, tyN_inl s hd q2, kit_ty (isT_ok a T), p W (Ext.refl W) s rfl _ (.bl _)⟩
      | inr c =>
        dsimp only at p
        split at p
        · rename_i hcs
          obtain ⟨z1, z2⟩ := ba2 (hc c (List.contains_iff_mem.mp hcs))
          exact ⟨v, .ty T.nm, _, _, _, rfl, .ty _, tyN_inr s hd q2 z1, of_decide_eq_true z2, p W (Ext.refl W) s rfl _ (.bl _)⟩
        · exact p.elim
theorem e_isiC {C : S} (cs : List (S × Bool)) (hg : Gl X "isinstance") (hm : X.mg "isinstance" = none) {x : Str} (hgx : Gl X x) (hmx : X.mg x = some (.ref (He.ga X.K (toS C)))) (hk : isiKB X.K C = true) (hc : ∀ c ∈ cs, isiCB X.K C c = true) (he : PE X e (fE (gc X) Wx m))
    (hd : (x == ("__debug__" : Str)) = false := by decide)
    (h1 : starEach [e, .Name x q] X.env = (false, eval e X.env) :: starEach [.Name x q] X.env := by rfl) (hpl : (backTo pos (starEach [.Name x q] X.env)).any (·.1) = false := by rfl) :
    PE X (.Call (.Name "isinstance" p) [e, .Name x q] [] pos) (fE (gc X) Wx (a1 (oIsiC cs) m)) :=
  PE.imp (pe_callB call_isi hg hm boot_isinstance (pa_cons he (pa_cons (pe_glob hgx hmx (v := .ref (He.ga X.K (toS C))) rfl hd) pa_nil) h1) (he := h1) (hpl := hpl)) fun σ H Q h => by
    show fE (gc X) Wx m σ H fun x H1 => rIsi X.K [x, .ref (He.ga X.K (toS C))] H1 Q
    refine fG_mono (lift1 h) fun v H' ⟨W, d, e0, s, hd, p⟩ => ?_
    subst e0
    dsimp only [oIsiC] at p
    cases q2 : tyN d W.st with
    | none => rw [q2] at p; exact p.elim
    | some k =>
      rw [q2] at p
      cases k with
      | inl a =>
        refine ⟨v, _, _, _, false, rfl, .own _, tyN_inl s hd q2, of_decide_eq_true (List.all_eq_true.mp hk a ?_), p W (Ext.refl W) s rfl _ (.bl _)⟩
        cases a <;> simp
      | inr c =>
        dsimp only at p
        cases q3 : cs.lookup c with
        | none => rw [q3] at p; exact p.elim
        | some b =>
          rw [q3] at p
          have hmem := lookup_mem q3
          obtain ⟨z1, z2⟩ := ba2 (hc _ hmem)
          exact ⟨v, _, _, _, b, rfl, .own _, tyN_inr s hd q2 z1, of_decide_eq_true z2, p W (Ext.refl W) s rfl _ (.bl _)⟩
end
end FL
end
section
set_option Elab.async false
set_option linter.all false
set_option maxRecDepth 100000
set_option maxHeartbeats 4000000
/-! FLU: sorted(set(texts)). -/
namespace FL
open PySem PySem.Spec PyProof.Rows L2

def keyS (e : Int × Value) : Str := match e.2 with
  | .str x _ => x
  | _ => Str.empty
def GoodS (P : Program) (w : World) (e : Int × Value) : Prop := ∃ x tk, e.2 = Value.str x tk ∧ e.1 = (strKind P w).hash x
/-- a set of texts that can be walked -/
def SetS (P : Program) (w : World) (h : Heap) (a : Addr) (S : Str → Bool) (n : Nat) : Prop :=
  ∃ o es ep t, h.get? a = some o ∧ o.ExactSet ∧ o.data = .set es ep t ∧ (∀ e ∈ es.toList, GoodS P w e) ∧ (es.toList.map keyS).Nodup ∧ (∀ k, S k = true ↔ k ∈ es.toList.map keyS) ∧
    es.size < scanBound ∧ t.fits es.size = true ∧ es.size = n ∧ Ris t.place.toList ∧ (w.params.followText "set-order" = true ∨ t.led = true)
section
variable {P : Program} {w : World} {h h' : Heap} {a : Addr} {S : Str → Bool} {n : Nat}
theorem SetS.at_ (R : SetS P w h a S n) (k : ∀ o, h.get? a = some o → h'.get? a = some o) : SetS P w h' a S n := by
  obtain ⟨o, es, ep, t, ho, r⟩ := R
  exact ⟨o, es, ep, t, k o ho, r⟩
theorem SetS.congr {S' : Str → Bool} (R : SetS P w h a S n) (e : ∀ k, S' k = S k) : SetS P w h a S' n := by
  have q : S' = S := funext e
  rw [q]; exact R
theorem goodS_elems {l : List (Int × Value)} (g : ∀ e ∈ l, GoodS P w e) : ElemsOf (strKind P w) l := fun e he => by
  obtain ⟨k, tk, h1, h2⟩ := g e he
  exact ⟨⟨k, by rw [h1]; exact strKind_is P w k tk, h2⟩, by rw [h1] <;> rfl⟩
theorem goodS_is {e : Int × Value} (g : GoodS P w e) (k : Str) : (strKind P w).is k e.2 = true ↔ keyS e = k := by
  obtain ⟨k0, tk, h1, _⟩ := g
  unfold keyS
  rw [h1]
  show ((k0 == k) = true) ↔ k0 = k
  exact beq_iff_eq
theorem goodS_mem {l : List (Int × Value)} (g : ∀ e ∈ l, GoodS P w e) (k : Str) : k ∈ l.map keyS ↔ ∃ e ∈ l, (strKind P w).is k e.2 = true := by
  rw [List.mem_map]
  constructor
  · rintro ⟨e, he, q⟩
    exact ⟨e, he, (goodS_is (g e he) k).2 q⟩
  · rintro ⟨e, he, q⟩
    exact ⟨e, he, (goodS_is (g e he) k).1 q⟩
end
section
variable {P : Program} {w : World} {A : Around} {E : Value → Shared → Prop} {s : Shared} {a : Addr} {S : Str → Bool} {n : Nat}
theorem setS_add_tail {g : Bool → Sem Unit} (hg : ∀ (b : Bool) (s₁ : Shared) (Q' : Unit → Shared → Prop), Q' () s₁ → wpAny (model P w) A (g b) Q' E s₁)
    {o : Obj} {es : Array (Int × Value)} {ep : Nat} {t : SetTable} (ho : s.heap.get? a = some o) (hex : o.ExactSet) (hd : o.data = .set es ep t)
    {es1 : Array (Int × Value)} {t2 : SetTable} {S' : Str → Bool} (g1 : ∀ e ∈ es1.toList, GoodS P w e) (nd1 : (es1.toList.map keyS).Nodup) (m1 : ∀ k, S' k = true ↔ k ∈ es1.toList.map keyS)
    (hb1 : es1.size < scanBound) (hf2 : t2.fits es1.size = true) (hr : Ris t2.place.toList) (hl : w.params.followText "set-order" = true ∨ t2.led = true) {wasDummy : Bool} {R : Option Bool → Shared → Prop}
    (hR : ∀ h', Heap.SameBut a s.heap h' → SetS P w h' a S' es1.size → R (some true) { s with heap := h' }) :
    wpAny (model P w) A (do
        storeSet a es1 t2
        if (!wasDummy && t2.tooFull) = true then do
            g (relayAll t2 es1 (SetTable.grown es1.size)).2.2
            storeSet a (relayAll t2 es1 (SetTable.grown es1.size)).1 (relayAll t2 es1 (SetTable.grown es1.size)).2.1
            pure (some true)
          else pure (some true)) R E s := by
  refine wpAny_bind (wpAny_storeSet_of ho hd ?_ (fits_of_scanBound hb1))
  have ho1 := store_at (es' := es1) (t' := t2) ho hd
  have sb1 := Heap.SameBut.update s.heap a (Obj.putSet es1 t2)
  split
  · have pm := relayAll_perm t2 es1 (SetTable.grown es1.size)
    have hf3 := relayAll_fits t2 es1 (SetTable.grown es1.size)
    have hr3 := relayAll_ris t2 es1 (SetTable.grown es1.size)
    have hl3 := relayAll_led t2 es1 (SetTable.grown es1.size)
    generalize relayAll t2 es1 (SetTable.grown es1.size) = Z at pm hf3 hr3 hl3 ⊢
    obtain ⟨es2, t3, gave⟩ := Z
    dsimp only at pm hf3 hr3 hl3 ⊢
    have hsz : es2.size = es1.size := by rw [← Array.length_toList, pm.length_eq, Array.length_toList]
    have hb2 : es2.size < scanBound := by rw [hsz]; exact hb1
    refine wpAny_bind (hg _ _ _ ?_)
    refine wpAny_bind (wpAny_storeSet_of ho1 rfl ?_ (fits_of_scanBound hb2))
    have ho2 := store_at (es' := es2) (t' := t3) ho1 rfl
    refine wpAny_pure (hR _ (sb1.trans (Heap.SameBut.update _ a _)) ?_)
    exact ⟨_, es2, _, t3, ho2, hex, rfl, fun e he => g1 e (pm.mem_iff.mp he), (pm.map keyS).nodup_iff.mpr nd1, fun k => (m1 k).trans (pm.map keyS).mem_iff.symm, hb2, hf3, hsz, hr3,
      hl.imp id fun z => by rw [hl3]; exact z⟩
  · exact wpAny_pure (hR _ sb1 ⟨_, es1, _, t2, ho1, hex, rfl, g1, nd1, m1, hb1, hf2, rfl, hr, hl⟩)

theorem setS_add_hashed {k : Str} {tk : Tok} {Q : Bool → Shared → Prop} (R : SetS P w s.heap a S n) (room : n + 1 < scanBound)
    (hQ : ∀ h', Heap.SameBut a s.heap h' → SetS P w h' a (fun j => S j || decide (j = k)) (if S k = true then n else n + 1) → Q (!S k) { s with heap := h' }) :
    wpAny (model P w) A (setAddHashed a (.str k tk) ((strKind P w).hash k)) Q E s := by
  obtain ⟨o, es, ep, t, ho, hex, hd, g, nd, hm, hb, hf, hn, hr, hl⟩ := R
  have hkey : (strKind P w).is k (.str k tk) = true := strKind_is P w k tk
  have hsc : (Value.str k tk).scannable = true := rfl
  have hel : ElemsOf (strKind P w) es.toList := goodS_elems g
  unfold setAddHashed setAddHashedIn
  refine wpAny_holding (wpAny_bind (wpAny_setState_of ho hd hf ?_))
  dsimp only
  rw [byScan_of hsc hb hel]
  simp only [↓reduceIte]
  unfold setAddByScan
  refine wpAny_bind ?_
  refine wpAny_bind (wpAny_rule ?_)
  refine wpAny_bind (wpAny_setScan_of hkey ho hd hf hel ?_)
  cases hfi : List.findIdx? (fun e => (strKind P w).is k e.2) es.toList with
  | some j =>
    dsimp only
    obtain ⟨hj, pj, _⟩ := List.findIdx?_eq_some_iff_getElem.mp hfi
    have hSk : S k = true := (hm k).2 ((goodS_mem g k).2 ⟨es.toList[j], List.getElem_mem hj, pj⟩)
    refine wpAny_pure (wpAny_pure ?_)
    have q := hQ s.heap (Heap.SameBut.refl a s.heap) ⟨o, es, ep, t, ho, hex, hd, g, nd, fun i => by
      rw [Bool.or_eq_true, decide_eq_true_eq, ← hm i]
      exact ⟨fun z => z.elim id (fun e => e ▸ hSk), .inl⟩, hb, hf, by rw [if_pos hSk]; exact hn, hr, hl⟩
    rw [hSk] at q
    exact q
  | none =>
    dsimp only
    have hnk : k ∉ es.toList.map keyS := fun z => by
      obtain ⟨e, he, q⟩ := (goodS_mem g k).1 z
      have c := List.findIdx?_eq_none_iff.mp hfi e he
      rw [q] at c
      cases c
    have hSk : S k = false := by
      cases q : S k with
      | false => rfl
      | true => exact absurd ((hm k).1 q) hnk
    have hgw : ∀ (b : Bool) {s₁ : Shared} {Q' : Unit → Shared → Prop}, Q' () s₁ → wpAny (model P w) A (match b with | true => rule "set.scan.the-table-gave-way" | false => pure ()) Q' E s₁ :=
      fun b s₁ Q' q => by cases b <;> first | exact wpAny_pure q | exact wpAny_rule q
    have pm := layNew_perm t es ((strKind P w).hash k) (.str k tk)
    have hf1 := layNew_fits t es ((strKind P w).hash k) (.str k tk)
    have hr1 := layNew_ris t es ((strKind P w).hash k) (.str k tk) hr
    have hl1 := layNew_led t es ((strKind P w).hash k) (.str k tk)
    generalize layNew t es ((strKind P w).hash k) (.str k tk) = Z at pm hf1 hr1 hl1 ⊢
    obtain ⟨es1, t1, wasDummy, gave⟩ := Z
    dsimp only at pm hf1 hr1 hl1 ⊢
    rw [Array.toList_push] at pm
    have pc : es1.toList.Perm (((strKind P w).hash k, Value.str k tk) :: es.toList) := pm.trans (List.perm_append_singleton _ _)
    have pk : (es1.toList.map keyS).Perm (k :: es.toList.map keyS) := pc.map keyS
    have g1 : ∀ e ∈ es1.toList, GoodS P w e := fun e he => by
      rcases List.mem_cons.mp (pc.mem_iff.mp he) with z | z
      · rw [z]; exact ⟨k, tk, rfl, rfl⟩
      · exact g e z
    have nd1 : (es1.toList.map keyS).Nodup := pk.nodup_iff.mpr (List.nodup_cons.mpr ⟨hnk, nd⟩)
    have m1 : ∀ i, (S i || decide (i = k)) = true ↔ i ∈ es1.toList.map keyS := fun i => by
      rw [Bool.or_eq_true, decide_eq_true_eq, hm i, pk.mem_iff, List.mem_cons]
      exact Or.comm
    have hsz : es1.size = n + 1 := by rw [← Array.length_toList, pc.length_eq, List.length_cons, Array.length_toList, hn]
    have hb1 : es1.size < scanBound := by rw [hsz]; exact room
    have hled : w.params.followText "set-order" = true ∨ t1.led = true := hl.imp id fun z => by rw [hl1]; exact z
    have fin : ∀ h', Heap.SameBut a s.heap h' → SetS P w h' a (fun j => S j || decide (j = k)) es1.size → Q true { s with heap := h' } := fun h' sb r => by
      have q := hQ h' sb
      rw [hSk] at q
      rw [hsz] at r
      exact q r
    refine wpAny_bind (hgw _ ?_)
    split
    · refine wpAny_bind ?_
      rw [hashByValue_scannable 8 hsc]
      refine wpAny_pure ?_
      refine setS_add_tail ?_ ho hex hd g1 nd1 m1 hb1 ?_ ?_ ?_ ?_
      · intro b s₁ Q' q; cases b <;> first | exact wpAny_pure q | exact wpAny_rule q
      · first | (split <;> first | exact hf1 | exact SetTable.fits_plain_off hf1) | exact hf1
      · first | (split <;> exact hr1) | exact hr1
      · first | (split <;> exact hled) | exact hled
      · intro h' sb r; dsimp only; exact wpAny_pure (fin h' sb r)
    · refine wpAny_bind (wpAny_pure ?_)
      simp only [↓reduceIte]
      refine setS_add_tail ?_ ho hex hd g1 nd1 m1 hb1 hf1 hr1 hled ?_
      · intro b s₁ Q' q; cases b <;> first | exact wpAny_pure q | exact wpAny_rule q
      · intro h' sb r; dsimp only; exact wpAny_pure (fin h' sb r)

theorem setS_fresh {h : Heap} {a : Addr} (P : Program) (w : World) (e : h.get? a = some { cls := .type "set", dict := none, data := .set #[] 0 (.fresh 0 0 (!w.params.followText "set-order")) }) : SetS P w h a (fun _ => false) 0 :=
  ⟨_, #[], 0, _, e, ⟨rfl, rfl, rfl⟩, rfl, (fun e he => by simp at he), (by simp), (fun k => by simp), (by decide), (by rfl), rfl, List.Pairwise.nil, by
    show _ ∨ (!w.params.followText "set-order") = true
    cases w.params.followText "set-order"
    · exact .inr rfl
    · exact .inl rfl⟩
theorem code_set_led1 (x : Value) {Q₁ : Value → Shared → Prop}
    (h : Q₁ (.ref s.heap.objs.size) { s with heap := s.heap.push { cls := .type "set", dict := none, data := .set #[] 0 (.fresh 0 0 (!w.params.followText "set-order")) } }) :
    codeAny (model P w) A (.call (.builtin "set.__new__") ⟨[.type "set", x], []⟩) (wants Q₁ E) s := by
  refine codeAny_of_tree ?_
  show wpAny _ A.in1 (do checkBuiltinCall "set.__new__" ⟨[.type "set", x], []⟩; again (.builtin "set.__new__" ⟨[.type "set", x], []⟩)) _ _ s
  refine wpAny_bind (wpAny_of_eq (PySem.F.newCall_set_1 x) (wpAny_pure ⟨plainId_quiet PySem.F.plain_set_new _, codeAny_builtin PySem.F.entry_set_new ?_⟩))
  rw [Around.under_plainId PySem.F.plain_set_new _]
  unfold Builtin.«set.__new__» Builtin.Frozenset.newClass
  have hsub := sub_set_self
  obtain ⟨hp, g, d, tk, os⟩ := s
  dsimp only
  wp_walk
  refine wpAny_askSetting (wpAny_pure ?_)
  dsimp only
  simp only [newObj]
  refine wpAny_bind (wpAny_alloc (wpAny_pure ?_))
  exact wpAny_pure h
end
section
variable {prog : Program} {w : World} {A : Around} {R : Result → Shared → Prop} {I : Addr} {fp wr : List Addr} {G : Array GenState → Array GenState → Prop} {n : Nat} {P : Nat → Value → Prop} {St : Nat → Shared → Prop}
theorem loopSet (W : WalksS prog w A.in1 I fp wr G n P St) (S : Addr) (hSf : S ∉ fp) (xs : List Str) (hsz : xs.length = n) (hn1 : n ≤ 60)
    (hval : ∀ i v, P i v → ∃ t, v = .str (xs.getD i Str.empty) t) :
    ∀ (k i : Nat) (s : Shared) (m : Nat), n - i = k → i ≤ n → St i s → m ≤ i →
      SetS prog w s.heap S (fun k' => decide (k' ∈ xs.take i)) m →
      (∀ s' m, m ≤ n → Moved (S :: wr) G s s' → SetS prog w s'.heap S (fun k' => decide (k' ∈ xs)) m → R (.ok (.ret .none)) s') →
      codeAny (model prog w) A (.builtin "set.update.loop" ⟨[.ref S, .ref I], []⟩) R s := by
  have hSw : S ∉ wr := fun h => hSf (W.sub _ h)
  have hsub : ∀ b ∈ wr, b ∈ S :: wr := fun b hb => List.mem_cons_of_mem _ hb
  intro k
  induction k with
  | zero =>
    intro i s m hk hi hst hm0 hS hR
    have hin : i = n := by omega
    subst hin
    refine codeAny_builtin PyProof.Rows.F.entry_set_update_loop ?_
    rw [Around.under_plainId PyProof.Rows.F.plain_set_update_loop _]
    show wpAny _ A.in1 (pyNext (.ref I) >>= _) _ _ s
    refine wpAny_bind (W.done s _ _ hst fun s' hm => ?_)
    show wpAny _ A.in1 (ret Value.none) _ _ s'
    refine wpAny_pure (hR s' m hm0 (hm.mono hsub) ?_)
    rw [← hsz, List.take_length] at hS
    exact hS.at_ fun o e => hm.heap S o hSw e
  | succ k ih =>
    intro i s m hk hi hst hm0 hS hR
    have hlt : i < n := by omega
    refine codeAny_builtin PyProof.Rows.F.entry_set_update_loop ?_
    rw [Around.under_plainId PyProof.Rows.F.plain_set_update_loop _]
    show wpAny _ A.in1 (pyNext (.ref I) >>= _) _ _ s
    refine wpAny_bind (W.item i s _ _ hlt hst fun v s' hP hst' hm => ?_)
    obtain ⟨t, rfl⟩ := hval i v hP
    have hS' : SetS prog w s'.heap S (fun k' => decide (k' ∈ xs.take i)) m := hS.at_ fun o e => hm.heap S o hSw e
    show wpAny _ A.in1 (holding [Value.str (xs.getD i Str.empty) t] (setAdd S (.str (xs.getD i Str.empty) t)) >>= _) _ _ s'
    refine wpAny_bind (wpAny_holding ?_)
    unfold setAdd
    refine wpAny_holding ?_
    refine wpAny_bind ((PySem.strKind prog w).pyHash (k := xs.getD i Str.empty) (strKind_is _ _ _ _) ?_)
    refine setS_add_hashed (P := prog) (s := { s' with toks := s'.toks + 1 }) hS' (by unfold scanBound; omega) fun h' hsb hS2 => ?_
    have hx : xs.take (i + 1) = xs.take i ++ [xs.getD i Str.empty] := by
      have : i < xs.length := by omega
      rw [List.take_add_one, List.getElem?_eq_getElem this, List.getD_eq_getElem?_getD, List.getElem?_eq_getElem this]; rfl
    have hSi : SetS prog w h' S (fun k' => decide (k' ∈ xs.take (i + 1))) (if decide (xs.getD i Str.empty ∈ xs.take i) = true then m else m + 1) := hS2.congr fun k' => by
      rw [hx]; simp [List.mem_append]
    refine wpAny_pure ⟨plainId_quiet PyProof.Rows.F.plain_set_update_loop _, ih (i + 1) _ _ (by omega) hlt (W.frame _ s' _ _ hst' (Nat.le_succ _) fun b hb o e => ?_) (by split <;> omega) hSi fun s'' m'' hm2 hm'' hS'' => ?_⟩
    · rw [hsb.2 b (fun h : b = S => hSf (by rw [← h]; exact hb))]; exact e
    · refine hR s'' m'' hm2 (Moved.trans W.gtrans ((hm.mono hsub).then_heap (Nat.le_succ _) fun b o hb e => ?_) hm'') hS''
      rw [hsb.2 b (fun h : b = S => hb (by rw [h]; exact List.mem_cons_self))]; exact e
end
section
variable {prog : Program} {w : World} {A : Around} {E : Value → Shared → Prop} {s : Shared}
set_option maxHeartbeats 3200000 in
theorem call_set_tupS {l : Addr} {items : Array Value} {xs : List Str} {Q : Value → Shared → Prop}
    (hh : A.handled = none) (hl : s.heap.IsTuple l items) (hi : PyProof.Rows.StrsAre items.toList xs) (hn1 : xs.length ≤ 60)
    (h : ∀ (h' : Heap) (tk m : Nat), m ≤ xs.length → SetS prog w h' s.heap.objs.size (fun k' => decide (k' ∈ xs)) m →
      (∀ b o, b < s.heap.objs.size → s.heap.get? b = some o → h'.get? b = some o) → Q (.ref s.heap.objs.size) { s with heap := h', toks := tk }) :
    wpAny (model prog w) A (call (.type "set") [.ref l]) Q E s := by
  obtain ⟨c, tl, hmro⟩ := PySem.F.called_set.mro
  have hmade := PySem.F.called_set.made
  have hsub := PySem.F.called_set.sub
  refine wpAny_call (codeAny_of_tree ?_)
  show wpAny _ _ (callAny (.type "set") _) _ _ _
  refine wpAny_pure ⟨Code.quiet_builtin _ (by decide +kernel), codeAny_builtin PySem.F.entry_type_call ?_⟩
  rw [Around.under_plain (weight_type_call_type "set" [.ref l] []) rfl]
  have h1 := PySem.F.called_set.notType
  have h2 := PySem.F.called_set.canCreate
  have hct := PySem.F.typeCall_set_1 (.ref l)
  repeat (any_goals (first | assumption | wp_step))

  refine codeAny_mono (code_set_led1 (.ref l) (E := E) (Q₁ := fun obj s₁ => ∃ led : Bool, led = (!w.params.followText "set-order") ∧ obj = .ref s.heap.objs.size ∧ s₁ = { s with heap := s.heap.push { cls := .type "set", dict := none, data := .set #[] 0 (.fresh 0 0 led) } }) ⟨_, rfl, rfl, rfl⟩) fun r s₁ hr => ?_
  cases r with
  | error e => exact hr
  | ok fl =>
    cases fl with
    | ret obj =>
      obtain ⟨led, hled, rfl, rfl⟩ := hr
      have hS : (s.heap.push { cls := .type "set", dict := none, data := .set #[] 0 (.fresh 0 0 led) }).get? s.heap.objs.size = some { cls := .type "set", dict := none, data := .set #[] 0 (.fresh 0 0 led) } := Heap.get?_push_size _ rfl
      have hT : Shared.TypeIs { s with heap := s.heap.push { cls := .type "set", dict := none, data := .set #[] 0 (.fresh 0 0 led) } } (.ref s.heap.objs.size) "set" := ⟨_, hS, rfl⟩
      have hli := PySem.F.called_set.init.lookup
      have hbi := PySem.F.called_set.init.bind (.ref s.heap.objs.size)
      repeat (any_goals (first | assumption | wp_step))

      refine codeAny_mono (codeAny_call_builtin (R := wants (fun r s₂ => r = .none ∧ ∃ h' tk m, s₂ = { s with heap := h', toks := tk } ∧ m ≤ xs.length ∧
          SetS prog w h' s.heap.objs.size (fun k' => decide (k' ∈ xs)) m ∧
          (∀ b o, b < s.heap.objs.size → s.heap.get? b = some o → h'.get? b = some o)) E) PySem.F.called_set.init.plain PySem.F.entry_set_init (check_set_init_1 hT ?_)) fun r₂ s₂ hr₂ => ?_
      · obtain ⟨ol, hol, hcl, nl, hdl⟩ := hl
        obtain ⟨ocls, odict, odata, oslots⟩ := ol
        simp only at hcl hdl
        subst hcl; subst hdl
        have hol' : (s.heap.push { cls := .type "set", dict := none, data := .set #[] 0 (.fresh 0 0 led) }).get? l = some { cls := .type "tuple", dict := odict, data := .seq items nl, slots := oslots } := Heap.get?_push_of_some _ hol
        have hsls := PySem.F.sub_tuple_set
        have hslf := PySem.F.sub_tuple_frozenset
        have hne : (Value.type "tuple" == Value.type "dict") = false := by decide
        have hl1 : (s.heap.push { cls := .type "set", dict := none, data := .set #[] 0 (.fresh 0 0 led) }).IsTuple l items := ⟨_, hol', rfl, nl, rfl⟩
        unfold Builtin.«set.__init__» noKeywords Builtin.Frozenset.updateFrom
        generalize hPI : pyIter = PI
        wp_walk
        subst hPI

        refine wpAny_pyIter_tuple hl1 ?_
        refine wpAny_bind (wpAny_runValue ?_)
        have hlS : l < s.heap.objs.size := Heap.lt_size hol
        have hh3 : A.in1.in1.in1.handled = none := by simp [hh]
        have hneI : l ≠ (s.heap.push { cls := .type "set", dict := none, data := .set #[] 0 (.fresh 0 0 led) }).objs.size := by
          rw [Heap.size_push]; exact Nat.ne_of_lt (Nat.lt_succ_of_lt hlS)
        have hSf : s.heap.objs.size ∉ [(s.heap.push { cls := .type "set", dict := none, data := .set #[] 0 (.fresh 0 0 led) }).objs.size, l] := by
          rw [Heap.size_push]; simp only [List.mem_cons, List.mem_singleton, List.not_mem_nil, or_false, not_or]
          exact ⟨Nat.ne_of_lt (Nat.lt_succ_self _), Nat.ne_of_gt hlS⟩
        have hsz : xs.length = items.size := by rw [← StrsAre.len_eq hi, Array.length_toList]
        have hval : ∀ (i : Nat) (v : Value), items[i]? = some v → ∃ t, v = .str (xs.getD i Str.empty) t := fun i v hv => SS.strs_at hi i v (by rw [Array.getElem?_toList]; exact hv)
        refine loopSet ((Walks.tuple hh3 _ l hneI items).toS) s.heap.objs.size
          hSf xs hsz (by rw [← hsz]; exact hn1) hval (items.size - 0) 0 _ 0 (by omega) (Nat.zero_le _)
          ⟨⟨_, Heap.get?_push_size _ rfl, rfl, rfl⟩, (hl1.push _)⟩ (Nat.le_refl _) ?hS0 ?hR
        case hS0 =>
          have hget : ((s.heap.push { cls := .type "set", dict := none, data := .set #[] 0 (.fresh 0 0 led) }).push { cls := .type "tuple_iterator", data := .fields #[.ref l, .int 0 0] }).get? s.heap.objs.size
              = some { cls := .type "set", dict := none, data := .set #[] 0 (.fresh 0 0 led) } := Heap.get?_push_of_some _ hS
          exact (setS_fresh prog w (by rw [hget, hled])).congr fun _ => by simp
        case hR =>
          intro s' m0 hm0 hm hS'
          obtain ⟨h', g', d', tk', os'⟩ := s'
          have eg : g' = s.gens := hm.gens
          have ed : d' = s.drawn := hm.drawn
          have eo : os' = s.os := hm.os
          subst eg; subst ed; subst eo
          show wpAny _ _ _ _ _ _
          refine wpAny_pure ?_
          show wpAny _ _ (ret Value.none) _ _ _
          refine wpAny_pure ⟨rfl, h', tk', m0, rfl, by rw [hsz]; exact hm0, hS', fun b o hb e => ?_⟩
          have hb1 : b ≠ s.heap.objs.size := Nat.ne_of_lt hb
          have hb2 : b ≠ (s.heap.push { cls := .type "set", dict := none, data := .set #[] 0 (.fresh 0 0 led) }).objs.size := by
            rw [Heap.size_push]; exact Nat.ne_of_lt (Nat.lt_succ_of_lt hb)
          exact hm.heap b o (by simp only [List.mem_cons, List.mem_singleton, List.not_mem_nil, or_false, not_or]; exact ⟨hb1, hb2⟩) (Heap.get?_push_of_some _ (Heap.get?_push_of_some _ e))

      · cases r₂ with
        | error e => exact hr₂
        | ok fl₂ =>
          cases fl₂ with
          | ret r =>
            obtain ⟨rfl, h', tk, m0, rfl, hm0, hS', hk'⟩ := hr₂
            repeat (any_goals (first | assumption | wp_step))
            exact h _ _ _ hm0 hS' hk'
          | _ => exact hr₂.elim
    | _ => exact hr.elim

theorem strs_of_vals : ∀ (l : List Value), (∀ v ∈ l, ∃ k tk, v = Value.str k tk) → StrsAre l (l.map fun v => match v with | .str x _ => x | _ => Str.empty)
  | [], _ => .nil
  | v :: l, h => by
    obtain ⟨k, tk, rfl⟩ := h v List.mem_cons_self
    exact .cons k tk (strs_of_vals l fun u hu => h u (List.mem_cons_of_mem _ hu))
theorem sorted_setS {P : Program} {a : Addr} {S : Str → Bool} {n : Nat} {Q : Value → Shared → Prop} (R : SetS P w s.heap a S n) (hh : A.handled = none) (h64 : n < 64)
    (hQ : ∀ s' p (out : Array Value) (c : Nat) (ns : List Str), (∀ b o, s.heap.get? b = some o → s'.heap.get? b = some o) → s'.gens = s.gens → s'.os = s.os → s.heap.objs.size ≤ p →
      s'.heap.get? p = some (seqObj "list" out c) → StrsAre out.toList ns → sortedS ns = true → ns.Nodup → (∀ k, k ∈ ns ↔ S k = true) → ns.length = n → Q (.ref p) s') :
    wpAny (model P w) A (call (.builtin "sorted") [.ref a]) Q E s := by
  obtain ⟨o, es, ep, t, ho, hex, hd, g, nd, hm, hb, hf, hn, hr, hl⟩ := R
  refine Calls.call_function_entry kind_sorted plain_sorted entry_sorted (args_sorted1 _) ?_
  unfold Builtin.«sorted»
  refine wpAny_bind (m := checkCount "sorted" 1 1 _) (wpAny_pure ?_)
  refine wpAny_bind (collect_set (A := A.in1) hh ⟨o, ho, hex.1, hd⟩ hf hb hr hl fun s1 vs k1 hz g1 o1 pm => ?_)
  have hvl : vs.length = n := by rw [pm.length_eq, List.length_map, Array.length_toList]; exact hn
  have hI : StrsAre vs (vs.map fun v => match v with | .str x _ => x | _ => Str.empty) := strs_of_vals vs fun v hv => by
    obtain ⟨e, he, q⟩ := List.mem_map.mp (pm.mem_iff.mp hv)
    obtain ⟨k, tk, h1, _⟩ := g e he
    exact ⟨k, tk, by rw [← q]; exact h1⟩
  have pk : (vs.map fun v => match v with | .str x _ => x | _ => Str.empty).Perm (es.toList.map keyS) := by
    have q := pm.map fun v => match v with | .str x _ => x | _ => Str.empty
    rw [List.map_map] at q
    exact q
  refine wpAny_bind (wpAny_newList ?_ (by rw [hvl, sizeLine_eq]; omega))
  have hoL : (s1.heap.push (seqObj "list" vs.toArray 0)).get? s1.heap.objs.size = some (seqObj "list" vs.toArray 0) := Heap.get?_push_size _ rfl
  refine wpAny_bind (wpAny_holding (wpAny_call_entry slot_list_sort ⟨_, hoL, rfl⟩ entry_list_sort (list_sort_treeK strKind_oneLt hoL hI.keysOf (fun v₁ v₂ rest e => keyKind_strs (by rw [← e]; exact hI)) (by rw [hvl]; exact h64) fun st' hp hs => ⟨_, rfl, ?_⟩) (args_list_sort _)))
  obtain ⟨ns', a1, a2, a3⟩ := sorted_out_str hI hp hs
  obtain ⟨c, hc⟩ := sortedHeap_at (vs := vs) (out := (arrOf st').map (·.2)) hoL
  have pn : ns'.Perm (es.toList.map keyS) := a2.trans pk
  refine wpAny_pure ⟨_, rfl, hQ _ s1.heap.objs.size _ c ns' (fun b u e => ?_) g1 o1 hz hc a1 a3 (pn.nodup_iff.mpr nd) (fun k => by rw [pn.mem_iff, ← hm k]) ?_⟩
  · have q := k1 b u e
    have hlt := Heap.lt_size q
    show (sortedHeap (s1.heap.push (seqObj "list" vs.toArray 0)) s1.heap.objs.size vs _).get? b = some u
    rw [sortedHeap_old (Nat.ne_of_lt hlt) (by rw [size_push']; exact Nat.lt_succ_of_lt hlt)]
    exact Heap.get?_push_of_some _ q
  · rw [pn.length_eq, List.length_map, Array.length_toList]; exact hn
end
end FL
end
section
set_option Elab.async false
set_option linter.all false
set_option maxRecDepth 100000
/-! FLV: sorted(set(texts)) as a reading; x.f = e; tuple.index; a table of the module. -/
namespace FL
open PySem PySem.Spec PyProof.Rows L2

/-! ### sorted(set(x)) -/
def SetSO (P : Program) (w : World) (a : Addr) (S : Str → Bool) (n : Nat) : HO := .ext fun h => SetS P w h a S n
section
variable {X : Cx}
theorem setSO_new {w : World} {P : Program} {H : Hp} {h : Heap} {a : Addr} {S : Str → Bool} {n : Nat} (R : SetS P w h a S n) : ObjOk P w H h a (SetSO P w a S n) := by
  have ⟨o, _, _, _, ho, _⟩ := R
  exact ⟨R, ⟨o, ho⟩, fun h1 h2 p k => SetS.at_ p k⟩
theorem setSO_get {pins : List (Addr × Obj)} {σ : L2.St} {H : Hp} {s : Shared} {a : Addr} {S : Str → Bool} {n : Nat} (I : Inv X pins σ H s) (ha : H a = some (SetSO X.prog X.w a S n)) : SetS X.prog X.w s.heap a S n := (I.hok a _ ha).1
def rSetS (X : Cx) : List V → Hp → VK → Prop := fun xs H Q => ∃ (a : Addr) (ss : List Str), xs = [V.ref a] ∧ SqT X.K H a (ss.map V.str) ∧ ss.length ≤ 60 ∧
  ∀ p m, H p = none → m ≤ ss.length → Q (.ref p) (upd H p (SetSO X.prog X.w p (fun k => decide (k ∈ ss)) m))
theorem cr_setS (hc : X.calm = true) : CallR X (.type "set") (rSetS X) := by
  intro pins s σ H xs us Q I r h
  obtain ⟨a, ss, rfl, hq, hl, q⟩ := h
  rw [Vals.ref1 r]
  obtain ⟨its, rv, pl, hz⟩ := I.tuple hq
  refine call_set_tupS (I.ok.hd hc) pl (by simpa using strsAre_of rv) hl fun h' tk m hm hS hk => ?_
  exact ⟨.ref _, upd H s.heap.objs.size (SetSO X.prog X.w s.heap.objs.size (fun k => decide (k ∈ ss)) m), I.laid (fun b u e => hk b u (Heap.lt_size e) e) (Nat.le_refl _) (setSO_new hS), rfl, q _ _ (I.hok.fresh (Nat.le_refl _)) hm⟩
def rSortSS (X : Cx) : List V → Hp → VK → Prop := fun vs H Q => ∃ (a : Addr) (S : Str → Bool) (n : Nat), vs = [V.ref a] ∧ H a = some (SetSO X.prog X.w a S n) ∧ n < 64 ∧
  ∀ (ns : List Str) (p : Addr), sortedS ns = true → ns.Nodup → (∀ k, k ∈ ns ↔ S k = true) → H p = none → Q (.ref p) (upd H p (.lst (ns.map V.str)))
theorem cr_sortSS (hc : X.calm = true) : CallR X (.builtin "sorted") (rSortSS X) := by
  intro pins s σ H vs us Q I r h
  obtain ⟨a, S, n, rfl, ha, h64, q⟩ := h
  have R := setSO_get I ha
  rw [Vals.ref1 r]
  refine sorted_setS R (I.ok.hd hc) h64 fun s' p out c ns k g o hp hg hi hs nd hm hl => ?_
  have hlen : (ns.map V.str).length ≤ sizeLine := by rw [List.length_map, hl, sizeLine_eq]; omega
  have hn : H p = none := I.hok.fresh hp
  have J : Inv X pins σ (upd H p (.lst (ns.map V.str))) { s with heap := s'.heap, gens := s'.gens, drawn := s'.drawn, toks := s'.toks } :=
    I.call (ch := []) (Un.laid k hp hn) (I.hok.laid k hp ⟨hlen, out.toList, c, vals_of_strs hi, hg⟩) (by rw [g]; exact I.bare) (fun _ z => nomatch z)
  have e : s' = { s with heap := s'.heap, gens := s'.gens, drawn := s'.drawn, toks := s'.toks } := by
    cases s'
    cases s
    cases o
    rfl
  rw [e]
  exact ⟨.ref p, _, J, rfl, q ns p hs nd hm hn⟩
end
/-- by signs -/
def ltS : S → S → Bool
  | [], [] => false
  | [], _ :: _ => true
  | _ :: _, [] => false
  | a :: x, b :: y => if a < b then true else if b < a then false else ltS x y
def insU (x : S) : List S → List S
  | [] => [x]
  | y :: r => if x = y then y :: r else if ltS x y = true then x :: y :: r else y :: insU x r
def sortU (ss : List S) : List S := ss.foldr insU []
theorem ltS_irr : ∀ x : S, ltS x x = false
  | [] => rfl
  | a :: x => by unfold ltS; simp [ltS_irr x]
theorem ltS_tri : ∀ x y : S, ltS x y = false → ltS y x = false → x = y
  | [], [], _, _ => rfl
  | [], _ :: _, h, _ => by simp [ltS] at h
  | _ :: _, [], _, h => by simp [ltS] at h
  | a :: x, b :: y, h1, h2 => by
    unfold ltS at h1 h2
    by_cases c1 : a < b
    · simp [c1] at h1
    · by_cases c2 : b < a
      · simp [c2] at h2
      · simp only [c1, c2, if_false] at h1 h2
        have : a = b := by omega
        rw [this, ltS_tri x y h1 h2]
theorem ltS_trans : ∀ x y z : S, ltS x y = true → ltS y z = true → ltS x z = true
  | [], [], _, h, _ => by simp [ltS] at h
  | [], _ :: _, [], _, h => by simp [ltS] at h
  | [], _ :: _, _ :: _, _, _ => by simp [ltS]
  | _ :: _, [], _, h, _ => by simp [ltS] at h
  | _ :: _, _ :: _, [], _, h => by simp [ltS] at h
  | a :: x, b :: y, c :: z, h1, h2 => by
    unfold ltS at h1 h2 ⊢
    by_cases c1 : a < b
    · by_cases c2 : b < c
      · have : a < c := by omega
        simp [this]
      · by_cases c3 : c < b
        · simp [c2, c3] at h2
        · have : a < c := by omega
          simp [this]
    · by_cases c1' : b < a
      · simp [c1, c1'] at h1
      · simp only [c1, c1', if_false] at h1
        have e : a = b := by omega
        subst e
        by_cases c2 : a < c
        · simp [c2]
        · by_cases c3 : c < a
          · simp [c2, c3] at h2
          · simp only [c2, c3, if_false] at h2 ⊢
            exact ltS_trans x y z h1 h2
theorem insU_mem {x k : S} : ∀ {l : List S}, k ∈ insU x l ↔ k = x ∨ k ∈ l
  | [] => by simp [insU]
  | y :: r => by
    unfold insU
    split
    · rename_i e; subst e; simp
    · split
      · simp
      · rw [List.mem_cons, insU_mem, List.mem_cons]
        constructor
        · rintro (h | h | h) <;> simp [h]
        · rintro (h | h | h) <;> simp [h]
theorem insU_pw {x : S} : ∀ {l : List S}, l.Pairwise (fun a b => ltS a b = true) → (insU x l).Pairwise (fun a b => ltS a b = true)
  | [], _ => by simp [insU]
  | y :: r, h => by
    unfold insU
    obtain ⟨h1, h2⟩ := List.pairwise_cons.mp h
    split
    · exact h
    · rename_i ne
      split
      · rename_i lt
        exact List.pairwise_cons.mpr ⟨fun z hz => by
          rcases List.mem_cons.mp hz with e | hz
          · exact e ▸ lt
          · exact ltS_trans _ _ _ lt (h1 z hz), h⟩
      · rename_i nl
        refine List.pairwise_cons.mpr ⟨fun z hz => ?_, insU_pw h2⟩
        rcases insU_mem.mp hz with e | hz
        · subst e
          cases q : ltS y z with
          | true => rfl
          | false => exact absurd (ltS_tri z y (by simpa using nl) q) ne
        · exact h1 z hz
theorem sortU_ok : ∀ ss : List S, (sortU ss).Pairwise (fun a b => ltS a b = true) ∧ ∀ k, k ∈ sortU ss ↔ k ∈ ss
  | [] => ⟨.nil, fun k => by simp [sortU]⟩
  | x :: ss => by
    obtain ⟨h1, h2⟩ := sortU_ok ss
    exact ⟨insU_pw h1, fun k => by show k ∈ insU x (sortU ss) ↔ _; rw [insU_mem, h2, List.mem_cons]⟩
theorem pw_uniq : ∀ {l m : List S}, l.Pairwise (fun a b => ltS a b = true) → m.Pairwise (fun a b => ltS a b = true) → (∀ k, k ∈ l ↔ k ∈ m) → l = m
  | [], [], _, _, _ => rfl
  | [], y :: m, _, _, h => by have := (h y).mpr (by simp); simp at this
  | x :: l, [], _, _, h => by have := (h x).mp (by simp); simp at this
  | x :: l, y :: m, hl, hm, h => by
    obtain ⟨l1, l2⟩ := List.pairwise_cons.mp hl
    obtain ⟨m1, m2⟩ := List.pairwise_cons.mp hm
    have e : x = y := by
      rcases List.mem_cons.mp ((h x).mp (by simp)) with e | hx
      · exact e
      · rcases List.mem_cons.mp ((h y).mpr (by simp)) with e | hy
        · exact e.symm
        · have a := m1 x hx
          have b := l1 y hy
          have := ltS_trans _ _ _ a b
          rw [ltS_irr] at this; cases this
    subst e
    refine congrArg (x :: ·) (pw_uniq l2 m2 fun k => ?_)
    constructor
    · intro hk
      rcases List.mem_cons.mp ((h k).mp (List.mem_cons_of_mem _ hk)) with e | hk'
      · subst e; have := l1 k hk; rw [ltS_irr] at this; cases this
      · exact hk'
    · intro hk
      rcases List.mem_cons.mp ((h k).mpr (List.mem_cons_of_mem _ hk)) with e | hk'
      · subst e; have := m1 k hk; rw [ltS_irr] at this; cases this
      · exact hk'
theorem ltCps_eq : ∀ x y : S, ltCps x y = ltS x y
  | [], [] => rfl
  | [], _ :: _ => rfl
  | _ :: _, [] => rfl
  | a :: x, b :: y => by
    unfold ltCps ltS
    rw [ltCps_eq x y]
    by_cases h : a < b
    · simp [h]
    · by_cases h2 : b < a
      · have : ¬ a = b := by omega
        simp [h, h2, this]
      · have : a = b := by omega
        simp [h, h2, this]
theorem rising_pw : ∀ (r : List Str) (p : Str), risingS p r = true → (p :: r).Nodup → (∀ z ∈ r, ltS p.cps.toList z.cps.toList = true) ∧ (r.map fun z => z.cps.toList).Pairwise (fun a b => ltS a b = true)
  | [], _, _, _ => ⟨fun z h => (by cases h), .nil⟩
  | x :: r, p, h, nd => by
    unfold risingS at h
    obtain ⟨h1, h2⟩ := ba2 h
    obtain ⟨n1, n2⟩ := List.nodup_cons.mp nd
    obtain ⟨i1, i2⟩ := rising_pw r x h2 n2
    have px : ltS p.cps.toList x.cps.toList = true := by
      cases q : ltS p.cps.toList x.cps.toList with
      | true => rfl
      | false =>
        rw [ltCps_eq] at h1
        have e := ltS_tri _ _ q (by simpa using h1)
        have : p = x := Str.ext' (Array.toList_inj.mp e)
        exact absurd (by rw [this]; simp) n1
    refine ⟨fun z hz => ?_, List.pairwise_cons.mpr ⟨fun z hz => ?_, i2⟩⟩
    · rcases List.mem_cons.mp hz with e | hz
      · exact e ▸ px
      · exact ltS_trans _ _ _ px (i1 z hz)
    · obtain ⟨y, hy, rfl⟩ := List.mem_map.mp hz
      exact i1 y hy
theorem sortedS_pw {ns : List Str} (h : sortedS ns = true) (nd : ns.Nodup) : (ns.map fun z => z.cps.toList).Pairwise (fun a b => ltS a b = true) := by
  cases ns with
  | nil => exact .nil
  | cons p r =>
    obtain ⟨h1, h2⟩ := rising_pw r p h nd
    exact List.pairwise_cons.mpr ⟨fun z hz => by obtain ⟨y, hy, rfl⟩ := List.mem_map.mp hz; exact h1 y hy, h2⟩
def oSortSet (d : D) (st : Store) : Res D := match d with
  | .tup xs => match ssOf xs with
    | some ss => if ss.length ≤ 60 then .ok (.lst ((sortU ss).map .str)) st else .no
    | none => .no
  | _ => .no
section
variable {X : Cx} {Wx : WX} {pos p p2 q : Pos} {e : Expr} {m : Me}
theorem toS_of (x : Str) : toS x.cps.toList = x := by unfold toS; rfl
theorem e_sortSet (hc : X.calm = true) (hg : Gl X "sorted") (hm : X.mg "sorted" = none) (hg2 : Gl X "set") (hm2 : X.mg "set" = none) (he : PE X e (fE (gc X) Wx m))
    (na : starEach [e] X.env = (false, eval e X.env) :: starEach [] X.env := by rfl) (na2 : starEach [.Call (.Name "set" p2) [e] [] q] X.env = (false, eval (.Call (.Name "set" p2) [e] [] q) X.env) :: starEach [] X.env := by rfl) :
    PE X (.Call (.Name "sorted" p) [.Call (.Name "set" p2) [e] [] q] [] pos) (fE (gc X) Wx (a1 oSortSet m)) :=
  PE.imp (pe_callB (cr_sortSS hc) hg hm boot_sorted (pa_cons (pe_callTy (cr_setS hc) hg2 hm2 boot_set (pa_cons he pa_nil na) (he := na)) pa_nil na2) (he := na2)) fun σ H Q h => by
    show fE (gc X) Wx m σ H fun x H1 => rSetS X [x] H1 fun y H2 => rSortSS X [y] H2 Q
    refine fG_mono (lift1 h) fun v H' ⟨W, d, e0, s, hd, p⟩ => ?_
    subst e0
    cases d with
    | tup xs =>
      obtain ⟨a, vs, rfl, hq, l⟩ := hd.tup_inv
      dsimp only [oSortSet] at p
      cases q2 : ssOf xs with
      | none => rw [q2] at p; exact p.elim
      | some ss =>
        rw [q2] at p
        dsimp only at p
        split at p
        · rename_i hl
          obtain ⟨rfl, os⟩ := ssOf_inv l q2
          refine ⟨a, ss.map toS, rfl, hq, by simpa using hl, fun b m hb hm => ⟨b, _, m, rfl, upd_same, by simp at hm; omega, fun ns b2 hs nd mem hb2 => ?_⟩⟩
          obtain ⟨e1, s1, n1⟩ := s.lay (o := SetSO X.prog X.w b (fun k => decide (k ∈ ss.map toS)) m) hb
          obtain ⟨u1, u2⟩ := sortU_ok ss
          have en : ns.map (fun z => z.cps.toList) = sortU ss := pw_uniq (sortedS_pw hs nd) u1 fun k => by
            rw [u2 k, List.mem_map]
            constructor
            · rintro ⟨z, hz, rfl⟩
              have := of_decide_eq_true ((mem z).mp hz)
              obtain ⟨y, hy, rfl⟩ := List.mem_map.mp this
              simpa [toS] using hy
            · intro hk
              exact ⟨toS k, (mem _).mpr (decide_eq_true (List.mem_map.mpr ⟨k, hk, rfl⟩)), by simp [toS]⟩
          have en2 : ns = (sortU ss).map toS := by
            rw [← en, List.map_map]
            conv => lhs; rw [← List.map_id ns]
            exact List.map_congr_left fun x _ => (toS_of x).symm
          rw [en2]
          have pp := Post.ext p e1
          exact Post.newL (g := gc X) (Wx := Wx) (σ := σ) s1 (den_strs fun z hz => os z ((u2 z).mp hz)) pp b2 hb2
        · exact p.elim
    | _ => exact p.elim
end
end FL
end
section
set_option Elab.async false
set_option linter.all false
set_option maxRecDepth 100000
/-! FLW: x.f = e; tuple.index; a table of the module; own ==. -/
namespace FL
open PySem PySem.Spec PyProof.Rows L2

/-! ### x.f = e -/
def putD (f : S) (v : D) : List (S × D) → List (S × D)
  | [] => [(f, v)]
  | (g, x) :: r => if g = f then (g, v) :: r else (g, x) :: putD f v r
theorem putD_rel {g : Gc} {W : Wd} {f : S} {v : V} {d : D} (hv : Den g W v d) : ∀ {fs : List (Str × V)} {ds : List (S × D)}, fs.map (·.1) = ds.map (fun p => toS p.1) → DenL g W (fs.map (·.2)) (ds.map (·.2)) →
    (putF (toS f) v fs).map (·.1) = (putD f d ds).map (fun p => toS p.1) ∧ DenL g W ((putF (toS f) v fs).map (·.2)) ((putD f d ds).map (·.2))
  | [], [], _, _ => ⟨rfl, .cons hv .nil⟩
  | [], _ :: _, h, _ => by cases h
  | _ :: _, [], h, _ => by cases h
  | (x, u) :: fs, (y, e) :: ds, h, l => by
    have h1 : x = toS y := (List.cons.inj h).1
    have h2 := (List.cons.inj h).2
    cases l with
    | cons hu l =>
      unfold putF putD
      subst h1
      by_cases q : y = f
      · subst q
        rw [if_pos rfl, if_pos rfl]
        exact ⟨by rw [List.map_cons, List.map_cons]; exact congrArg _ h2, .cons hv l⟩
      · rw [if_neg q, if_neg fun z => q (toS_inj z)]
        obtain ⟨i1, i2⟩ := putD_rel hv h2 l
        exact ⟨by rw [List.map_cons, List.map_cons]; exact congrArg _ i1, .cons hu i2⟩
def stF (c f : S) (o v : D) (e : En) (st : Store) : Fl := match o with
  | .ref n => match st[n]? with
    | some (.ins c' fs) => if c' = c ∧ fs.length < 1000 then .nx e (st.set n (.ins c (putD f v fs))) else .no
    | _ => .no
  | _ => .no
/-- the value first, then the object -/
def mFld (c f : S) (mo m : Me) : Ms := fun e st => (m e st).fl e fun v st1 => (mo e st1).fl e fun o st2 => stF c f o v e st2
theorem s_fld {X : Cx} {Wx : WX} {o value : Expr} {F : Str} {c f : S} {mo m : Me} {pos pos' : Pos} (hF : F = toS f) (hc : Cls X.K (cA X c)) (hn : NoAttr X.K (cA X c) F) (ho : PE X o (fE (gc X) Wx mo)) (hv : PE X value (fE (gc X) Wx m))
    (hs : swapsWith value (some (.Attribute o F pos')) pos.line X.env = pure false := by rfl) : PS X (.Assign [.Attribute o F pos'] value pos) (fS (gc X) Wx (mFld c f mo m)) :=
  PS.imp (ps_fld ho hv hs) fun Z σ H h => by
    show fE (gc X) Wx m σ H fun y H1 => fE (gc X) Wx mo σ H1 fun x H2 => ∃ a C dx fs, x = .ref a ∧ H2 a = some (.ins C dx fs) ∧ Cls X.K C ∧ NoAttr X.K C F ∧ fs.length < 1000 ∧ Z.nx σ (upd H2 a (.ins C dx (putF F y fs)))
    subst hF
    refine fG_mono (liftS h) fun v H' ⟨W, env, d, e0, s, r, hd, p⟩ => ?_
    subst e0
    have h2 : fS (gc X) Wx (fun e st => (mo e st).fl e fun o st2 => stF c f o d e st2) Z σ W.H := ⟨W, env, rfl, s, r, p⟩
    obtain ⟨W1, env1, e1, s1, r1, p1⟩ := id h2
    refine ⟨W, env, rfl, s, r, ?_⟩
    dsimp only at p
    cases q1 : mo env W.st with
    | no => rw [q1] at p; exact p
    | exc x st1 => rw [q1] at p; exact fun W1 e1 s1 hs => p W1 σ e1 s1 hs (r.mono e1)
    | ok od st1 =>
      rw [q1] at p
      dsimp only [Res.fl] at p
      refine fun W1 e1 s1 hs1 ov hov => ?_
      unfold stF at p
      cases od with
      | ref n =>
        dsimp only at p
        cases q3 : st1[n]? with
        | none => rw [q3] at p; exact p.elim
        | some cc =>
          rw [q3] at p
          cases cc with
          | ins c' ds =>
            dsimp only at p
            split at p
            · rename_i hh
              obtain ⟨rfl, hl⟩ := hh
              cases hov with
              | @ref a _ ha =>
              rw [← hs1] at q3
              obtain ⟨dx, fs, h1, k1, k2⟩ := s1.cell n a _ ha q3
              have hl2 : fs.length = ds.length := by have := congrArg List.length k1; simpa using this
              obtain ⟨e3, s3⟩ := s1.cellSet (o := .ins (cA X c') dx (putF (toS f) v fs)) (c := .ins c' (putD f d ds)) ha q3 rfl rfl fun W' e' h =>
                let ⟨i1, i2⟩ := putD_rel (f := f) ((hd.mono e1).mono e') k1 (k2.mono e')
                ⟨dx, _, h, i1, i2⟩
              exact ⟨a, _, dx, fs, rfl, h1, hc, hn, by omega, p _ σ (e1.trans e3) s3 (by show W1.st.set n _ = _; rw [hs1]) ((r.mono e1).mono e3)⟩
            · exact p.elim
          | _ => exact p.elim
      | _ => exact p.elim

/-! ### t.index(x), texts, a tuple of the module -/
def ixS (x : S) : List S → Option Nat
  | [] => none
  | y :: r => if y = x then some 0 else (ixS x r).map (· + 1)
theorem ixS_ok {x : S} : ∀ {l : List S} {j : Nat}, ixS x l = some j → l[j]? = some x ∧ ∀ m, m < j → l[m]? ≠ some x
  | [], j, h => by cases h
  | y :: r, j, h => by
    unfold ixS at h
    split at h
    · rename_i e; cases h; subst e; exact ⟨rfl, fun m hm => by omega⟩
    · rename_i e
      obtain ⟨i, hi, rfl⟩ := Option.map_eq_some_iff.mp h
      obtain ⟨h1, h2⟩ := ixS_ok hi
      refine ⟨by simpa using h1, fun m hm => ?_⟩
      cases m with
      | zero => simp; exact e
      | succ m => have := h2 m (by omega); simpa using this
def tIdx (d : D) (ds : List D) (st : Store) : Res D := match d, ds with
  | .tup xs, [.str x] => match ssOf xs with
    | some ss => match ixS x ss with
      | some j => .ok (.int j) st
      | none => .no
    | none => .no
  | _, _ => .no
theorem isKT_ok {K : PySem.W.Frag} {a : Addr} (h : isKT K a = true) (H : Hp) : tyV K "tuple" (.ref a) H := by
  unfold isKT at h
  cases q : K.lookup a with
  | none => rw [q] at h; cases h
  | some o =>
    rw [q] at h
    obtain ⟨h1, h2⟩ := ba2 h
    exact .inr (.inl ⟨rfl, o, q, of_decide_eq_true h1, of_decide_eq_true h2⟩)
section
variable {X : Cx} {Wx : WX} {σ : L2.St} {H : Hp} {Q : VK} {x : V} {vs : List V}
theorem im_tIdx (h : fM (gc X) Wx tIdx x vs σ H Q) : ∃ p, ∃ ys : List Str, ∃ z j, x = .ref p ∧ vs = [.str z] ∧ SqT X.K H p (ys.map V.str) ∧ ys[j]? = some z ∧ (∀ m, m < j → ys[m]? ≠ some z) ∧ Q (.int (j : Nat)) H := by
  obtain ⟨W, d, ds, rfl, s, h1, l, p⟩ := h
  cases d with
  | tup xs =>
    cases l with
    | nil => exact p.elim
    | @cons v d vs ds hv t =>
      cases d with
      | str z =>
        cases t with
        | cons _ _ => exact p.elim
        | nil =>
          obtain ⟨rfl, oz⟩ := hv.str_inv
          obtain ⟨a, vs, rfl, hq, l⟩ := h1.tup_inv
          dsimp only [tIdx] at p
          cases q2 : ssOf xs with
          | none => rw [q2] at p; exact p.elim
          | some ss =>
            rw [q2] at p
            dsimp only at p
            cases q3 : ixS z ss with
            | none => rw [q3] at p; exact p.elim
            | some j =>
              rw [q3] at p
              obtain ⟨rfl, os⟩ := ssOf_inv l q2
              obtain ⟨j1, j2⟩ := ixS_ok q3
              refine ⟨a, ss.map toS, toS z, j, rfl, rfl, hq, by rw [List.getElem?_map, j1]; rfl, fun m hm e => ?_, p W (Ext.refl W) s rfl _ (.int _)⟩
              rw [List.getElem?_map] at e
              obtain ⟨y, hy, ey⟩ := Option.map_eq_some_iff.mp e
              rw [toS_inj ey] at hy
              exact j2 m hm hy
      | _ => exact p.elim
  | _ => cases ds <;> exact p.elim
end
section
variable {X : Cx} {Wx : WX} {pos p apos : Pos} {e : Expr} {m : Me} {ma : Ma}
/-- G.index(e) -/
theorem e_tIdx {G : Str} {a : Addr} {ds : List D} (hk : isKT X.K a = true) (hg : Gl X G) (hm : X.mg G = some (.ref a)) (hd : ∀ W, Den (gc X) W (.ref a) (.tup ds)) (ha : PA X [e] (fA (gc X) Wx ma)) (hdb : (G == ("__debug__" : Str)) = false := by decide)
    (hbase : attributeBase (.Name G p) "index" X.env (eval (.Name G p) X.env) = eval (.Name G p) X.env := by rfl)
    (hfew : ((backTo pos (starEach [e] X.env)).all (fun x => !x.1) && (backToKw pos (keywordEach [] X.env)).all (fun x => x.1.isSome)
      && decide (([e]).length + ([] : List Keyword).length + (if ([] : List Keyword).isEmpty then 0 else 1) < 30)) = true := by rfl)
    (hline : (apos.endLine == pos.line) = true := by rfl) (hs : starEach [e] X.env = (false, eval e X.env) :: starEach [] X.env := by rfl) (hplain : (backTo pos (starEach [] X.env)).any (·.1) = false := by rfl) :
    PE X (.Call (.Attribute (.Name G p) "index" apos) [e] [] pos) (fE (gc X) Wx (aL (fun vs st => tIdx (.tup ds) vs st) ma)) :=
  PE.imp (pe_bm PySem.F.plainAttrs_tuple PySem.F.slot_tuple_index PySem.F.type_tuple_index mt_tup_index (pe_glob (v := .ref a) hg hm rfl hdb) ha hbase hfew hline hs hplain) fun σ H Q h => by
    show tyV X.K "tuple" (.ref a) H ∧ fA (gc X) Wx ma σ H fun xs H2 => _
    refine ⟨isKT_ok hk H, fG_mono (liftL h) fun vs H' ⟨W, ds', e0, s, l, p⟩ => ?_⟩
    subst e0
    exact im_tIdx (Wx := Wx) (σ := σ) ⟨W, _, _, rfl, s, hd W, l, p⟩
/-! ### T[e], T a table of the module -/
def oKGet (kvs : List (S × D)) (d : D) (st : Store) : Res D := match d with
  | .str s => match kvs.lookup s with
    | some v => .ok v st
    | none => .no
  | _ => .no
theorem e_kget {G : Str} {a : Addr} {kvs : List (S × D)} (hg : Gl X G) (hm : X.mg G = some (.ref a)) (hk : ∀ s d, (s, d) ∈ kvs → ∃ v, KDct X.K X.w a (toS s) v ∧ ∀ W, Den (gc X) W v d) (he : PE X e (fE (gc X) Wx m))
    (hdb : (G == ("__debug__" : Str)) = false := by decide) (hs : PlainIx e := by exact fun _ _ => rfl) : PE X (.Subscript (.Name G p) e pos) (fE (gc X) Wx (a1 (oKGet kvs) m)) :=
  PE.imp (pe_ix ix_kdict (pe_glob (v := .ref a) hg hm rfl hdb) he hs) fun σ H Q h => by
    show fE (gc X) Wx m σ H fun y H2 => rIxD X.K X.w (.ref a) y H2 Q
    refine fG_mono (lift1 h) fun v H' ⟨W, d, e0, s, hd, p⟩ => ?_
    subst e0
    cases d with
    | str z =>
      obtain ⟨rfl, oz⟩ := hd.str_inv
      dsimp only [oKGet] at p
      cases q : kvs.lookup z with
      | none => rw [q] at p; exact p.elim
      | some d =>
        rw [q] at p
        obtain ⟨u, h1, h2⟩ := hk z d (lookup_mem q)
        exact ⟨a, toS z, u, rfl, rfl, h1, p W (Ext.refl W) s rfl u (h2 W)⟩
    | _ => exact p.elim
end
end FL
end
section
set_option Elab.async false
set_option linter.all false
set_option maxRecDepth 100000
/-! FLX: == by an own __eq__. -/
namespace FL
open PySem PySem.Spec PyProof.Rows L2

def rOwn (X : Cx) (c : S) (F : List D → Store → Res D) : R2 := fun x y H Q => ∃ (a dx : Addr) (fs : List (Str × V)) (t : Value), x = .ref a ∧ H a = some (.ins (cA X c) dx fs) ∧ TyX X.K H y t ∧ PySem.W.notFirst X.K (cA X c) t = true ∧ spF (gc X) F [x, y] H Q E0
theorem op_own {X : Cx} {k : Nat} {c : S} {f : Addr} {fd : FuncData} {ps : List Str} {F : List D → Store → Res D} (hs : PySem.W.findIn X.K (.ref (cA X c)) "__eq__" = some (some (.ref f))) (hf : PySem.W.isFn X.K (.ref f) = true)
    (G : FnOk X.prog X.w X.K X.mg X.base (L2.CX X.prog X.w) k f fd ps (spF (gc X) F)) (hr : Room k X.A) (hb : Binds X.K fd ps []) : OpR X (compareOp .Eq) (rOwn X c F) := by
  intro pins s σ H x y v u Q I rx ry h
  obtain ⟨a, dx, fs, t, rfl, ha, ty, nf, hsp⟩ := h
  show wpAny (model X.prog X.w) X.A (richCompare .Eq v u) (EP X pins σ Q) X.xe s
  cases rx
  obtain ⟨mA, J, _⟩ := ins_get I.hok ha
  obtain ⟨od, J, _⟩ := J.look
  obtain ⟨P, Z, hP, _⟩ := kit_of I ry ty
  obtain ⟨m, hF⟩ := I.fr
  refine PySem.W.cmp_K (op := .Eq) (tb := t) hr.units0 hF I.ok.mod.kin J (Z.ty _ _ I.kIn hP) nf hs hf ?_
  have hl := G.len _ _ _ _ hsp
  have r2 : Vals [V.ref a, y] [Value.ref a, u] := .cons rfl (.cons ry .nil)
  refine wpAny_call (codeAny_mono (G.run X.A X.stack s H ⟨[.ref a, u], []⟩ [.ref a, u] [.ref a, y] _ E0 hr I.env0 (by
    have := hb s [.ref a, u] I.kIn (by simpa using hl)
    simpa using this) r2 hsp) fun r s' hq => ?_)
  cases r with
  | error e => exact passL pins σ H s e s' I hq
  | ok fl =>
    cases fl with
    | ret w =>
      obtain ⟨z, H', I', rz, q⟩ := I.after hq
      show PySem.W.CmpBack _ _ _
      cases z with
      | non => cases (show w = Value.none from rz); exact ⟨_, H', I', rz, q⟩
      | bl b => cases (show w = Value.bool b from rz); exact ⟨_, H', I', rz, q⟩
      | int b => obtain ⟨t, rfl⟩ := (show ∃ t, w = Value.int b t from rz); exact ⟨_, H', I', rz, q⟩
      | str b => obtain ⟨t, rfl⟩ := (show ∃ t, w = Value.str b t from rz); exact ⟨_, H', I', rz, q⟩
      | byt b => obtain ⟨t, rfl⟩ := (show ∃ t, w = Value.bytes b t from rz); exact ⟨_, H', I', rz, q⟩
      | flt b => obtain ⟨t, rfl⟩ := (show ∃ t, w = Value.float b t from rz); exact ⟨_, H', I', rz, q⟩
      | ref b => cases (show w = Value.ref b from rz); exact ⟨_, H', I', rz, q⟩
      | ty b => cases (show w = Value.type b from rz); exact ⟨_, H', I', rz, q⟩
    | next => exact False.elim hq
    | brk => exact False.elim hq
    | cont => exact False.elim hq
/-- the other's type does not come first -/
def inTs (t : Ty ⊕ S) : List (Ty ⊕ S) → Bool
  | [] => false
  | u :: r => (match t, u with
    | .inl a, .inl b => decide (a = b)
    | .inr a, .inr b => decide (a = b)
    | _, _ => false) || inTs t r
theorem inTs_mem {t : Ty ⊕ S} : ∀ {l : List (Ty ⊕ S)}, inTs t l = true → t ∈ l
  | [], h => by cases h
  | u :: r, h => by
    unfold inTs at h
    rcases Bool.or_eq_true_iff.mp h with h | h
    · cases t <;> cases u <;> first | (cases h; done) | (have := of_decide_eq_true h; subst this; exact List.mem_cons_self ..)
    · exact List.mem_cons_of_mem _ (inTs_mem h)
def oOwn (c : S) (ts : List (Ty ⊕ S)) (F : List D → Store → Res D) (x y : D) (st : Store) : Res D := match flds c x st, tyN y st with
  | some _, some t => if inTs t ts = true then (F [x, y] st).bindN fun d st => .ok d st else .no
  | _, _ => .no
theorem im_own {X : Cx} {Wx : WX} {σ : L2.St} {H : Hp} {Q : VK} {x y : V} {c : S} {ts : List (Ty ⊕ S)} {F : List D → Store → Res D} (hts : ∀ t ∈ ts, nfB X.K c t = true) (h : f2 (gc X) Wx (rD (gc X)) (oOwn c ts F) x y σ H Q) : rOwn X c F x y H Q := by
  obtain ⟨W, d, e, rfl, s, h1, h2, p⟩ := h
  dsimp only [oOwn] at p
  cases q1 : flds c d W.st with
  | none => rw [q1] at p; exact p.elim
  | some fs =>
    cases q2 : tyN e W.st with
    | none => rw [q1, q2] at p; exact p.elim
    | some t =>
      rw [q1, q2] at p
      dsimp only at p
      split at p
      · rename_i hm
        obtain ⟨a, dx, vs, rfl, hh, k1, k2⟩ := flds_inv s h1 q1
        have sp : spF (gc X) F [.ref a, y] W.H Q E0 := ⟨W, [d, e], rfl, s, .cons h1 (.cons h2 .nil), by
          cases q3 : F [d, e] W.st with
          | ok d' st' => rw [q3] at p; exact p
          | exc x st' => rw [q3] at p; exact p.elim
          | no => rw [q3] at p; exact p⟩
        have nb := hts t (inTs_mem hm)
        cases t with
        | inl b => exact ⟨a, dx, vs, _, rfl, hh, tyN_inl s h2 q2, nb, sp⟩
        | inr c' =>
          obtain ⟨n1, n2⟩ := ba2 nb
          exact ⟨a, dx, vs, _, rfl, hh, tyN_inr s h2 q2 n1, n2, sp⟩
      · exact p.elim
end FL
end
section
set_option Elab.async false
set_option linter.all false
set_option maxRecDepth 100000
/-! FLY: contracts, facts of the module. -/
namespace FL
open PySem PySem.Spec PyProof.Rows L2

/-! ### contracts -/
def FdAt (K : PySem.W.Frag) (f : Addr) (fd : FuncData) : Prop := ∃ (oc : Value) (od : Option Addr) (osl : Array (Option Value)), K.lookup f = some ⟨oc, od, .func fd, osl⟩
theorem FdAt.eq {K : PySem.W.Frag} {f : Addr} {fd fd' : FuncData} (a : FdAt K f fd) (b : FdAt K f fd') : fd = fd' := by
  obtain ⟨oc, od, osl, h⟩ := a
  obtain ⟨oc', od', osl', h'⟩ := b
  rw [h] at h'
  cases h'
  rfl
theorem fd_at {K : PySem.W.Frag} {x qual : Str} {params : Arguments} {body : List Stmt} {scope : Scope} {dvs : List V} {kws : List (Str × V)} {f : Addr} {fd : FuncData} (F : FunD K x qual params body scope dvs kws f fd) : FdAt K f fd := by
  obtain ⟨oc, od, _, _, _, _, _, _, _, osl, _, h, _⟩ := F.ex
  exact ⟨oc, od, osl, h⟩
def FOk (P : Program) (w : World) (K : PySem.W.Frag) (mg : Str → Option Value) (base : Heap) (at_ : Str × Option Str) (k : Nat) (ps : List Str) (F : List D → Store → Res D) : Prop :=
  ∃ fd, FnOk P w K mg base (L2.CX P w) k (He.fAd K at_) fd ps (spF ⟨P, w, K⟩ F) ∧ Binds K fd ps [] ∧ PySem.W.keepIn K (.ref (He.fAd K at_)) = true ∧ FdAt K (He.fAd K at_) fd
section
variable {P : Program} {w : World} {K : PySem.W.Frag} {mg : Str → Option Value} {base : Heap}
theorem fn_okD {x qual : Str} {params : Arguments} {body : List Stmt} {scope : Scope} {dvs : List V} {kws : List (Str × V)} {f : Addr} {fd : FuncData} {N ps : List Str} {k : Nat} {b : Ms} {keep : Bool} (F : FunD K x qual params body scope dvs kws f fd) (S : FnScope N ps scope)
    (hb : ∀ (cdv : Value) (A : Around) (outer : List Env) (s : Shared) (H : Hp) (E : XK), Room k (A.deeper (envOfC qual scope s.heap.objs.size f cdv)) →
      PSs (cxOf (L2.CX P w) P w K mg base N qual scope f cdv A outer s H E) body (fS ⟨P, w, K⟩ (fun cls dd _ H => E cls dd H) b)) :
    FnOk P w K mg base (L2.CX P w) (k + 1) f fd ps (spF ⟨P, w, K⟩ (mkF keep ps.length N.length b)) := by
  refine F.ok S (fun vs H Q E h => ?_) (fun cdv A outer s H vs Q E hr h => ⟨_, hb cdv A outer s H E hr, ?_⟩)
  · obtain ⟨W, ds, rfl, s, l, p⟩ := h
    dsimp only [mkF] at p
    split at p
    · rw [l.length]; assumption
    · exact p.elim
  · obtain ⟨W, ds, rfl, s, l, p⟩ := h
    dsimp only [mkF] at p
    split at p
    · rename_i hn
      exact mk_body S.pre l hn s p
    · exact p.elim
theorem fok_of {d : He.DefD} {N ps : List Str} {k : Nat} {b : Ms} {keep : Bool} (hF : ∃ fd, FunD K d.name d.qual d.params d.body d.scope (d.dvs K) (d.kws K) (He.fAd K d.at_) fd) (h0 : d.dfl = []) (S : FnScope N ps d.scope)
    (hbind : ∀ (kV doc pm : Value) (an : Option Addr) (cdv ct : Value) (us : List Value), us.length = ps.length → bindArgs (PySem.W.fnOf d.name d.qual d.params d.body d.scope .none kV doc pm an cdv ct) ⟨us, []⟩ = pure (ps.zip us))
    (hb : ∀ (cdv : Value) (A : Around) (outer : List Env) (s : Shared) (H : Hp) (E : XK), Room k (A.deeper (envOfC d.qual d.scope s.heap.objs.size (He.fAd K d.at_) cdv)) →
      PSs (cxOf (L2.CX P w) P w K mg base N d.qual d.scope (He.fAd K d.at_) cdv A outer s H E) d.body (fS ⟨P, w, K⟩ (fun cls dd _ H => E cls dd H) b)) :
    FOk P w K mg base d.at_ (k + 1) ps (mkF keep ps.length N.length b) := by
  obtain ⟨fd, F⟩ := hF
  have F' : FunD K d.name d.qual d.params d.body d.scope [] (d.kws K) (He.fAd K d.at_) fd := by
    have e : d.dvs K = [] := by unfold He.DefD.dvs; rw [h0]; rfl
    rw [← e]; exact F
  exact ⟨fd, fn_okD F S hb, F'.bindsN hbind, F.kp, fd_at F⟩
/-- nothing is promised -/
theorem fok_no {d : He.DefD} {ps : List Str} {k : Nat} (hF : ∃ fd, FunD K d.name d.qual d.params d.body d.scope (d.dvs K) (d.kws K) (He.fAd K d.at_) fd) (h0 : d.dfl = [])
    (hbind : ∀ (kV doc pm : Value) (an : Option Addr) (cdv ct : Value) (us : List Value), us.length = ps.length → bindArgs (PySem.W.fnOf d.name d.qual d.params d.body d.scope .none kV doc pm an cdv ct) ⟨us, []⟩ = pure (ps.zip us)) :
    FOk P w K mg base d.at_ k ps (fun _ _ => .no) := by
  obtain ⟨fd, F⟩ := hF
  have F' : FunD K d.name d.qual d.params d.body d.scope [] (d.kws K) (He.fAd K d.at_) fd := by
    have e : d.dvs K = [] := by unfold He.DefD.dvs; rw [h0]; rfl
    rw [← e]; exact F
  exact ⟨fd, ⟨fun vs H Q E h => by obtain ⟨W, ds, _, _, _, p⟩ := h; exact p.elim, fun A outer s H args us vs Q E _ _ _ _ h => by obtain ⟨W, ds, _, _, _, p⟩ := h; exact p.elim⟩, F'.bindsN hbind, F.kp, fd_at F⟩
theorem FOk.mono {at_ : Str × Option Str} {j k : Nat} {ps : List Str} {F : List D → Store → Res D} (h : FOk P w K mg base at_ j ps F) (hk : j ≤ k) : FOk P w K mg base at_ k ps F := by
  obtain ⟨fd, h1, h2, h3⟩ := h
  exact ⟨fd, h1.mono hk, h2, h3⟩
end
/-! ### calls by contract -/
section
variable {X : Cx} {Wx : WX} {j k : Nat} {ps : List Str} {F : List D → Store → Res D} {x M : Str} {p pos apos : Pos} {e o a b : Expr} {es : List Expr} {m ma mb : Me} {ml : Ma} {c f : S}
theorem c_call (G : FOk X.prog X.w X.K X.mg X.base (x, none) k ps F) (hr : Room j X.A) (hj : k ≤ j) (tk : Takes X Wx) (hg : Gl X x) (hm : X.mg x = some (.ref (He.ga X.K x)))
    (ha : PA X (e :: es) (fA (gc X) Wx ml)) (hdb : (x == ("__debug__" : Str)) = false := by decide) (he : starEach (e :: es) X.env = (false, eval e X.env) :: starEach es X.env := by rfl) (hpl : (backTo pos (starEach es X.env)).any (·.1) = false := by rfl) :
    PE X (.Call (.Name x p) (e :: es) [] pos) (fE (gc X) Wx (aL F ml)) := by
  obtain ⟨fd, G, hb, hk, _⟩ := G
  exact e_call G (hr.mono hj) tk hg hm hk hb ha hdb he hpl
theorem c_call0 (G : FOk X.prog X.w X.K X.mg X.base (x, none) k ps F) (hr : Room j X.A) (hj : k ≤ j) (tk : Takes X Wx) (hg : Gl X x) (hm : X.mg x = some (.ref (He.ga X.K x))) (hdb : (x == ("__debug__" : Str)) = false := by decide) :
    PE X (.Call (.Name x p) [] [] pos) (fE (gc X) Wx fun _ st => F [] st) := by
  obtain ⟨fd, G, hb, hk, _⟩ := G
  exact e_call0 G (hr.mono hj) tk hg hm hk hb hdb
theorem c_make {fr : Bool} (G : FOk X.prog X.w X.K X.mg X.base (toS c, some "__init__") k ps F) (hr : Room j X.A) (hj : k + 1 ≤ j) (M : He.Fa.ok X.K (.mkr (toS c)) = true) (tk : Takes X Wx) (hg : Gl X x) (hm : X.mg x = some (.ref (cA X c)))
    (ha : PA X (e :: es) (fA (gc X) Wx ml)) (hdb : (x == ("__debug__" : Str)) = false := by decide) (he : starEach (e :: es) X.env = (false, eval e X.env) :: starEach es X.env := by rfl) (hpl : (backTo pos (starEach es X.env)).any (·.1) = false := by rfl) :
    PE X (.Call (.Name x p) (e :: es) [] pos) (fE (gc X) Wx (mMake fr c F ml)) := by
  obtain ⟨fd, G, hb, hk, _⟩ := G
  exact e_make (He.mkr_ok M) G (hr.mono hj) tk hg hm hb ha hdb he hpl
/-- == of an own class -/
theorem c_ownEq {ts : List (Ty ⊕ S)} (G : FOk X.prog X.w X.K X.mg X.base (toS c, some "__eq__") k ps F) (hr : Room j X.A) (hj : k ≤ j) (M : He.Fa.ok X.K (.meth (toS c) "__eq__") = true) (hts : ∀ t ∈ ts, nfB X.K c t = true) (ha : PE X a (fE (gc X) Wx ma)) (hb : PE X b (fE (gc X) Wx mb))
    (hm : behindInMarks .Eq b = false := by first | exact nomark _ | rfl) : PE X (.Compare a [.Eq] [b] pos) (fE (gc X) Wx (a2 (oOwn c ts F) ma mb)) := by
  obtain ⟨fd, G, hb', hk, _⟩ := G
  have m := He.meth_ok M
  obtain ⟨m1, m2, m3⟩ := id m
  exact e_cmp (op_own m1 m2 G (hr.mono hj) hb') (fun h => im_own hts h) ha hb hm
theorem ct_ownEq {ts : List (Ty ⊕ S)} (G : FOk X.prog X.w X.K X.mg X.base (toS c, some "__eq__") k ps F) (hr : Room j X.A) (hj : k ≤ j) (M : He.Fa.ok X.K (.meth (toS c) "__eq__") = true) (hts : ∀ t ∈ ts, nfB X.K c t = true) (ha : PE X a (fE (gc X) Wx ma)) (hb : PE X b (fE (gc X) Wx mb))
    (hm : behindInMarks .Eq b = false := by first | exact nomark _ | rfl) : PT X (.Compare a [.Eq] [b] pos) (fT (gc X) Wx (tB (a2 (oOwn c ts F) ma mb))) := by
  obtain ⟨fd, G, hb', hk, _⟩ := G
  have m := He.meth_ok M
  obtain ⟨m1, m2, m3⟩ := id m
  exact t_cmp (op_own m1 m2 G (hr.mono hj) hb') (fun h => im_own hts h) ha hb hm
end

/-! ### constants of the module -/
def DenS (K : PySem.W.Frag) (u : Value) (d : D) : Prop := ∃ v, RelV v u ∧ ∀ (P : Program) (w : World) (W : Wd), Den ⟨P, w, K⟩ W v d
theorem atomB_ok {K : PySem.W.Frag} {u : Value} {d : D} (e : atomB u d = true) : DenS K u d := by
  unfold atomB at e
  split at e
  · exact ⟨.non, rfl, fun _ _ _ => .non⟩
  · rename_i b c
    have : b = c := eq_of_beq e
    subst this
    exact ⟨.bl b, rfl, fun _ _ _ => .bl b⟩
  · rename_i i t j
    have : i = j := of_decide_eq_true e
    subst this
    exact ⟨.int i, ⟨t, rfl⟩, fun _ _ _ => .int i⟩
  · rename_i x t s
    obtain ⟨h1, h2⟩ := ba2 e
    have := of_decide_eq_true h1
    subst this
    exact ⟨.str (toS s), ⟨t, rfl⟩, fun _ _ _ => .str s h2⟩
  · cases e
theorem listB_ok {K : PySem.W.Frag} {f : Value → D → Bool} (h : ∀ u d, f u d = true → DenS K u d) : ∀ {us : List Value} {ds : List D}, listB f us ds = true → ∃ vs, Vals vs us ∧ ∀ (P : Program) (w : World) (W : Wd), DenL ⟨P, w, K⟩ W vs ds
  | [], [], _ => ⟨[], .nil, fun _ _ _ => .nil⟩
  | [], _ :: _, e => by cases e
  | _ :: _, [], e => by cases e
  | u :: us, d :: ds, e => by
    obtain ⟨e1, e2⟩ := ba2 (show (f u d && listB f us ds) = true from e)
    obtain ⟨v, r, hv⟩ := h u d e1
    obtain ⟨vs, rs, hvs⟩ := listB_ok h e2
    exact ⟨v :: vs, .cons r rs, fun P w W => .cons (hv P w W) (hvs P w W)⟩
theorem denB_ok {K : PySem.W.Frag} : ∀ (n : Nat) (u : Value) (d : D), denB K n u d = true → DenS K u d
  | 0, u, d, e => atomB_ok e
  | n + 1, u, d, e => by
    unfold denB at e
    split at e
    · rename_i a ds
      split at e
      · rename_i c od its m sl q
        obtain ⟨e1, e2⟩ := ba2 e
        obtain ⟨e3, e4⟩ := ba2 e2
        obtain ⟨vs, rs, hvs⟩ := listB_ok (denB_ok n) e4
        exact ⟨.ref a, rfl, fun P w W => .tupK ⟨_, its, m, q, congrArg Value.type (of_decide_eq_true e1), rfl, of_decide_eq_true e3, rs⟩ (hvs P w W)⟩
      · cases e
    · exact atomB_ok e
theorem conD_ok {K : PySem.W.Frag} {h : Heap} {mg : Str → Option Value} {x : Str} {d : D} (X : K.In h) (G : h.Ns mainGlobals mg) (c : conD K x d = true) : ∃ u v, mg x = some u ∧ RelV v u ∧ ∀ (P : Program) (w : World) (W : Wd), Den ⟨P, w, K⟩ W v d := by
  unfold conD at c
  cases e : PySem.W.nsIn K mainGlobals x with
  | none => rw [e] at c; cases c
  | some r =>
    rw [e] at c
    cases r with
    | none => cases c
    | some u =>
      obtain ⟨v, r, hv⟩ := denB_ok 8 _ _ c
      exact ⟨u, v, PySem.W.mg_of X G e, r, hv⟩
theorem c_con {X : Cx} {Wx : WX} {x : Str} {d : D} {pos : Pos} (hg : Gl X x) (h : ∃ u v, X.mg x = some u ∧ RelV v u ∧ ∀ (P : Program) (w : World) (W : Wd), Den ⟨P, w, X.K⟩ W v d) (hdb : (x == ("__debug__" : Str)) = false := by decide) : PE X (.Name x pos) (fE (gc X) Wx (aC d)) := by
  obtain ⟨u, v, hm, r, hd⟩ := h
  exact PE.imp (pe_glob hg hm r hdb) fun _ _ _ h => of_const (fun W => hd _ _ W) h
/-- G.index(e), G a tuple of the module -/
theorem c_tIdx {X : Cx} {Wx : WX} {G : Str} {ds : List D} {p apos pos : Pos} {e : Expr} {ma : Ma} (hk : isKT X.K (He.ga X.K G) = true) (hg : Gl X G) (hm : X.mg G = some (.ref (He.ga X.K G))) (h : ∃ u v, X.mg G = some u ∧ RelV v u ∧ ∀ (P : Program) (w : World) (W : Wd), Den ⟨P, w, X.K⟩ W v (.tup ds)) (ha : PA X [e] (fA (gc X) Wx ma)) (hdb : (G == ("__debug__" : Str)) = false := by decide)
    (hbase : attributeBase (.Name G p) "index" X.env (eval (.Name G p) X.env) = eval (.Name G p) X.env := by rfl)
    (hfew : ((backTo pos (starEach [e] X.env)).all (fun x => !x.1) && (backToKw pos (keywordEach [] X.env)).all (fun x => x.1.isSome)
      && decide (([e]).length + ([] : List Keyword).length + (if ([] : List Keyword).isEmpty then 0 else 1) < 30)) = true := by rfl)
    (hline : (apos.endLine == pos.line) = true := by rfl) (hs : starEach [e] X.env = (false, eval e X.env) :: starEach [] X.env := by rfl) (hplain : (backTo pos (starEach [] X.env)).any (·.1) = false := by rfl) :
    PE X (.Call (.Attribute (.Name G p) "index" apos) [e] [] pos) (fE (gc X) Wx (aL (fun vs st => tIdx (.tup ds) vs st) ma)) := by
  obtain ⟨u, v, hm2, r, hd⟩ := h
  rw [hm] at hm2
  cases hm2
  have ev : v = .ref (He.ga X.K G) := RelV.inj r (show RelV (.ref (He.ga X.K G)) (.ref (He.ga X.K G)) from rfl)
  subst ev
  exact e_tIdx hk hg hm (fun W => hd _ _ W) ha hdb hbase hfew hline hs hplain
theorem c_kget {X : Cx} {Wx : WX} {G : Str} {kvs : List (S × D)} {p pos : Pos} {e : Expr} {m : Me} (hg : Gl X G) (hm : X.mg G = some (.ref (He.ga X.K G))) (ht : ∃ es n, KDict X.K X.w (He.ga X.K G) es n) (hk : valsD X.K (He.ga X.K G) kvs = true) (he : PE X e (fE (gc X) Wx m))
    (hdb : (G == ("__debug__" : Str)) = false := by decide) (hs : PlainIx e := by exact fun _ _ => rfl) : PE X (.Subscript (.Name G p) e pos) (fE (gc X) Wx (a1 (oKGet kvs) m)) := by
  obtain ⟨es, n, D⟩ := ht
  refine e_kget hg hm (fun s d hsd => ?_) he hdb hs
  have h := List.all_eq_true.mp hk (s, d) hsd
  dsimp only at h
  cases q : PySem.W.nsIn X.K (He.ga X.K G) (toS s) with
  | none => rw [q] at h; cases h
  | some r =>
    rw [q] at h
    cases r with
    | none => cases h
    | some u =>
      obtain ⟨v, r, hv⟩ := denB_ok 8 _ _ h
      exact ⟨v, ⟨es, n, u, D.at_, D.lit, q, r⟩, fun W => hv _ _ W⟩
end FL
end
section
set_option Elab.async false
set_option linter.all false
set_option maxRecDepth 100000
/-! FLZ: small things for the printed texts. -/
namespace FL
open PySem PySem.Spec PyProof.Rows L2

/-! ### -x -/
def oNeg (d : D) (st : Store) : Res D := match d with
  | .int i => .ok (.int (-i)) st
  | _ => .no
section
variable {X : Cx} {Wx : WX} {pos : Pos} {e : Expr} {m : Me}
theorem e_neg (he : PE X e (fE (gc X) Wx m)) : PE X (.UnaryOp .USub e pos) (fE (gc X) Wx (a1 oNeg m)) := PE.imp (pe_un un_neg he) fun σ H Q h => by
  show fE (gc X) Wx m σ H fun x H1 => rU (fun i => .int (-i)) x H1 Q
  refine fG_mono (lift1 h) fun v H' ⟨W, d, e0, s, hd, p⟩ => ?_
  subst e0
  cases d with
  | int i => cases hd.int_inv; exact ⟨i, rfl, p W (Ext.refl W) s rfl _ (.int _)⟩
  | _ => exact p.elim
/-- frozen on its way -/
theorem e_fz (he : PE X e (fE (gc X) Wx m)) : PE X e (fE (gc X) Wx (a1 fz m)) := PE.imp he fun σ H Q h => by
  refine fG_mono (lift1 h) fun v H' ⟨W, d, e0, s, hd, p⟩ => ?_
  subst e0
  cases q : fz d W.st with
  | ok d' st' =>
    rw [q] at p
    obtain ⟨W', x1, x2, x3, x4, x5⟩ := fz_ok s hd q
    rw [← x4]
    exact p W' x1 x2 x3 v x5
  | exc x st => exfalso; unfold fz at q; split at q <;> (try split at q) <;> cases q
  | no => rw [q] at p; exact p.elim
end
/-! ### checks -/
def blkB (N : List Str) (sc scope : Scope) (own : List (Str × Nat)) : Bool := decide (scope.kind = .function) && (scope.names.all (fun y => decide (scope.names.lookup y.1 = some y.2)) && (own.all (fun p => decide (N[p.2]? = some p.1)) &&
  (scope.names.all (fun y => !decide (y.2 = .free) || (decide (sc.names.lookup y.1 = some .cell) || decide (sc.names.lookup y.1 = some .free))) &&
  scope.names.all (fun y => !(decide (y.2 = .local) || decide (y.2 = .cell)) || (decide (y.1 ∈ own.map (·.1)) || decide (y.1 ∉ N))))))
theorem blk_of {N : List Str} {sc scope : Scope} {own : List (Str × Nat)} (h : blkB N sc scope own = true) : BlkOk N sc scope own := by
  obtain ⟨h1, h⟩ := ba2 h
  obtain ⟨h2, h⟩ := ba2 h
  obtain ⟨h3, h⟩ := ba2 h
  obtain ⟨h4, h5⟩ := ba2 h
  refine ⟨of_decide_eq_true h1, fun y hy => of_decide_eq_true (List.all_eq_true.mp h2 y hy), fun p hp => of_decide_eq_true (List.all_eq_true.mp h3 p hp), fun y hy e => ?_, fun y hy e => ?_⟩
  · have := List.all_eq_true.mp h4 y hy
    rw [decide_eq_true e, Bool.not_true, Bool.false_or] at this
    rcases Bool.or_eq_true_iff.mp this with q | q
    · exact .inl (of_decide_eq_true q)
    · exact .inr (of_decide_eq_true q)
  · have := List.all_eq_true.mp h5 y hy
    have e' : (decide (y.2 = .local) || decide (y.2 = .cell)) = true := by rcases e with e | e <;> simp [e]
    rw [e', Bool.not_true, Bool.false_or] at this
    rcases Bool.or_eq_true_iff.mp this with q | q
    · exact .inl (of_decide_eq_true q)
    · exact .inr (of_decide_eq_true q)
def scB (N ps : List Str) (sc : Scope) : Bool := decide (sc.kind = .function) && (!sc.isCoroutine && (!sc.isGenerator && (decide N.Nodup && (decide (N.take ps.length = ps) &&
  (ps.all (fun x => decide (sc.names.lookup x = some .local) || decide (sc.names.lookup x = some .cell)) && sc.names.all (fun y => !decide (y.2 = .free)))))))
theorem sc_of {N ps : List Str} {sc : Scope} (h : scB N ps sc = true) : FnScope N ps sc := by
  obtain ⟨h1, h⟩ := ba2 h
  obtain ⟨h2, h⟩ := ba2 h
  obtain ⟨h3, h⟩ := ba2 h
  obtain ⟨h4, h⟩ := ba2 h
  obtain ⟨h5, h⟩ := ba2 h
  obtain ⟨h6, h7⟩ := ba2 h
  exact ⟨of_decide_eq_true h1, by simpa using h2, by simpa using h3, of_decide_eq_true h4, of_decide_eq_true h5, fun x hx => by
    rcases Bool.or_eq_true_iff.mp (List.all_eq_true.mp h6 x hx) with q | q
    · exact .inl (of_decide_eq_true q)
    · exact .inr (of_decide_eq_true q), fun y hy e => by
    have := List.all_eq_true.mp h7 y hy
    rw [decide_eq_true e] at this
    cases this⟩
theorem Room.u65 {k : Nat} {A : Around} (r : Room k A) : A.units + 65 < cLine := by have := r.un; omega
theorem Room.u1 {k : Nat} {A : Around} (r : Room k A) : A.units + 1 < cLine := by have := r.un; omega
end FL
end
section
set_option Elab.async false
set_option linter.all false
set_option maxRecDepth 100000
/-! FMA: properties; the hook. -/
namespace FL
open PySem PySem.Spec PyProof.Rows L2

theorem prop_ok {K : PySem.W.Frag} {c f : Str} (h : propB K c f = true) : PropOf K (He.ga K c) f (He.ma K (He.ga K c) f) (propAt K c f) := by
  obtain ⟨h1, h⟩ := ba2 h
  obtain ⟨h2, h⟩ := ba2 h
  obtain ⟨h3, h4⟩ := ba2 h
  refine ⟨He.eqO_ok h1, He.eqO_ok h2, of_decide_eq_true h3, ?_⟩
  unfold propAt
  split at h4
  · rename_i g r q
    rw [q]
    exact ⟨r, rfl⟩
  · cases h4
/-! ### a def anywhere -/
theorem DefQ.funD {K : PySem.W.Frag} {d : DefQ} (e : fnWa K (d.at_ K) = d.val) (c : d.ok K = true) : ∃ fd, FunD K d.name d.qual d.params d.body d.scope [] [] (d.at_ K) fd := by
  obtain ⟨kp, c2⟩ := ba2 c
  unfold fnWa at e
  cases q : K.lookup (d.at_ K) with
  | none => rw [q] at c2; cases c2
  | some o =>
    obtain ⟨oc, od, dt, osl⟩ := o
    rw [q] at c2 e
    cases dt with
    | func fd =>
      obtain ⟨n1, n2, n3, n4, n5, n6, n7, n8, n9, n10, n11, n12, n13, n14, n15⟩ := fd
      have e2 : (some (n1, n2, n3, n4, n5, n6, n7, n15) : He.FnW) = some (d.name, d.qual, d.params, .stmts d.body, d.scope, mainGlobals, [], builtinsNs) := e
      simp only [Option.some.injEq, Prod.mk.injEq] at e2
      obtain ⟨h1, h2, h3, h4, h5, h6, h7, h8⟩ := e2
      subst h1 h2 h3 h4 h5 h6 h7 h8
      obtain ⟨k1, k2⟩ := ba2 (show (PySem.W.codeIn K n13 d.qual && (He.dflB K n8 [] && He.kwdB K n9 [])) = true from c2)
      obtain ⟨k3, k4⟩ := ba2 k2
      exact ⟨_, ⟨oc, od, n8, n9, n10, n11, n12, n13, n14, osl, rfl, q, k1, He.dflB_ok k3, He.kwdB_ok k4⟩, kp⟩
    | _ => cases c2
/-! ### the hook -/
def obsPG (n : Nat) (fa : List He.Fa) (fn : List He.DefD) (ts : List He.Tab) (ex : PySem.W.Frag → Bool) (qs : List DefQ) (g : Addr → Option Obj) : AlP := obsP fa fn ts ex qs (He.frG g (He.asD g n))
def SaysP (fa : List He.Fa) (fn : List He.DefD) (ts : List He.Tab) (ex : PySem.W.Frag → Bool) (qs : List DefQ) (w : World) (K : PySem.W.Frag) : Prop := obsP fa fn ts ex qs K = valP fn ts qs w
def hookP (n : Nat) (fa : List He.Fa) (fn : List He.DefD) (ts : List He.Tab) (ex : PySem.W.Frag → Bool) (qs : List DefQ) : PySem.W.Hook where
  α := AlP
  obs := fun s => obsPG n fa fn ts ex qs s.heap.get?
  val := fun w => valP fn ts qs w
  says := fun w h => ∃ K : PySem.W.Frag, K.In h ∧ SaysP fa fn ts ex qs w K
  of := fun _ _ e => ⟨_, He.frG_in, e⟩
  keeps := fun _ _ _ ⟨K, hK, c⟩ k => ⟨K, PySem.W.Frag.In.keeps hK k, c⟩
theorem obsPG_eq {n : Nat} {fa : List He.Fa} {fn : List He.DefD} {ts : List He.Tab} {ex : PySem.W.Frag → Bool} {qs : List DefQ} {g : Addr → Option Obj} {s : Shared} (h : ∀ a, g a = s.heap.get? a) : obsPG n fa fn ts ex qs g = (hookP n fa fn ts ex qs).obs s := by
  have e : g = s.heap.get? := funext h
  rw [e] <;> rfl
section
variable {fa : List He.Fa} {fn : List He.DefD} {ts : List He.Tab} {ex : PySem.W.Frag → Bool} {qs : List DefQ} {w : World} {K : PySem.W.Frag}
theorem SaysP.t (c : SaysP fa fn ts ex qs w K) : He.SaysT fa fn ts w K := congrArg (fun z : AlP => z.1) c
theorem SaysP.more (c : SaysP fa fn ts ex qs w K) : ex K = true := (ba2 (show (ex K && qs.all (fun d => d.ok K)) = true from congrArg (fun z : AlP => z.2.1) c)).1
theorem SaysP.q (c : SaysP fa fn ts ex qs w K) (i : Nat) {d : DefQ} (h : qs[i]? = some d := by rfl) : ∃ fd, FunD K d.name d.qual d.params d.body d.scope [] [] (d.at_ K) fd := by
  have c2 := (ba2 (show (ex K && qs.all (fun d => d.ok K)) = true from congrArg (fun z : AlP => z.2.1) c)).2
  have e : qs.map (fun d => fnWa K (d.at_ K)) = qs.map DefQ.val := congrArg (fun z : AlP => z.2.2) c
  have e2 : (qs.map fun d => fnWa K (d.at_ K))[i]? = (qs.map DefQ.val)[i]? := by rw [e]
  rw [List.getElem?_map, List.getElem?_map, h] at e2
  exact DefQ.funD (Option.some.inj e2) (List.all_eq_true.mp c2 d (List.mem_of_getElem? h))
end
theorem xs_at {l : List Bool} (h : l.all id = true) (i : Nat) {b : Bool} (e : l[i]? = some b := by rfl) : b = true := List.all_eq_true.mp h b (List.mem_of_getElem? e)
theorem mnil {α : Type} {p : α → Prop} : ∀ x ∈ ([] : List α), p x := fun _ h => nomatch h
theorem mcons {α : Type} {p : α → Prop} {a : α} {l : List α} (h : p a) (t : ∀ x ∈ l, p x) : ∀ x ∈ a :: l, p x := List.forall_mem_cons.mpr ⟨h, t⟩
/-! ### contracts by place -/
def FOkA (P : Program) (w : World) (K : PySem.W.Frag) (mg : Str → Option Value) (base : Heap) (f : Addr) (k : Nat) (ps : List Str) (F : List D → Store → Res D) : Prop :=
  ∃ fd, FnOk P w K mg base (L2.CX P w) k f fd ps (spF ⟨P, w, K⟩ F) ∧ Binds K fd ps [] ∧ PySem.W.keepIn K (.ref f) = true
theorem fokA_of {P : Program} {w : World} {K : PySem.W.Frag} {mg : Str → Option Value} {base : Heap} {d : DefQ} {N ps : List Str} {k : Nat} {b : Ms} {keep : Bool} (hF : ∃ fd, FunD K d.name d.qual d.params d.body d.scope [] [] (d.at_ K) fd) (S : FnScope N ps d.scope)
    (hbind : ∀ (kV doc pm : Value) (an : Option Addr) (cdv ct : Value) (us : List Value), us.length = ps.length → bindArgs (PySem.W.fnOf d.name d.qual d.params d.body d.scope .none kV doc pm an cdv ct) ⟨us, []⟩ = pure (ps.zip us))
    (hb : ∀ (cdv : Value) (A : Around) (outer : List Env) (s : Shared) (H : Hp) (E : XK), Room k (A.deeper (envOfC d.qual d.scope s.heap.objs.size (d.at_ K) cdv)) →
      PSs (cxOf (L2.CX P w) P w K mg base N d.qual d.scope (d.at_ K) cdv A outer s H E) d.body (fS ⟨P, w, K⟩ (fun cls dd _ H => E cls dd H) b)) :
    FOkA P w K mg base (d.at_ K) (k + 1) ps (mkF keep ps.length N.length b) := by
  obtain ⟨fd, F⟩ := hF
  exact ⟨fd, fn_okD F S hb, F.bindsN hbind, F.kp⟩
def oProp (c : S) (F : List D → Store → Res D) (d : D) (st : Store) : Res D := match flds c d st with
  | some _ => (F [d] st).bindN fun d st => .ok d st
  | none => .no
theorem c_prop {X : Cx} {Wx : WX} {j k : Nat} {ps : List Str} {F : List D → Store → Res D} {M : Str} {pos : Pos} {e : Expr} {m : Me} {c : S} (G : FOkA X.prog X.w X.K X.mg X.base (propAt X.K (toS c) M) k ps F) (hr : Room j X.A) (hj : k + 1 ≤ j) (hc : He.Fa.ok X.K (.cls (toS c)) = true) (hp : propB X.K (toS c) M = true) (he : PE X e (fE (gc X) Wx m))
    (hab : attributeBase e M X.env (eval e X.env) = eval e X.env := by rfl) : PE X (.Attribute e M pos) (fE (gc X) Wx (a1 (oProp c F) m)) := by
  obtain ⟨fd, G, hb, hk⟩ := G
  exact e_prop he (He.cls_ok hc) (prop_ok hp) G (hr.mono hj) hb hab
/-! ### name = [..] on one line -/
section
variable {X : Cx} {Wx : WX} {elt tg iter : Expr} {ifs : List Expr} {scope : Scope} {own : List (Str × Nat)} {pos spos py : Pos} {mi : Mi} {k : Mg} {t : Mt} {m : Me} {y : Str}
theorem s_setLc (i : Nat) (hc : X.calm = true) (hN : X.N.Nodup) (hy : X.N[i]? = some y) (hyl : X.env.scope.names.lookup y = some .local) (hi : PI X tg iter (fI (gc X) Wx mi)) (ok : BlkOk X.N X.env.scope scope own)
    (hg : ∀ (s : Shared) (H : Hp) (C : Addr) (cl : List (Str × Addr)) (fp : List Addr), PG (X.blk s H scope (compEnvC scope cl C X.env) fp) tg (fTg (gc X) noX (own.map (·.2)) k))
    (ht : ∀ (s : Shared) (H : Hp) (C : Addr) (cl : List (Str × Addr)) (fp : List Addr), PTs (X.blk s H scope (compEnvC scope cl C X.env) fp) ifs (fT (gc X) noX t))
    (he : ∀ (s : Shared) (H : Hp) (C : Addr) (cl : List (Str × Addr)) (fp : List Addr), PE (X.blk s H scope (compEnvC scope cl C X.env) fp) elt (fE (gc X) noX m))
    (hsw : swapsWith (.ListComp elt [⟨tg, iter, ifs, 0⟩] scope pos) (some (.Name y py)) spos.line X.env = pure true) (hs : ∀ x, foldedSetIterable iter X.env x = pure x := by intro _; rfl) :
    PS X (.Assign [.Name y py] (.ListComp elt [⟨tg, iter, ifs, 0⟩] scope pos) spos) (fS (gc X) Wx (mSet i (mLc (own.map (·.2)) mi k t m))) :=
  PS.imp (ps_setLc hc hN hy hyl hsw hi ok hg ht he hs) fun D σ H h => by
    show tLc (fI (gc X) Wx mi) (fTg (gc X) noX (own.map (·.2)) k) (fT (gc X) noX t) (fE (gc X) noX m) (own.map (·.2)) σ H fun v H1 => D.nx (σ.set i (some v)) H1
    have h2 : fE (gc X) Wx (mLc (own.map (·.2)) mi k t m) σ H fun v H1 => D.nx (σ.set i (some v)) H1 := fG_mono (liftS h) fun v H' ⟨W, env, d, e0, s, r, hv, p⟩ => by
      subst e0
      exact p W _ (Ext.refl W) s rfl (r.set i hv)
    exact lc_im h2 fun W W2 p us ys a1 a2 a3 a4 a5 a6 a7 a8 => lc_frozen a1 a2 a3 a4 a5 a6 a7 a8
theorem s_setLcC (i : Nat) (hc : X.calm = true) (hN : X.N.Nodup) (hy : X.N[i]? = some y) (hyl : X.env.scope.names.lookup y = some .local) (hi : PI X tg iter (fI (gc X) Wx mi)) (ok : BlkOk X.N X.env.scope scope own)
    (hg : ∀ (s : Shared) (H : Hp) (C : Addr) (cl : List (Str × Addr)) (fp : List Addr), PG (X.blk s H scope (compEnvC scope cl C X.env) fp) tg (fTg (gc X) noX (own.map (·.2)) k))
    (ht : ∀ (s : Shared) (H : Hp) (C : Addr) (cl : List (Str × Addr)) (fp : List Addr), PTs (X.blk s H scope (compEnvC scope cl C X.env) fp) ifs (fT (gc X) noX t))
    (he : ∀ (s : Shared) (H : Hp) (C : Addr) (cl : List (Str × Addr)) (fp : List Addr), PE (X.blk s H scope (compEnvC scope cl C X.env) fp) elt (fE (gc X) noX m))
    (hsw : swapsWith (.ListComp elt [⟨tg, iter, ifs, 0⟩] scope pos) (some (.Name y py)) spos.line X.env = pure true) (hs : ∀ x, foldedSetIterable iter X.env x = pure x := by intro _; rfl) :
    PS X (.Assign [.Name y py] (.ListComp elt [⟨tg, iter, ifs, 0⟩] scope pos) spos) (fS (gc X) Wx (mSet i (mLcC (own.map (·.2)) mi k t m))) :=
  PS.imp (ps_setLc hc hN hy hyl hsw hi ok hg ht he hs) fun D σ H h => by
    show tLc (fI (gc X) Wx mi) (fTg (gc X) noX (own.map (·.2)) k) (fT (gc X) noX t) (fE (gc X) noX m) (own.map (·.2)) σ H fun v H1 => D.nx (σ.set i (some v)) H1
    have h2 : fE (gc X) Wx (mLcC (own.map (·.2)) mi k t m) σ H fun v H1 => D.nx (σ.set i (some v)) H1 := fG_mono (liftS h) fun v H' ⟨W, env, d, e0, s, r, hv, p⟩ => by
      subst e0
      exact p W _ (Ext.refl W) s rfl (r.set i hv)
    exact lc_im h2 fun W W2 p us ys a1 a2 a3 a4 a5 a6 a7 a8 => lc_cell a1 a2 a3 a4 a5 a6 a7 a8
end
end FL
end
section
set_option Elab.async false
set_option linter.all false
set_option maxRecDepth 100000
/-! FMB: the end, over contracts that may let something out. -/
namespace FL
open PySem PySem.Spec PyProof.Rows L2
theorem walk_ofW {l : PySem.W.OpenLaw} {n k : Nat} {q : Program} {loose : List Str} {XP : (Str → Option Value) → Heap → Prop} {YP : World → Heap → Prop} {d : DefRec} {CX : World → CXT} {x : Str}
    (hn : l.most = some n) (hn2 : n ≤ sizeLine) (hdf : d.params.defaults = []) (hr : Room k callerA)
    (F : ∀ (w : World) (mg : Str → Option Value) (fa : Addr) (h : Heap), YP w h → h.Ns mainGlobals mg → mg d.name = some (.ref fa) →
      ∃ (K : PySem.W.Frag) (fd : FuncData) (sp : Sp), K.In h ∧ (∀ (s : Shared) (u : Value), BindsTo s fd ⟨[u], []⟩ [(x, u)]) ∧
        (∀ (H : Hp) (a : Addr) (ns : List Int), ns.length ≤ n → Only H → SqL K H a (ns.map V.int) → sp [.ref a] H (fun v _ => v = .bl true) fun _ _ _ => False) ∧
        ∀ base : Heap, K.In base → base.Ns mainGlobals mg → FnOk l.prog w K mg base (CX w) k fa fd [x] sp)
    (hCX : ∀ (w : World) (H : Hp) (s : Shared) (e : Value) (s' : Shared), CX w [] H s (fun _ _ _ => False) e s' → False) :
    PySem.W.WalkO q loose XP YP l.row.toRowW d [] (fun f vs => PySem.call f vs) := by
  refine Att.attach_call hn hdf fun w s₀ s₁ mg mb fa o pm cd doc a vs ns G Y ho hd hcd hmg hobj hints hlen hg => ?_
  obtain ⟨K, fd, sp, KX, hb, hsp, hF⟩ := F w mg fa _ Y G.T.g hmg
  exact law_call KX G.T.g G.T.b G.T.builtins G.T.nolimit hg hobj hints (Nat.le_trans hlen hn2) hr hF hb (fun H hO hS => hsp H a ns hlen hO hS) fun H e s' => hCX w H s₁ e s'
theorem cx_end (P : Program) (w : World) (H : Hp) (s : Shared) (e : Value) (s' : Shared) (h : L2.CX P w [] H s (fun _ _ _ => False) e s') : False := by
  obtain ⟨_, _, _, _, _, _, _, _, _, _, _, _, z⟩ := h
  exact z
theorem sc_den {K : PySem.W.Frag} {P : Program} {w : World} {H : Hp} {a : Addr} {ns : List Int} (hO : Only H) (hS : SqL K H a (ns.map V.int)) : Den ⟨P, w, K⟩ ⟨H, [], [], []⟩ (.ref a) (.scr ns) := by
  have nm : ¬ Mu ⟨H, [], [], []⟩ a := by
    rintro (m | ⟨n, c, h, _⟩)
    · exact nomatch m
    · simp at h
  rcases hS with (h | ⟨o, h⟩) | h
  · rcases hO a with e | ⟨o, xs, e⟩
    · rw [h] at e; cases e
    · rw [h] at e; cases e
  · exact .scr h nm
  · exact .scrK h
theorem law_sp {K : PySem.W.Frag} {P : Program} {w : World} {F : List D → Store → Res D} {H : Hp} {a : Addr} {ns : List Int} (hO : Only H) (hS : SqL K H a (ns.map V.int)) (h : ∃ st, F [.scr ns] [] = .ok (.bl true) st) :
    spF ⟨P, w, K⟩ F [.ref a] H (fun v _ => v = .bl true) fun _ _ _ => False := by
  obtain ⟨st, e⟩ := h
  refine ⟨⟨H, [], [], []⟩, [.scr ns], rfl, ⟨rfl, List.nodup_nil, (fun _ h => nomatch h), (fun _ h => nomatch h), (fun n a c h => by simp at h)⟩, .cons (sc_den hO hS) .nil, ?_⟩
  rw [e]
  exact fun W' _ _ _ v hv => hv.bl_inv
/-- the law from its contract -/
theorem law_at {P : Program} {w : World} {K : PySem.W.Frag} {mg : Str → Option Value} {h : Heap} {fa : Addr} {k n : Nat} {x : Str} {F : List D → Store → Res D} {d : He.DefD} (KX : K.In h) (hmg : mg ("law" : Str) = some (.ref fa)) (hg : mg ("law" : Str) = some (.ref (He.ga K "law")))
    (hat : d.at_ = (("law" : Str), none)) (h0 : d.dfl = []) (hF : ∃ fd, FunD K d.name d.qual d.params d.body d.scope (d.dvs K) (d.kws K) (He.fAd K d.at_) fd)
    (hbind : ∀ (kV doc pm : Value) (an : Option Addr) (cdv ct : Value) (us : List Value), us.length = [x].length → bindArgs (PySem.W.fnOf d.name d.qual d.params d.body d.scope .none kV doc pm an cdv ct) ⟨us, []⟩ = pure ([x].zip us))
    (ok : ∀ base : Heap, FOk P w K mg base ("law", none) k [x] F) (hL : ∀ ns : List Int, ns.length ≤ n → ∃ st, F [.scr ns] [] = .ok (.bl true) st) :
    ∃ (K : PySem.W.Frag) (fd : FuncData) (sp : Sp), K.In h ∧ (∀ (s : Shared) (u : Value), BindsTo s fd ⟨[u], []⟩ [(x, u)]) ∧
      (∀ (H : Hp) (a : Addr) (ns : List Int), ns.length ≤ n → Only H → SqL K H a (ns.map V.int) → sp [.ref a] H (fun v _ => v = .bl true) fun _ _ _ => False) ∧
      ∀ base : Heap, K.In base → base.Ns mainGlobals mg → FnOk P w K mg base (L2.CX P w) k fa fd [x] sp := by
  have e : fa = He.ga K "law" := by
    rw [hmg] at hg
    injection hg with h3
    injection h3
  subst e
  obtain ⟨fd, F0⟩ := hF
  rw [hat] at F0
  have F' : FunD K d.name d.qual d.params d.body d.scope [] (d.kws K) (He.fAd K (("law" : Str), none)) fd := by
    have e : d.dvs K = [] := by unfold He.DefD.dvs; rw [h0]; rfl
    rw [← e]; exact F0
  refine ⟨K, fd, spF ⟨P, w, K⟩ F, KX, fun s u => F'.bindsA hbind s [u] rfl, fun H a ns hl hO hS => law_sp hO hS (hL ns hl), fun base _ _ => ?_⟩
  obtain ⟨fd', G, _, _, h4⟩ := ok base
  have e := h4.eq (fd_at F0)
  subst e
  exact G
end FL
end
section
set_option Elab.async false
set_option linter.all false
set_option maxRecDepth 100000
/-! FMC: the combinators, as rules for simp. -/
namespace FL
open PySem PySem.Spec PyProof.Rows L2
section
variable {α β : Type} {a : α} {st st1 : Store} {e : En} {x y : D} {m n : Me} {t u : Mt} {ms mr : Ms} {ma : Ma} {i : Nat} {d : D} {ds : List D} {x' : Exn}
@[simp] theorem bind_ok {k : α → Store → Res β} : (Res.ok a st).bind k = k a st := (rfl)
@[simp] theorem bindN_ok {k : α → Store → Res β} : (Res.ok a st).bindN k = k a st := (rfl)
@[simp] theorem fl_ok {k : D → Store → Fl} : (Res.ok d st).fl e k = k d st := (rfl)
@[simp] theorem flB_ok {k : α → Store → Fl} : (Res.ok a st).flB e k = k a st := (rfl)
@[simp] theorem nx_bind {k : En → Store → Fl} : (Fl.nx e st).bind k = k e st := (rfl)
@[simp] theorem rt_bind {k : En → Store → Fl} : (Fl.rt d st).bind k = Fl.rt d st := (rfl)
@[simp] theorem only_nx : (Fl.nx e st).only = .nx e st := (rfl)
@[simp] theorem mPass_e : mPass e st = .nx e st := (rfl)
@[simp] theorem mSeq_e : mSeq ms mr e st = (ms e st).bind mr := (rfl)
@[simp] theorem mSet_e : mSet i m e st = (m e st).fl e fun d st1 => .nx (e.set i (some d)) st1 := (rfl)
@[simp] theorem mExpr_e : mExpr m e st = (m e st).fl e fun _ st1 => .nx e st1 := (rfl)
@[simp] theorem mRet_e : mRet m e st = (m e st).fl e fun d st1 => .rt d st1 := (rfl)
@[simp] theorem mRetN_e : mRetN e st = .rt .non st := (rfl)
@[simp] theorem mIfS_e : mIfS t ms mr e st = (t e st).flB e fun c st1 => if c = true then ms e st1 else mr e st1 := (rfl)
@[simp] theorem mAsgO_e {k : Mg} : mAsgO m k e st = (m e st).fl e fun d st1 => (k d e st1).only := (rfl)
@[simp] theorem gN_e : gN i d e st = .nx (e.set i (some d)) st := (rfl)
@[simp] theorem gNl_e : gNl [] e st = .nx e st := (rfl)
@[simp] theorem gCo_e {k : Mg} {r : Mgs} : gCo k r (d :: ds) e st = (k d e st).bind fun e1 st1 => r ds e1 st1 := (rfl)
@[simp] theorem gTp_e {r : Mgs} {k : Nat} : gTp k r (.tup ds) e st = if ds.length = k then r ds e st else .no := (rfl)
@[simp] theorem gIx_e : gIx m n d e st = (m e st).fl e fun o st1 => (n e st1).fl e fun i st2 => stL o i d e st2 := (rfl)
@[simp] theorem mFor_e {mi : Mi} {k : Mg} : mFor mi k ms e st = (mi e st).flB e fun xs st1 => foL k ms xs e st1 := (rfl)
@[simp] theorem aC_e : aC d e st = .ok d st := (rfl)
@[simp] theorem a1_e {k : D → Store → Res α} : a1 k m e st = (m e st).bind k := (rfl)
@[simp] theorem a2_e {k : D → D → Store → Res α} : a2 k m n e st = (m e st).bind fun x st1 => (n e st1).bind fun y st2 => k x y st2 := (rfl)
@[simp] theorem aL_e {k : List D → Store → Res α} : aL k ma e st = (ma e st).bind k := (rfl)
@[simp] theorem on1_e {k : D → Store → Res D} : on1 k [d] st = k d st := (rfl)
@[simp] theorem mNil_e : mNil e st = .ok [] st := (rfl)
@[simp] theorem mCons_e : mCons m ma e st = (m e st).bind fun d st1 => (ma e st1).bind fun ds st2 => .ok (d :: ds) st2 := (rfl)
@[simp] theorem mStar_e : mStar m ma e st = (m e st).bind fun d st1 => match sqOf d st1 with
  | some xs => (ma e st1).bind fun ds st2 => .ok (xs ++ ds) st2
  | none => .no := (rfl)
@[simp] theorem toB_e {b : Bool} : toB (.bl b) st = .ok b st := (rfl)
@[simp] theorem tB_e : tB m e st = (m e st).bind toB := (rfl)
@[simp] theorem tAn_e : tAn t u e st = (t e st).bind fun b st1 => if b = true then u e st1 else .ok false st1 := (rfl)
@[simp] theorem tO_e : tO t u e st = (t e st).bind fun b st1 => if b = true then .ok true st1 else u e st1 := (rfl)
@[simp] theorem tN_e : tN t e st = (t e st).bind fun b st1 => .ok (!b) st1 := (rfl)
@[simp] theorem mAn_e : mAn m n e st = (tB m e st).bind fun b st1 => if b = true then n e st1 else .ok (.bl false) st1 := (rfl)
@[simp] theorem mO_e : mO m n e st = (tB m e st).bind fun b st1 => if b = true then .ok (.bl true) st1 else n e st1 := (rfl)
@[simp] theorem mN_e : mN m e st = (tB m e st).bind fun b st1 => .ok (.bl (!b)) st1 := (rfl)
@[simp] theorem mIf_e : mIf t m n e st = (t e st).bind fun b st1 => if b = true then m e st1 else n e st1 := (rfl)
@[simp] theorem mSl_e {l h : Mo} : mSl m l h e st = (m e st).bind fun d st1 => (l e st1).bind fun lo st2 => (h e st2).bind fun hi st3 => oSl d lo hi st3 := (rfl)
@[simp] theorem oNone_e : oNone e st = .ok none st := (rfl)
@[simp] theorem toI_e {k : Int} : toI (.int k) st = .ok (some k) st := (rfl)
@[simp] theorem mBm_e {ty : D → Store → Bool} {k : D → List D → Store → Res D} : mBm ty k m ma e st = (m e st).bind fun d st1 => if ty d st1 = true then (ma e st1).bind fun ds st2 => k d ds st2 else .no := (rfl)
@[simp] theorem mMake_e {fr : Bool} {c : S} {F : List D → Store → Res D} : mMake fr c F ma e st = (ma e st).bind fun ds st1 => (F (.ref st1.length :: ds) (st1 ++ [.ins c []])).bind fun r st2 => match r with
  | .non => if fr = true then fz (.ref st1.length) st2 else .ok (.ref st1.length) st2
  | _ => .no := (rfl)
@[simp] theorem mFld_e {c f : S} : mFld c f n m e st = (m e st).fl e fun v st1 => (n e st1).fl e fun o st2 => stF c f o v e st2 := (rfl)
theorem aVar_e {i : Nat} {d : D} (h : e[i]? = some (some d)) : aVar i e st = .ok d st := by unfold aVar; rw [h]
@[simp] theorem aVar_0 {r : En} : aVar 0 (some d :: r) st = .ok d st := (rfl)
@[simp] theorem aVar_s {o : Option D} {r : En} : aVar (i + 1) (o :: r) st = aVar i r st := by simp [aVar]
@[simp] theorem iR1_e : iR1 ma e st = (ma e st).bind fun ds st1 => match ds with
  | [.int j] => if -(2 ^ 62) ≤ j ∧ j < 2 ^ 62 then .ok (rgD 0 j.toNat) st1 else .no
  | _ => .no := (rfl)
@[simp] theorem iR2_e : iR2 ma e st = (ma e st).bind fun ds st1 => match ds with
  | [.int i, .int j] => if -(2 ^ 62) ≤ i ∧ i < 2 ^ 62 ∧ -(2 ^ 62) ≤ j ∧ j < 2 ^ 62 then .ok (rgD i (j - i).toNat) st1 else .no
  | _ => .no := (rfl)
@[simp] theorem iSq_e : iSq m e st = (m e st).bind fun d st1 => match d with
  | .tup xs => .ok xs st1
  | .lst xs => .ok xs st1
  | _ => .no := (rfl)
@[simp] theorem iScr_e : iScr m e st = (m e st).bind fun d st1 => match d with
  | .scr ns => .ok (ns.map .int) st1
  | _ => .no := (rfl)
theorem iZp_e : iZp ma e st = (ma e st).bind fun ds st1 => match ds with
  | [d, d2] => match fzOf d, fzOf d2 with
    | some xs, some ys => .ok (zpD xs ys) st1
    | _, _ => .no
  | _ => .no := (rfl)
theorem iEn_e : iEn ma e st = (ma e st).bind fun ds st1 => match ds with
  | [d] => match fzOf d with
    | some xs => .ok (enD 0 xs) st1
    | none => .no
  | _ => .no := (rfl)
@[simp] theorem mLc_e {vs : List Nat} {mi : Mi} {k : Mg} : mLc vs mi k t m e st = (mi e st).bind fun xs st1 => (lcL k t m (wipeE e vs) xs st1 []).bind fun ys st2 => .ok (.lst ys) st2 := (rfl)
@[simp] theorem tYe_e : tYe e st = .ok true st := (rfl)
@[simp] theorem foL_nil {k : Mg} : foL k ms [] e st = .nx e st := (rfl)
theorem foL_cons {k : Mg} {xs : List D} : foL k ms (x :: xs) e st = match (k x e st).only with
    | .nx e1 st1 => (match ms e1 st1 with
      | .nx e2 st2 => foL k ms xs e2 st2
      | .ct e2 st2 => foL k ms xs e2 st2
      | .bk e2 st2 => .nx e2 st2
      | r => r)
    | r => r := (rfl)
@[simp] theorem lcL_nil {k : Mg} {acc : List D} : lcL k t m e [] st acc = .ok acc st := (rfl)
/-! operators -/
@[simp] theorem oAdd_int {i j : Int} : oAdd (.int i) (.int j) st = .ok (.int (i + j)) st := (rfl)
@[simp] theorem oAdd_str {a b : S} : oAdd (.str a) (.str b) st = if a.length + b.length ≤ BIG then .ok (.str (a ++ b)) st else .no := (rfl)
@[simp] theorem oAdd_tup {a b : List D} : oAdd (.tup a) (.tup b) st = if a.length + b.length ≤ BIG then .ok (.tup (a ++ b)) st else .no := (rfl)
@[simp] theorem oAdd_lst {a b : List D} : oAdd (.lst a) (.lst b) st = if a.length + b.length ≤ BIG then .ok (.lst (a ++ b)) st else .no := (rfl)
@[simp] theorem oSub_int {i j : Int} : oSub (.int i) (.int j) st = .ok (.int (i - j)) st := (rfl)
@[simp] theorem oMod_int {i j : Int} (h : 0 < j) : oMod (.int i) (.int j) st = .ok (.int (i % j)) st := by simp [oMod, oI, h]
@[simp] theorem oDiv_int {i j : Int} (h : 0 < j) (h2 : j < 1073741824) : oDiv (.int i) (.int j) st = .ok (.int (i / j)) st := by simp [oDiv, oI, h, h2]
@[simp] theorem oLt_int {i j : Int} : oLt (.int i) (.int j) st = .ok (.bl (decide (i < j))) st := (rfl)
@[simp] theorem oLe_int {i j : Int} : oLe (.int i) (.int j) st = .ok (.bl (decide (i ≤ j))) st := (rfl)
@[simp] theorem oGt_int {i j : Int} : oGt (.int i) (.int j) st = .ok (.bl (decide (j < i))) st := (rfl)
@[simp] theorem oGe_int {i j : Int} : oGe (.int i) (.int j) st = .ok (.bl (decide (j ≤ i))) st := (rfl)
@[simp] theorem oInt_int {i : Int} : oInt (.int i) st = .ok (.int i) st := (rfl)
@[simp] theorem oAbs_int {i : Int} : oAbs (.int i) st = .ok (.int (if i < 0 then -i else i)) st := (rfl)
theorem oMu_int {c : Bool} {i j : Int} (h : -(2 ^ 64) < j ∧ j < 2 ^ 64) : oMu c (.int i) (.int j) st = .ok (.int (i * j)) st := by simp only [oMu]; rw [if_pos (.inr h)]
@[simp] theorem oEq_int {i j : Int} : oEq (.int i) (.int j) st = .ok (.bl (i == j)) st := by simp [oEq, rdl, D.sh, D.eqv]
@[simp] theorem oEq_str {i j : S} : oEq (.str i) (.str j) st = .ok (.bl (decide (i = j))) st := by simp [oEq, rdl, D.sh, D.eqv]
@[simp] theorem oNe_str {i j : S} : oNe (.str i) (.str j) st = .ok (.bl (!decide (i = j))) st := by simp [oNe, rdl, D.sh, D.eqv]
@[simp] theorem oNe_int {i j : Int} : oNe (.int i) (.int j) st = .ok (.bl (!(i == j))) st := by simp [oNe, rdl, D.sh, D.eqv]
end
/-! ### what a def gives back -/
theorem mkF_rt {keep : Bool} {n N : Nat} {b : Ms} {ds : List D} {st st' : Store} {d : D} (hn : ds.length = n) (h : b (ds.map some ++ List.replicate (N - n) none) st = .rt d st') (hl : st'.length = st.length) : mkF keep n N b ds st = .ok d st' := by
  unfold mkF
  rw [if_pos hn, h]
  unfold finF popR
  cases keep <;> simp [hl]
theorem mkF_nx {keep : Bool} {n N : Nat} {b : Ms} {ds : List D} {st st' : Store} {e' : En} (hn : ds.length = n) (h : b (ds.map some ++ List.replicate (N - n) none) st = .nx e' st') (hl : st'.length = st.length) : mkF keep n N b ds st = .ok .non st' := by
  unfold mkF
  rw [if_pos hn, h]
  unfold finF popR
  cases keep <;> simp [hl]
theorem mkF_keep {n N : Nat} {b : Ms} {ds : List D} {st st' : Store} {d : D} (hn : ds.length = n) (h : b (ds.map some ++ List.replicate (N - n) none) st = .rt d st') : mkF true n N b ds st = .ok d st' := by
  unfold mkF
  rw [if_pos hn, h]
  rfl
/-- .. with cells of its own dropped -/
theorem mkF_pop {n N : Nat} {b : Ms} {ds : List D} {st st' : Store} {d : D} (hn : ds.length = n) (h : b (ds.map some ++ List.replicate (N - n) none) st = .rt d st') (hd : d.low st.length = true) (hs : (st'.take st.length).all (Cell.low st.length) = true) :
    mkF false n N b ds st = .ok d (if st'.length = st.length then st' else st'.take st.length) := by
  unfold mkF
  rw [if_pos hn, h]
  unfold finF popR
  by_cases e : st'.length = st.length
  · simp [e]
  · simp [e, hd]
    exact fun a b => List.all_eq_true.mp hs a b
/-! ### items -/
section
variable {α : Type} {st rest : Store} {xs ys : List D} {x0 x1 x2 x3 x4 x5 x6 x7 v : D} {e : En} {k : Int} {n : Nat}
theorem ixN_nat {n k : Nat} (h : k < n) : ixN n (k : Int) = some k := by unfold ixN; rw [if_pos (by omega), if_pos (by omega)]; simp
theorem oAt_nat {k : Nat} {d : D} (h : xs[k]? = some d) : oAt xs (k : Int) st = .ok d st := by
  have hk : k < xs.length := (List.getElem?_eq_some_iff.mp h).1
  unfold oAt atI
  rw [ixN_nat hk]
  simp only [Option.bind_some, h]
@[simp] theorem oAt_0 : oAt (x0 :: xs) 0 st = .ok x0 st := oAt_nat (k := 0) rfl
@[simp] theorem oAt_1 : oAt (x0 :: x1 :: xs) 1 st = .ok x1 st := oAt_nat (k := 1) rfl
@[simp] theorem oAt_2 : oAt (x0 :: x1 :: x2 :: xs) 2 st = .ok x2 st := oAt_nat (k := 2) rfl
@[simp] theorem oAt_3 : oAt (x0 :: x1 :: x2 :: x3 :: xs) 3 st = .ok x3 st := oAt_nat (k := 3) rfl
@[simp] theorem oAt_4 : oAt (x0 :: x1 :: x2 :: x3 :: x4 :: xs) 4 st = .ok x4 st := oAt_nat (k := 4) rfl
@[simp] theorem oAt_5 : oAt (x0 :: x1 :: x2 :: x3 :: x4 :: x5 :: xs) 5 st = .ok x5 st := oAt_nat (k := 5) rfl
@[simp] theorem oAt_6 : oAt (x0 :: x1 :: x2 :: x3 :: x4 :: x5 :: x6 :: xs) 6 st = .ok x6 st := oAt_nat (k := 6) rfl
@[simp] theorem oAt_7 : oAt (x0 :: x1 :: x2 :: x3 :: x4 :: x5 :: x6 :: x7 :: xs) 7 st = .ok x7 st := oAt_nat (k := 7) rfl
@[simp] theorem oIx_tup : oIx (.tup xs) (.int k) st = oAt xs k st := (rfl)
@[simp] theorem oIx_lst : oIx (.lst xs) (.int k) st = oAt xs k st := (rfl)
@[simp] theorem oIx_h0 : oIx (.ref 0) (.int k) (.lst xs :: rest) = oAt xs k (.lst xs :: rest) := (rfl)
theorem oIx_ref (h : st[n]? = some (.lst xs)) : oIx (.ref n) (.int k) st = oAt xs k st := by simp [oIx, onSq, sqOf, lsOf, h]
@[simp] theorem oLen_tup : oLen (.tup xs) st = .ok (.int xs.length) st := (rfl)
@[simp] theorem oLen_lst : oLen (.lst xs) st = .ok (.int xs.length) st := (rfl)
@[simp] theorem oLen_str {s : S} : oLen (.str s) st = .ok (.int s.length) st := (rfl)
@[simp] theorem oLen_h0 : oLen (.ref 0) (.lst xs :: rest) = .ok (.int xs.length) (.lst xs :: rest) := (rfl)
@[simp] theorem tyL_h0 : tyL (.ref 0) (.lst xs :: rest) = true := (rfl)
@[simp] theorem tyS_s {s : S} : tyS (.str s) st = true := (rfl)
@[simp] theorem stL_0 : stL (.ref 0) (.int 0) v e (.lst (x0 :: xs) :: rest) = .nx e (.lst (v :: xs) :: rest) := by
  simp [stL, ixN]
@[simp] theorem stL_1 : stL (.ref 0) (.int 1) v e (.lst (x0 :: x1 :: xs) :: rest) = .nx e (.lst (x0 :: v :: xs) :: rest) := by
  have : ixN (x0 :: x1 :: xs).length 1 = some 1 := ixN_nat (k := 1) (by simp)
  simp only [stL, List.getElem?_cons_zero, this]
  rfl
theorem lPopAt_2 (h : xs.length ≤ 1000) : lPopAt (.ref 0) [.int 2] (.lst (x0 :: x1 :: x2 :: xs) :: rest) = .ok x2 (.lst (x0 :: x1 :: xs) :: rest) := by
  have e : ixN (x0 :: x1 :: x2 :: xs).length 2 = some 2 := ixN_nat (k := 2) (by simp)
  simp only [lPopAt, onC, List.getElem?_cons_zero, e]
  show (if (x0 :: x1 :: x2 :: xs).length ≤ BIG then _ else _) = _
  rw [if_pos (by have : BIG = 16777216 := rfl; simp; omega)]
  rfl
end
/-! ### comprehensions that touch nothing -/
theorem lcL_pure {k : Mg} {t : Mt} {m : Me} {e : En} {st : Store} (p : D → Bool) (f : D → D) : ∀ (xs acc : List D), (∀ x ∈ xs, ∃ e1, k x e st = .nx e1 st ∧ t e1 st = .ok (p x) st ∧ (p x = true → m e1 st = .ok (f x) st)) → acc.length + xs.length ≤ BIG →
    lcL k t m e xs st acc = .ok (acc ++ (xs.filter p).map f) st
  | [], acc, _, _ => by simp
  | x :: xs, acc, h, hl => by
    obtain ⟨e1, h1, h2, h3⟩ := h x (by simp)
    have ih := fun acc h' => lcL_pure p f xs acc (fun y hy => h y (List.mem_cons_of_mem _ hy)) h'
    simp only [List.length_cons] at hl
    unfold lcL
    rw [h1]
    simp only [h2, bindN_ok]
    cases q : p x with
    | true =>
      rw [if_pos rfl, h3 q, bindN_ok, if_pos (by omega), ih _ (by simp; omega)]
      simp [q]
    | false =>
      rw [if_neg Bool.false_ne_true, ih _ (by omega)]
      simp [q]
theorem lcL_map {k : Mg} {m : Me} {e : En} {st : Store} (f : D → D) (xs : List D) (h : ∀ x ∈ xs, ∃ e1, k x e st = .nx e1 st ∧ m e1 st = .ok (f x) st) (hl : xs.length ≤ BIG) : lcL k tYe m e xs st [] = .ok (xs.map f) st := by
  have := lcL_pure (k := k) (t := tYe) (m := m) (e := e) (st := st) (fun _ => true) f xs [] (fun x hx => by
    obtain ⟨e1, h1, h2⟩ := h x hx
    exact ⟨e1, h1, rfl, fun _ => h2⟩) (by simpa using hl)
  rw [this, List.filter_eq_self.mpr (fun _ _ => rfl)]; rfl
@[simp] theorem le_big {n : Nat} : (n ≤ BIG) = (n ≤ 16777216) := (rfl)
@[simp] theorem oLst_e {ds : List D} {st : Store} (h : ds.length ≤ 16777216) : oLst ds st = .ok (.lst ds) st := if_pos h
@[simp] theorem oTup_e {ds : List D} {st : Store} (h : ds.length ≤ 16777216) : oTup ds st = .ok (.tup ds) st := if_pos h
theorem oCat_t {a b : List D} {st : Store} (h : a.length + b.length ≤ 16777216) : oCat true (.lst a) (.lst b) st = .ok (.ref st.length) (st ++ [.lst (a ++ b)]) := by
  show (if a.length + b.length ≤ BIG then _ else _) = _
  rw [if_pos h]; rfl
theorem iZp_ok {ma : Ma} {e : En} {st st' : Store} {d d2 : D} {xs ys : List D} (h : ma e st = .ok [d, d2] st') (h1 : fzOf d = some xs) (h2 : fzOf d2 = some ys) : iZp ma e st = .ok (zpD xs ys) st' := by
  unfold iZp
  rw [h]
  simp only [bind_ok, h1, h2]
theorem iEn_ok {ma : Ma} {e : En} {st st' : Store} {d : D} {xs : List D} (h : ma e st = .ok [d] st') (h1 : fzOf d = some xs) : iEn ma e st = .ok (enD 0 xs) st' := by
  unfold iEn
  rw [h]
  simp only [bind_ok, h1]
end FL
end
section
set_option Elab.async false
set_option linter.all false
set_option maxRecDepth 100000
/-! FMD: the __init__ of an own exception, with super(). -/
namespace FL
open PySem PySem.Spec PyProof.Rows L2 NdefX
/-- a def of the top's part that captured cells of the top's part -/
theorem fn_ofC {CX : CXT} {P : Program} {w : World} {K : PySem.W.Frag} {mg : Str → Option Value} {base : Heap} {k : Nat} {f c0 : Addr} {F : NF} {dV kV doc pm ct oc : Value} {an od : Option Addr}
    {osl : Array (Option Value)} {N ps fr : List Str} {sp : Sp} {ws : List (Option V)} (lk : K.lookup f = some ⟨oc, od, .func (PySem.W.fnX F.name F.qual F.params F.body F.scope F.cl dV kV doc pm an (.ref F.c) ct), osl⟩)
    (hcd : PySem.W.codeIn K (.ref F.c) F.qual = true) (S : NScope N ps fr F.scope)
    (hC : ∀ (h : Heap) (H : Hp), (∀ b o, base.get? b = some o → h.get? b = some o ∧ H b = none) → CellsAt F.cl fr ws h H)
    (len : ∀ vs H Q E, sp vs H Q E → vs.length = ps.length)
    (hbody : ∀ (A : Around) (outer : List Env) (s : Shared) (H : Hp) (vs : List V) (Q : VK) (E : XK), Room k (A.deeper (envF F f s.heap.objs.size)) → sp vs H Q E →
      ∃ t, PSs (ncx CX P w K mg base N F f A outer s H E) F.body t ∧ t { nx := fun _ H' => Q .non H', rt := Q } (startF N vs ws) H) :
    FnOk P w K mg base CX (k + 1) f (PySem.W.fnX F.name F.qual F.params F.body F.scope F.cl dV kV doc pm an (.ref F.c) ct) ps sp := by
  refine ⟨len, fun A outer s H args us vs Q E hr e0 hb r hsp => ?_⟩
  have hl := len _ _ _ _ hsp
  have KX : K.In s.heap := e0.mod.kin.keeps fun b o e => (e0.bs b o e).1
  have lim : s.heap.NoLimit := e0.mod.nolimit.keeps fun b o e => (e0.bs b o e).1
  have C := hC s.heap H e0.bs
  refine codeAny_call_function hr.depth (KX _ _ lk) rfl S.co S.gen rfl (PySem.W.codeRec_of KX hcd) (hb _ _ _ _ ?_)
  refine wpAny_newFunctionEnv S.nocell (fun ⟨n, _⟩ hy => S.par n (List.of_mem_zip hy).1) (fun h₁ hns hsb => ⟨lim.fresh _ hsb, ?_⟩) S.kind
  show codeAny _ _ (.func F.body (envF F f s.heap.objs.size)) _ _
  refine codeAny_func ?_
  have kp : ∀ b o, s.heap.get? b = some o → h₁.get? b = some o := fun b o e => hsb.extBut b o (Nat.ne_of_lt (Heap.lt_size e)) (Heap.get?_push_of_some _ e)
  obtain ⟨t, ht, hq⟩ := hbody A outer s H vs Q E (hr.deeper _) hsp
  have I : Inv (ncx CX P w K mg base N F f A outer s H E) [] (startF N vs ws) H { s with heap := h₁, toks := s.toks + (ps.zip us).length } := inv_startN S hr.hd e0 hl r C hns kp
  refine wpAny_mono (ht.run [] _ (startF N vs ws) H _ I hq) (fun fl s' hs => ?_) fun e s' hs => hs
  have fin : ∀ {σ' : L2.St} {H' : Hp} {v : V} {u : Value}, Inv (ncx CX P w K mg base N F f A outer s H E) [] σ' H' s' → L2.RelV v u → Q v H' → CE outer P w H s Q u s' :=
    fun {σ' H' v u} J rv q => ⟨v, H', J.os, J.bare, J.base, J.hok, rv, q⟩
  cases fl with
  | ret u =>
    obtain ⟨v, σ', H', J, rv, q⟩ := hs
    exact fin J rv q
  | next =>
    obtain ⟨σ', H', J, q⟩ := hs
    exact fin (v := V.non) (u := Value.none) J rfl q
  | brk =>
    obtain ⟨_, _, _, q⟩ := hs
    exact False.elim q
  | cont =>
    obtain ⟨_, _, _, q⟩ := hs
    exact False.elim q
/-- the one captured cell, written in the top's part, holds the class at C -/
theorem cells_cls {K : PySem.W.Frag} {base : Heap} {cl : List (Str × Addr)} {c0 C : Addr} {oc : Obj} (hk : K.In base) (hcl : cl = [(("__class__" : Str), c0)]) (lc : K.lookup c0 = some oc) (hd : oc.data = .cell (some (.ref C)))
    (h : Heap) (H : Hp) (bs : ∀ b o, base.get? b = some o → h.get? b = some o ∧ H b = none) : CellsAt cl [("__class__" : Str)] [some (.ref C)] h H := by
  subst hcl
  have hb := bs _ _ (hk _ _ lc)
  have lk1 : ∀ {y : Str} {c : Addr}, List.lookup y [(("__class__" : Str), c0)] = some c → y = "__class__" ∧ c = c0 := fun {y c} e => by
    rw [List.lookup_cons] at e
    by_cases hy : (y == ("__class__" : Str)) = true
    · rw [hy] at e
      exact ⟨by simpa using hy, (Option.some.inj e).symm⟩
    · rw [Bool.eq_false_iff.mpr hy] at e
      cases e
  refine ⟨rfl, fun y c e => ?_, fun x y c e1 e2 => ?_, fun i y e => ?_⟩
  · obtain ⟨_, rfl⟩ := lk1 e
    exact ⟨hb.2, _, oc, hb.1, hd⟩
  · rw [(lk1 e1).1, (lk1 e2).1]
  · match i, e with
    | 0, e =>
      have e' : (("__class__" : Str)) = y := Option.some.inj e
      subst e'
      refine ⟨c0, by simp [List.lookup], fun v hv => ?_⟩
      have e2 : (some (V.ref C)) = some v := Option.some.inj hv
      have e3 := Option.some.inj e2
      subst e3
      exact ⟨.ref C, rfl, oc, hb.1, hd⟩
    | n + 1, e => cases e

/-- the built-in __init__, bound to an exception that is being made, called -/
theorem call_mw {X : Cx} {pins : List (Addr × Obj)} {σ : L2.St} {H : Hp} {s : Shared} {u e C : Addr} {rest : List Value} {Q : Value → Shared → Prop} {E : Value → Shared → Prop} {A : Around} (T : OexC X.K C) (I : Inv X pins σ H s)
    (he : H e = some (exo e C none)) (hu : s.heap.get? u = some (PySem.W.kxs_mw "ValueError.__init__" e)) (hz : rest.length ≤ sizeLine) (h : ∀ s', Inv X pins σ H s' → Q .none s') :
    wpAny (model X.prog X.w) A (call (.ref u) rest) Q E s := by
  obtain ⟨nm, q, N, bs, bm, sn, sub, ab, col, dd, k0, k1, k2, k3, k5, hC, hbm⟩ := T.cls
  obtain ⟨t1, ho⟩ := exo_at I.hok he
  have hCC := I.kIn _ _ hC
  have fin : ∀ (h' : Heap) (t2 : Addr), (∀ b o, b ≠ e → s.heap.get? b = some o → h'.get? b = some o) → h'.get? e = some ({ cls := .ref C, dict := none, data := .fields #[.ref t2, .none, .none, .none, .bool false, .none] } : Obj) → Q .none { s with heap := h' } := fun h' t2 k hx => by
    have J := I.write (t' := s.toks) (x := e) (e := e) (o := exo e C none) (by rw [he]; exact True.intro) (.inl rfl) k ⟨_, hx⟩ (exo_ok hx)
    have eu : upd H e (exo e C none) = H := by
      funext b
      by_cases hb : b = e
      · rw [hb, upd_same, he]
      · rw [upd_ne hb]
    rw [eu] at J
    exact h _ J
  obtain ⟨hh, g, d, tk, os⟩ := s
  refine wpAny_call (codeAny_of_tree ?_)
  show wpAny _ A.in1 (callAny (.ref u) ⟨rest, []⟩) _ _ _
  simp only [callAny]
  refine wpAny_bind (wpAny_load hu ?_)
  simp only [PySem.W.kxs_mw, show (Value.type "method-wrapper" == Value.type "method" || Value.type "method-wrapper" == Value.type "builtin_function_or_method" || Value.type "method-wrapper" == Value.type "method-wrapper") = true by decide, if_true]
  refine PySem.W.KFB.if_so (by decide) ?_
  refine wpAny_bind (PySem.W.check_bound_init F.excBase_ValueError.toExcCallFacts hCC ho rfl ?_)
  refine wpAny_bind (wpAny_pure (wpAny_pure ?_))
  refine ⟨PySem.plainId_quiet F.excBase_ValueError.init.plain _, codeAny_builtin F.excBase_ValueError.initEntry ?_⟩
  exact PySem.W.exc_init_tree (cls := .ref C) (t0 := t1) (dv := none) (c2 := .none) (c3 := .none) (b4 := .bool false) ho hz fun h' k e' _ => fin h' _ k e'
/-- super().__init__(text), the first statement of an own exception's __init__ -/
theorem sup_stmt {X : Cx} {pins : List (Addr × Obj)} {σ : L2.St} {H : Hp} {s : Shared} {E : Value → Shared → Prop} {body : List Stmt} {p0 p1 p2 p4 p5 p6 : Pos} {m : Str} {j : Nat} {f cda cc a C D : Addr} {fd : FuncData} {ar : Arg} {vs : Array Value} {file : Str} {tf : Tok} {oc ccl cl : Value} {od cdd cld : Option Addr} {osl ccs csl : Array (Option Value)} {cdD : ClassData}
    (I : Inv X pins σ H s) (T : OexC X.K C) (he : H a = some (exo a C none)) (hN : X.N[0]? = some ar.arg) (hσ : σ[0]? = some (some (.ref a)))
    (hfu : X.env.func = some f) (hf : X.K.lookup f = some ⟨oc, od, .func fd, osl⟩) (hp : (fd.params.posonlyargs ++ fd.params.args).head? = some ar)
    (hco : X.env.code = .ref cda) (hcode : X.K.lookup cda = some ⟨ccl, cdd, .fields vs, ccs⟩) (hvs : vs[2]? = some (.str file tf)) (hfile : ((X.prog.main.file : Str) == file) = true)
    (hcl : X.env.cells.lookup ("__class__" : Str) = some cc) (hcell : X.K.lookup cc = some ⟨cl, cld, .cell (some (.ref D)), csl⟩) (hD : PySem.W.clsIn X.K D = some cdD) (hsub : PySem.W.mroIn X.K C (.ref D) = some true)
    (hsuper : X.mg "super" = none) (hks : X.env.kindOf "super" = some .globalImplicit) (hkc : X.env.kindOf "__class__" = some .free) (hka : X.env.kindOf ar.arg = some .local) (hkv : X.env.scope.names.lookup ar.arg = some .local)
    (htop : (X.prog.main.scope.names.lookup ("super" : Str)).isSome = false) (hop : PySem.W.nsIn X.K cStatics "thirdparty.any" = some none)
    (hm : PySem.W.ks_superIn X.K C D "__init__" = some (some (.builtin "ValueError.__init__"))) (hB : PySem.W.subIn X.K (.ref C) (.type "ValueError") = some true)
    (hpn : X.base.get? a = none)
    (hi : interactive X.env = false := by rfl) (hsw : swapsWith (.Call (.Attribute (.Call (.Name "super" p0) [] [] p1) "__init__" p2) [.Constant (.str m) j p4] [] p5) none p6.line X.env = pure false := by rfl)
    {pl : Sem Bool} (heq : eval (.Call (.Attribute (.Call (.Name "super" p0) [] [] p1) "__init__" p2) [.Constant (.str m) j p4] [] p5) X.env = (do
      let ov ← attributeBase (.Call (.Name "super" p0) [] [] p1) "__init__" X.env (eval (.Call (.Name "super" p0) [] [] p1) X.env)
      standAt p2.atName
      let (f, first) ← holding [ov] (getMethod ov "__init__" pl)
      callWith p5 f first (backTo p5 (starEach [.Constant (.str m) j p4] X.env)) []) := by rfl)
    (hst : starEach [.Constant (.str m) j p4] X.env = [(false, eval (.Constant (.str m) j p4) X.env)] := by rfl) :
    _root_.PySem.wpAt (model X.prog X.w) X.A (.func body X.env) (exec (.Expr (.Call (.Attribute (.Call (.Name "super" p0) [] [] p1) "__init__" p2) [.Constant (.str m) j p4] [] p5) p6) X.env) (fun fl s' => fl = .next ∧ Inv X pins σ H s') E s := by
  have KX : X.K.In s.heap := I.kIn
  obtain ⟨t1, ho⟩ := exo_at I.hok he
  obtain ⟨mm, hns, hloc⟩ := I.loc
  obtain ⟨us, rus, lus⟩ := hloc 0 ar.arg (.ref a) hN hσ (.inl hkv)
  obtain rfl : us = Value.ref a := rus
  have hself : mm ar.arg = some (.ref a) := by
    rcases lus with ⟨_, e⟩ | ⟨e | e, _⟩
    · exact e
    · rw [hka] at e; cases e
    · rw [hka] at e; cases e
  obtain ⟨mb, hb1, hb2⟩ := I.mod.blt
  obtain ⟨oD, hD1, hD2⟩ : ∃ oD, s.heap.get? D = some oD ∧ oD.data = .cls cdD := by
    unfold PySem.W.clsIn at hD
    split at hD
    · rename_i c d cd' sl hoo
      cases hD
      exact ⟨_, KX _ _ hoo, rfl⟩
    · cases hD
  refine PySem.ks_wpAt_Expr_any ?_ hi hsw
  refine PySem.ks_wpAt_MethodCall ?_ heq
  refine PySem.ks_wpAt_super_base hks hkc (by decide) hfu (KX _ _ hf) rfl hp hco (KX _ _ hcode) rfl hvs hfile htop ?_
  refine PySem.W.ks_loadName_global I.ok.kind hks (Calls.loadGlobal_builtin (by rw [I.ok.glob]; exact I.mod.glob.keeps I.bk) hsuper (by rw [I.ok.blt]; exact hb1.keeps I.bk) ((hb2 _ (by decide)).trans PyProof.Rows.Boot.«super») ⟨rfl, ?_⟩)
  refine wpAny_loadName_free I.ok.kind hkc hcl ⟨_, KX _ _ hcell, rfl⟩ ?_
  refine wpAny_loadName_local I.ok.kind hka hns hself ?_
  refine PySem.ks_wpAny_isType_cls hD1 hD2 ⟨rfl, ?_⟩
  refine PySem.ks_wpAny_call_super hD1 hD2 ho rfl (fun c z => by cases z) (PySem.W.looks_mroIn KX hsub) (fun h1 e1 k1 => ?_)
  have I1 : Inv X pins σ H { s with heap := h1, toks := s.toks } := I.kept k1
  cases hc : PySem.W.clsIn X.K C with
  | none => unfold PySem.W.ks_superIn at hm; rw [hc] at hm; cases hm
  | some cd =>
    unfold PySem.W.ks_superIn at hm
    rw [hc] at hm
    have KX1 : X.K.In h1 := I1.kIn
    have hx1 := k1 _ _ ho
    have hne : a ≠ C := fun z => by
      obtain ⟨nm, q, N, bs, bm, sn, sub, ab, col, dd, k0, k1', k2, k3, k5, hC, hbm⟩ := T.cls
      have y := KX1 _ _ hC
      rw [← z, hx1] at y
      cases y
    have hI : PySem.W.Looks (model X.prog X.w) h1 (isInstance (.ref a) (.type "ValueError")) true :=
      (PySem.W.InstAt.type (C := C) (od := none) ⟨hx1, rfl, rfl, trivial⟩).andThen (PySem.W.looks_subIn KX1 hB)
    refine PySem.W.kxs_getMethod PySem.W.kxs_ValueError e1 (PySem.W.looks_opaque KX1 hop) (l₀ := cd.mro) (fun A Q E s k q => wpAny_bind ((PySem.W.looks_clsIn KX1 hc) A _ E s k (wpAny_pure q))) rfl KX1 hm hI hne (by decide) ?_
    have k2 : ∀ b o, h1.get? b = some o → (h1.push (PySem.W.kxs_mw "ValueError.__init__" a)).get? b = some o := fun b o e => Heap.get?_push_of_some _ e
    have I2 := I1.kept (t' := s.toks + 1) k2
    have hu : (h1.push (PySem.W.kxs_mw "ValueError.__init__" a)).get? h1.objs.size = some (PySem.W.kxs_mw "ValueError.__init__" a) := Heap.get?_push_at rfl rfl
    show wpAny _ _ (callWith p5 (.ref h1.objs.size) [] (backTo p5 (starEach [.Constant (.str m) j p4] X.env)) []) _ _ _
    have hsp : wpAny (model X.prog X.w) X.A (spliced (backTo p5 (starEach [.Constant (.str m) j p4] X.env))) (fun ws s' => (∃ h2 tk2, s' = { s with heap := h2, toks := tk2 } ∧ h2 = h1.push (PySem.W.kxs_mw "ValueError.__init__" a)) ∧ ∃ tk3, ws = [.str m tk3]) E { s with heap := h1.push (PySem.W.kxs_mw "ValueError.__init__" a), toks := s.toks + 1 } := by
      refine PyProof.Rows.spliced_more ?_
      refine Calls.Constant_str ?_
      refine PyProof.Rows.spliced_none ?_
      exact ⟨⟨_, _, rfl, rfl⟩, _, rfl⟩
    rw [hst] at hsp ⊢
    refine PySem.W.kxs_callWith (i := "ValueError.__init__") (x := a) (by rfl) (Calls.evalArgs_plain (wpAny_mono hsp (fun ws s' hs => ?_) fun _ _ z => z))
    obtain ⟨⟨h2, tk2, rfl, rfl⟩, tk3, rfl⟩ := hs
    refine ⟨hu, ?_⟩
    exact call_mw T (I1.kept (t' := tk2) k2) he hu (show 1 ≤ sizeLine by rw [sizeLine_eq]; omega) fun s' J => ⟨rfl, J⟩

/-- the __init__ of an own exception: super().__init__(text), then the rest -/
theorem fn_sup {CX : CXT} {P : Program} {w : World} {K : PySem.W.Frag} {mg : Str → Option Value} {base : Heap} {k : Nat} {f c0 D : Addr} {F : NF} {rest : List Stmt} {dV kV doc pm ct oc ccl cl : Value} {an od cdd cld : Option Addr}
    {osl ccs csl : Array (Option Value)} {N ps : List Str} {sp : Sp} {p0 p1 p2 p4 p5 p6 : Pos} {m : Str} {j : Nat} {ar : Arg} {vs : Array Value} {file : Str} {tf : Tok} {cdD : ClassData}
    (lk : K.lookup f = some ⟨oc, od, .func (PySem.W.fnX F.name F.qual F.params F.body F.scope F.cl dV kV doc pm an (.ref F.c) ct), osl⟩)
    (hcd : PySem.W.codeIn K (.ref F.c) F.qual = true) (S : NScope N ps [("__class__" : Str)] F.scope)
    (hb : F.body = .Expr (.Call (.Attribute (.Call (.Name "super" p0) [] [] p1) "__init__" p2) [.Constant (.str m) j p4] [] p5) p6 :: rest)
    (hcl : F.cl = [(("__class__" : Str), c0)]) (hcell : K.lookup c0 = some ⟨cl, cld, .cell (some (.ref D)), csl⟩) (hD : PySem.W.clsIn K D = some cdD)
    (hp : (F.params.posonlyargs ++ F.params.args).head? = some ar) (hN : N[0]? = some ar.arg) (hka : F.scope.names.lookup ar.arg = some .local) (hks : F.scope.names.lookup ("super" : Str) = some .globalImplicit)
    (hcode : K.lookup F.c = some ⟨ccl, cdd, .fields vs, ccs⟩) (hvs : vs[2]? = some (.str file tf)) (hfile : ((P.main.file : Str) == file) = true)
    (hsuper : mg "super" = none) (htop : (P.main.scope.names.lookup ("super" : Str)).isSome = false) (hop : PySem.W.nsIn K cStatics "thirdparty.any" = some none)
    (len : ∀ vs H Q E, sp vs H Q E → vs.length = ps.length)
    (hbody : ∀ (A : Around) (outer : List Env) (s : Shared) (H : Hp) (vs : List V) (Q : VK) (E : XK), Room k (A.deeper (envF F f s.heap.objs.size)) → sp vs H Q E →
      ∃ (a C : Addr) (ws : List V), vs = .ref a :: ws ∧ OexC K C ∧ H a = some (exo a C none) ∧ PySem.W.mroIn K C (.ref D) = some true ∧ PySem.W.ks_superIn K C D "__init__" = some (some (.builtin "ValueError.__init__")) ∧ PySem.W.subIn K (.ref C) (.type "ValueError") = some true ∧
      ∃ t, PSs (ncx CX P w K mg base N F f A outer s H E) rest t ∧ t { nx := fun _ H' => Q .non H', rt := Q } (startF N vs [some (.ref D)]) H)
    (heq : ∀ L : Addr, ∃ pl : Sem Bool, eval (.Call (.Attribute (.Call (.Name "super" p0) [] [] p1) "__init__" p2) [.Constant (.str m) j p4] [] p5) (envF F f L) = (do
      let ov ← attributeBase (.Call (.Name "super" p0) [] [] p1) "__init__" (envF F f L) (eval (.Call (.Name "super" p0) [] [] p1) (envF F f L))
      standAt p2.atName
      let (fv, first) ← holding [ov] (getMethod ov "__init__" pl)
      callWith p5 fv first (backTo p5 (starEach [.Constant (.str m) j p4] (envF F f L))) [])) :
    FnOk P w K mg base CX (k + 1) f (PySem.W.fnX F.name F.qual F.params F.body F.scope F.cl dV kV doc pm an (.ref F.c) ct) ps sp := by
  have hin : ∀ L, interactive (envF F f L) = false := fun L => by
    have hk := S.kind
    unfold interactive
    simp [envF, hk]
  refine ⟨len, fun A outer s H args us vs Q E hr e0 hbd r hsp => ?_⟩
  have hl := len _ _ _ _ hsp
  have KX : K.In s.heap := e0.mod.kin.keeps fun b o e => (e0.bs b o e).1
  have lim : s.heap.NoLimit := e0.mod.nolimit.keeps fun b o e => (e0.bs b o e).1
  have C := cells_cls (cl := F.cl) e0.mod.kin hcl hcell rfl s.heap H e0.bs
  refine PySem.ks_codeAny_call_defAt (fd := PySem.W.fnX F.name F.qual F.params F.body F.scope F.cl dV kV doc pm an (.ref F.c) ct) (body := F.body) (binds := ps.zip us) hr.depth (KX _ _ lk) rfl lim (PySem.W.codeRec_of KX hcd) rfl hbd S.nocell (fun ⟨n, _⟩ hy => S.par n (List.of_mem_zip hy).1) (fun h₁ hns kp => ?_) S.co S.gen S.kind
  obtain ⟨a, C0, ws, ev, T, ha, h1, h2, h3, t, ht, hq⟩ := hbody A outer s H vs Q E (hr.deeper _) hsp
  have I : Inv (ncx CX P w K mg base N F f A outer s H E) [] (startF N vs [some (.ref D)]) H { s with heap := h₁, toks := s.toks + (ps.zip us).length } := inv_startN S hr.hd e0 hl r C hns kp
  have hpn : base.get? a = none := by
    cases e : base.get? a with
    | none => rfl
    | some o =>
      have y := (e0.bs a o e).2
      rw [ha] at y
      cases y
  obtain ⟨pl, heq⟩ := heq s.heap.objs.size
  rw [hb]
  refine PySem.ks_wpAt_execs_cons ?_
  show _root_.PySem.wpAt (model P w) (ncx CX P w K mg base N F f A outer s H E).A (.func _ (ncx CX P w K mg base N F f A outer s H E).env) (exec _ (ncx CX P w K mg base N F f A outer s H E).env) _ _ _
  refine PySem.ks_wpAt_mono (sup_stmt (X := ncx CX P w K mg base N F f A outer s H E) (cc := c0) (D := D) (f := f) (cda := F.c) (a := a) (C := C0) I T ha hN (by rw [ev]; rfl) rfl lk hp rfl hcode hvs hfile
    (by show F.cl.lookup _ = _; rw [hcl]; rfl) hcell hD h1 hsuper hks (S.frk _ (by simp)) hka hka htop hop h2 h3 hpn (hin _) (heq := heq)) (fun fl s' hs => ?_) fun e s' he => he
  obtain ⟨rfl, J⟩ := hs
  refine wpAt_of_wpAny (wpAny_mono (ht.run [] _ (startF N vs [some (.ref D)]) H _ J hq) (fun fl s' hs => ?_) fun e s' hs => hs)
  have fin : ∀ {σ' : L2.St} {H' : Hp} {v : V} {u : Value}, Inv (ncx CX P w K mg base N F f A outer s H E) [] σ' H' s' → L2.RelV v u → Q v H' → CE outer P w H s Q u s' :=
    fun {σ' H' v u} J rv q => ⟨v, H', J.os, J.bare, J.base, J.hok, rv, q⟩
  cases fl with
  | ret u =>
    obtain ⟨v, σ', H', J, rv, q⟩ := hs
    exact fin J rv q
  | next =>
    obtain ⟨σ', H', J, q⟩ := hs
    exact fin (v := V.non) (u := Value.none) J rfl q
  | brk =>
    obtain ⟨_, _, _, q⟩ := hs
    exact False.elim q
  | cont =>
    obtain ⟨_, _, _, q⟩ := hs
    exact False.elim q
end FL
end
section
set_option Elab.async false
set_option linter.all false
set_option maxRecDepth 100000
/-! FME: making and raising own exceptions. -/
namespace FL
open PySem PySem.Spec PyProof.Rows L2 NdefX
/-- what an own exception's __init__ with the fields fl promises -/
def spI (C : Addr) (fl : List Str) : Sp := fun vs H Q E => ∃ (a : Addr) (us : List V), vs = .ref a :: us ∧ us.length = fl.length ∧ H a = some (exo a C none) ∧
  ∀ (d : Addr) (H2 : Hp), H d = none → d ≠ a → H2 a = some (exo a C (some d)) → H2 d = some (exd d (fl.zip us).reverse) → (∀ b, b ≠ a → b ≠ d → H2 b = H b) → Q .non H2
theorem spI_len {C : Addr} {fl ps : List Str} (h : ps.length = fl.length + 1) : ∀ vs H Q E, spI C fl vs H Q E → vs.length = ps.length := by
  rintro vs H Q E ⟨a, us, rfl, hl, _⟩
  rw [List.length_cons, hl, h]
section
variable {X : Cx} {C : Addr} {f1 f2 : Str} {σ : L2.St} {a : Addr} {y1 y2 : V} {H : Hp} {Q : VK} {E : XK}
theorem ini_read1 (T : OexC X.K C) (n1 : PySem.W.findIn X.K (.ref C) f1 = some none) (hp : spI C [f1] [.ref a, y1] H Q E) (h0 : σ[0]? = some (some (.ref a))) (h1 : σ[1]? = some (some y1)) :
    tOst X.K f1 (tVar 0) (tVar 1) { nx := fun _ H' => Q .non H', rt := Q } σ H := by
  obtain ⟨a', us, e, hl, ha, q⟩ := hp
  cases e
  refine ⟨y1, h1, .ref a, h0, a, C, rfl, T, n1, .inl ⟨ha, fun dx hd hda => ?_⟩⟩
  refine q dx _ hd hda (by rw [upd_same]) (by rw [upd_ne hda, upd_same]; rfl) fun b b1 b2 => by rw [upd_ne b1, upd_ne b2]
theorem ini_read2 (T : OexC X.K C) (n1 : PySem.W.findIn X.K (.ref C) f1 = some none) (n2 : PySem.W.findIn X.K (.ref C) f2 = some none) (hp : spI C [f1, f2] [.ref a, y1, y2] H Q E) (h0 : σ[0]? = some (some (.ref a))) (h1 : σ[1]? = some (some y1)) (h2 : σ[2]? = some (some y2)) :
    tSeq (tOst X.K f1 (tVar 0) (tVar 1)) (tOst X.K f2 (tVar 0) (tVar 2)) { nx := fun _ H' => Q .non H', rt := Q } σ H := by
  obtain ⟨a', us, e, hl, ha, q⟩ := hp
  cases e
  refine ⟨y1, h1, .ref a, h0, a, C, rfl, T, n1, .inl ⟨ha, fun dx hd hda => ?_⟩⟩
  refine ⟨y2, h2, .ref a, h0, a, C, rfl, T, n2, .inr ⟨dx, [(f1, y1)], by rw [upd_same], by rw [upd_ne hda, upd_same], (show 1 ≤ 900 by decide), ?_⟩⟩
  refine q dx _ hd hda (by rw [upd_ne (Ne.symm hda), upd_same]) (by rw [upd_same]; rfl) fun b b1 b2 => by rw [upd_ne b2, upd_ne b1, upd_ne b2]
end

/-! ### raise C(..) -/
def mRaise (c : S) (fl : List S) (ma : Ma) : Ms := fun e st => (ma e st).flB e fun ds st1 => if ds.length = fl.length then .exc (c, (fl.zip ds).reverse) e st1 else .no
theorem zip_fst {α β : Type} : ∀ {l : List α} {m : List β}, m.length = l.length → (l.zip m).map (·.1) = l
  | [], [], _ => rfl
  | a :: l, b :: m, h => by
    rw [List.zip_cons_cons, List.map_cons, zip_fst (by simpa using h)]
theorem zip_snd {α β : Type} : ∀ {l : List α} {m : List β}, m.length = l.length → (l.zip m).map (·.2) = m
  | [], [], _ => rfl
  | a :: l, b :: m, h => by
    rw [List.zip_cons_cons, List.map_cons, zip_snd (by simpa using h)]
theorem DenL.rev {g : Gc} {W : Wd} : ∀ {vs : List V} {ds : List D}, DenL g W vs ds → DenL g W vs.reverse ds.reverse
  | [], [], _ => .nil
  | v :: vs, d :: ds, .cons h r => by
    rw [List.reverse_cons, List.reverse_cons]
    exact (DenL.rev r).append (.cons h .nil)
theorem exd_of {g : Gc} {W : Wd} {c : S} {d : Addr} {fl : List S} {vs : List V} {ds : List D} (hd : W.H d = some (.xd ((fl.map toS).zip vs).reverse)) (hm : ¬ Mu W d) (l : DenL g W vs ds) (h1 : ds.length = fl.length) (h2 : fl ≠ []) :
    ExD g W (.ref (He.ga g.K (toS c))) (some d) (c, (fl.zip ds).reverse) := by
  have hv : vs.length = fl.length := by rw [l.length, h1]
  have e1 : (((fl.map toS).zip vs).reverse).map (·.1) = ((fl.zip ds).reverse).map (fun p => toS p.1) := by
    rw [List.map_reverse, zip_fst (by rw [List.length_map, hv]), List.map_reverse]
    have q : (fl.zip ds).map (fun p => toS p.1) = ((fl.zip ds).map (·.1)).map toS := by rw [List.map_map]; rfl
    rw [q, zip_fst h1]
  have e2 : DenL g W ((((fl.map toS).zip vs).reverse).map (·.2)) (((fl.zip ds).reverse).map (·.2)) := by
    rw [List.map_reverse, zip_snd (by rw [List.length_map, hv]), List.map_reverse, zip_snd h1]
    exact l.rev
  refine ⟨rfl, ?_⟩
  dsimp only
  cases hx : (fl.zip ds).reverse with
  | nil =>
    have q := congrArg List.length hx
    rw [List.length_reverse, List.length_zip, h1, Nat.min_self] at q
    exact absurd (List.length_eq_zero_iff.mp q) h2
  | cons p r =>
    rw [hx] at e1 e2
    exact ⟨d, _, rfl, hd, hm, e1, e2⟩
section
variable {X : Cx} {Wx : WX} {ma : Ma} {c : S} {fl : List S} {e : Expr} {pos : Pos}
theorem raise_read (h0 : fl ≠ []) (h9 : fl.length ≤ 1000) {D : Ends} {σ : L2.St} {H : Hp} (h : fS (gc X) Wx (mRaise c fl ma) D σ H) : tMkO (He.ga X.K (toS c)) (spI (He.ga X.K (toS c)) (fl.map toS)) [] (fA (gc X) Wx ma) σ H fun cls d H' => Wx cls d σ H' := by
  obtain ⟨W, env, rfl, s, r, p⟩ := h
  dsimp only [mRaise] at p
  refine ⟨W, env, rfl, s, r, ?_⟩
  cases q : ma env W.st with
  | no => rw [q] at p; exact p
  | exc x st1 => rw [q] at p; exact fun W1 e1 s1 hs => p W1 σ e1 s1 hs (r.mono e1)
  | ok ds st1 =>
    rw [q] at p
    intro W1 e1 s1 hs vs hv
    dsimp only [Res.flB] at p
    split at p
    · rename_i hn
      have hvl : vs.length = fl.length := by rw [DenL.length hv, hn]
      refine ⟨by rw [hvl]; exact h9, fun a ha => ⟨a, vs ++ [], rfl, by rw [List.append_nil, List.length_map, hvl], upd_same, fun d H2 hd hda q1 q2 q3 => ?_⟩⟩
      rw [List.append_nil] at q2
      have hd1 : W1.H d = none := by rw [upd_ne hda] at hd; exact hd
      refine ⟨rfl, d, _, q1, q2, hd1, ?_⟩
      have eH : upd (del H2 a) d (.xd ((fl.map toS).zip vs).reverse) = upd W1.H d (.xd ((fl.map toS).zip vs).reverse) := by
        funext b
        by_cases hb : b = d
        · rw [hb, upd_same, upd_same]
        · rw [upd_ne hb, upd_ne hb]
          by_cases hba : b = a
          · rw [hba, del_same, ha]
          · rw [del_ne hba, q3 b hba hb, upd_ne hba]
      rw [eH]
      obtain ⟨e2, s2, n2⟩ := s1.lay (o := .xd ((fl.map toS).zip vs).reverse) hd1
      exact p _ σ (e1.trans e2) s2 hs ((r.mono e1).mono e2) _ _ (exd_of upd_same n2 (hv.mono e2) hn h0)
    · exact p.elim
theorem s_raise (hc : X.calm = true) (tk : Takes X Wx) (h0 : fl ≠ []) (h9 : fl.length ≤ 1000) (he : PMk X e (tMkO (He.ga X.K (toS c)) (spI (He.ga X.K (toS c)) (fl.map toS)) [] (fA (gc X) Wx ma))) : PS X (.Raise (some e) none pos) (fS (gc X) Wx (mRaise c fl ma)) :=
  PS.imp (ps_raise hc tk he) fun D σ H h => raise_read h0 h9 h
end
end FL
end
section
set_option Elab.async false
set_option linter.all false
set_option maxRecDepth 100000
/-! FMF: contracts of own exceptions. -/
namespace FL
open PySem PySem.Spec PyProof.Rows L2 NdefX
/-- an own exception's class and its __init__ -/
def IOk (P : Program) (w : World) (K : PySem.W.Frag) (mg : Str → Option Value) (base : Heap) (c : S) (k : Nat) (fl : List S) : Prop :=
  ∃ (fI : Addr) (fd : FuncData) (ps : List Str), OexC K (He.ga K (toS c)) ∧ PySem.W.findIn K (.ref (He.ga K (toS c))) "__init__" = some (some (.ref fI)) ∧ PySem.W.typeIn K (.ref fI) = some (.type "function") ∧
    FnOk P w K mg base (L2.CX P w) k fI fd ps (spI (He.ga K (toS c)) (fl.map toS)) ∧ Binds K fd ps []
section
variable {X : Cx} {Wx : WX} {ml : Ma} {c : S} {fl : List S} {x : Str} {e : Expr} {es : List Expr} {p pos pos2 : Pos} {k j : Nat}
/-- raise C(e, ..) -/
theorem c_raise (G : IOk X.prog X.w X.K X.mg X.base c k fl) (hr : Room j X.A) (hj : k + 1 ≤ j) (hc : X.calm = true) (tk : Takes X Wx) (h0 : fl ≠ []) (h9 : fl.length ≤ 1000) (hg : Gl X x) (hm : X.mg x = some (.ref (He.ga X.K (toS c))))
    (ha : PA X (e :: es) (fA (gc X) Wx ml)) (hdb : (x == ("__debug__" : Str)) = false := by decide) (he : starEach (e :: es) X.env = (false, eval e X.env) :: starEach es X.env := by rfl) (hpl : (backTo pos (starEach es X.env)).any (·.1) = false := by rfl) :
    PS X (.Raise (some (.Call (.Name x p) (e :: es) [] pos)) none pos2) (fS (gc X) Wx (mRaise c fl ml)) := by
  obtain ⟨fI, fd, ps, T, iC, tI, F1, hb⟩ := G
  exact s_raise hc tk h0 h9 (pmk_oex T iC tI F1 (hr.mono hj) hb .nil (passes_call tk fun _ _ _ _ z => z.elim) hg hm ha hdb he hpl)
end
end FL
end
section
set_option Elab.async false
set_option linter.all false
set_option maxRecDepth 100000
/-! FMG: an own exception's __init__ as it stands behind the top. -/
namespace FL
open PySem PySem.Spec PyProof.Rows L2 NdefX
abbrev DefX.nf (d : DefX) (c0 cda : Addr) : NF := ⟨d.name, d.qual, d.params, d.body, d.scope, [(("__class__" : Str), c0)], cda⟩
structure SupAt (K : PySem.W.Frag) (P : Program) (d : DefX) (C fI : Addr) (fd : FuncData) (c0 cda : Addr) : Prop where
  ini : PySem.W.findIn K (.ref C) "__init__" = some (some (.ref fI))
  typ : PySem.W.typeIn K (.ref fI) = some (.type "function")
  fn : ∃ (oc : Value) (od : Option Addr) (osl : Array (Option Value)) (doc pm ct : Value) (an : Option Addr), fd = PySem.W.fnX d.name d.qual d.params d.body d.scope [(("__class__" : Str), c0)] .none .none doc pm an (.ref cda) ct ∧ K.lookup fI = some ⟨oc, od, .func fd, osl⟩
  code : PySem.W.codeIn K (.ref cda) d.qual = true
  cell : ∃ (cl : Value) (cld : Option Addr) (csl : Array (Option Value)), K.lookup c0 = some ⟨cl, cld, .cell (some (.ref C)), csl⟩
  cls : ∃ cdD, PySem.W.clsIn K C = some cdD
  file : ∃ (ccl : Value) (cdd : Option Addr) (ccs : Array (Option Value)) (vs : Array Value) (file : Str) (tf : Tok), K.lookup cda = some ⟨ccl, cdd, .fields vs, ccs⟩ ∧ vs[2]? = some (.str file tf) ∧ ((P.main.file : Str) == file) = true
  mro : PySem.W.mroIn K C (.ref C) = some true
  sup : PySem.W.ks_superIn K C C "__init__" = some (some (.builtin "ValueError.__init__"))
  sub : PySem.W.subIn K (.ref C) (.type "ValueError") = some true
  opq : PySem.W.nsIn K cStatics "thirdparty.any" = some none
  oex : OexC K C
section
variable {P : Program} {w : World} {K : PySem.W.Frag} {mg : Str → Option Value} {base : Heap} {d : DefX} {fI c0 cda : Addr} {fd : FuncData} {N ps : List Str} {rest : List Stmt} {fl : List S} {p0 p1 p2 p4 p5 p6 : Pos} {m : Str} {j : Nat} {ar : Arg} {k : Nat}
theorem iok_of (A : SupAt K P d (He.ga K (toS d.c)) fI fd c0 cda) (S : NScope N ps [("__class__" : Str)] d.scope)
    (hb : d.body = .Expr (.Call (.Attribute (.Call (.Name "super" p0) [] [] p1) "__init__" p2) [.Constant (.str m) j p4] [] p5) p6 :: rest)
    (hp : (d.params.posonlyargs ++ d.params.args).head? = some ar) (hN : N[0]? = some ar.arg) (hka : d.scope.names.lookup ar.arg = some .local) (hks : d.scope.names.lookup ("super" : Str) = some .globalImplicit)
    (hsuper : mg "super" = none) (htop : (P.main.scope.names.lookup ("super" : Str)).isSome = false) (hl : ps.length = fl.length + 1)
    (hbind : ∀ (doc pm : Value) (an : Option Addr) (ct : Value) (us : List Value), us.length = ps.length → bindArgs (PySem.W.fnX d.name d.qual d.params d.body d.scope [(("__class__" : Str), c0)] .none .none doc pm an (.ref cda) ct) ⟨us, []⟩ = pure (ps.zip us))
    (hrest : ∀ (X : Cx), X.K = K → X.N = N → X.env.scope = d.scope → ∃ t, PSs X rest t ∧ ∀ (vs : List V) (H : Hp) (Q : VK) (E : XK), spI (He.ga K (toS d.c)) (fl.map toS) vs H Q E → t { nx := fun _ H' => Q .non H', rt := Q } (startF N vs [some (.ref (He.ga K (toS d.c)))]) H)
    (heq : ∀ (c0 cda f L : Addr), ∃ pl : Sem Bool, eval (.Call (.Attribute (.Call (.Name "super" p0) [] [] p1) "__init__" p2) [.Constant (.str m) j p4] [] p5) (envF (d.nf c0 cda) f L) = (do
      let ov ← attributeBase (.Call (.Name "super" p0) [] [] p1) "__init__" (envF (d.nf c0 cda) f L) (eval (.Call (.Name "super" p0) [] [] p1) (envF (d.nf c0 cda) f L))
      standAt p2.atName
      let (fv, first) ← holding [ov] (getMethod ov "__init__" pl)
      callWith p5 fv first (backTo p5 (starEach [.Constant (.str m) j p4] (envF (d.nf c0 cda) f L))) [])) :
    IOk P w K mg base d.c (k + 1) fl := by
  obtain ⟨oc, od, osl, doc, pm, ct, an, rfl, lk⟩ := A.fn
  obtain ⟨cl, cld, csl, hcell⟩ := A.cell
  obtain ⟨cdD, hD⟩ := A.cls
  obtain ⟨ccl, cdd, ccs, vs, file, tf, hcode, hvs, hfile⟩ := A.file
  refine ⟨fI, _, ps, A.oex, A.ini, A.typ, fn_sup (F := d.nf c0 cda) lk A.code S hb rfl hcell hD hp hN hka hks hcode hvs hfile hsuper htop A.opq (spI_len (by rw [List.length_map, hl])) (fun A' outer s H vs Q E hr hsp => ?_) (fun L => heq c0 cda fI L), ?_⟩
  · obtain ⟨t, ht, hq⟩ := hrest (ncx (L2.CX P w) P w K mg base N (d.nf c0 cda) fI A' outer s H E) rfl rfl rfl
    have q := hq vs H Q E hsp
    obtain ⟨a, us, rfl, _, ha, _⟩ := id hsp
    exact ⟨a, _, us, rfl, A.oex, ha, A.mro, A.sup, A.sub, t, ht, q⟩
  · exact .all fun us h => hbind doc pm an ct us h
theorem rest_one {C : Addr} {f1 : S} {x1 : Str} {q1 q2 q3 q4 : Pos} (T : OexC K C) (n1 : PySem.W.findIn K (.ref C) (toS f1) = some none) (hN0 : N[0]? = some ("self" : Str)) (hN1 : N[1]? = some x1) (v0 : Vis d.scope "self") (v1 : Vis d.scope x1)
    (h1 : (x1 == ("__debug__" : Str)) = false) (h2 : (x1 == ("__classdict__" : Str)) = false) :
    ∀ (X : Cx), X.K = K → X.N = N → X.env.scope = d.scope → ∃ t, PSs X [.Assign [.Attribute (.Name "self" q1) (toS f1) q2] (.Name x1 q3) q4] t ∧ ∀ (vs : List V) (H : Hp) (Q : VK) (E : XK), spI C ([f1].map toS) vs H Q E → t { nx := fun _ H' => Q .non H', rt := Q } (startF N vs [some (.ref C)]) H := by
  rintro X rfl rfl hs
  refine ⟨_, pss_one (ps_ost (pe_var hN0 (by rw [hs]; exact v0)) (pe_var hN1 (by rw [hs]; exact v1) h1 h2)), fun vs H Q E hsp => ?_⟩
  obtain ⟨a, us, rfl, hl, ha, q⟩ := id hsp
  match us, hl with
  | [y], _ => exact ini_read1 T n1 hsp rfl rfl
theorem rest_two {C : Addr} {f1 f2 : S} {x1 x2 : Str} {q1 q2 q3 q4 r1 r2 r3 r4 : Pos} (T : OexC K C) (n1 : PySem.W.findIn K (.ref C) (toS f1) = some none) (n2 : PySem.W.findIn K (.ref C) (toS f2) = some none) (hN0 : N[0]? = some ("self" : Str)) (hN1 : N[1]? = some x1) (hN2 : N[2]? = some x2)
    (v0 : Vis d.scope "self") (v1 : Vis d.scope x1) (v2 : Vis d.scope x2) (h1 : (x1 == ("__debug__" : Str)) = false) (h2 : (x1 == ("__classdict__" : Str)) = false) (h3 : (x2 == ("__debug__" : Str)) = false) (h4 : (x2 == ("__classdict__" : Str)) = false) :
    ∀ (X : Cx), X.K = K → X.N = N → X.env.scope = d.scope → ∃ t, PSs X [.Assign [.Attribute (.Name "self" q1) (toS f1) q2] (.Name x1 q3) q4, .Assign [.Attribute (.Name "self" r1) (toS f2) r2] (.Name x2 r3) r4] t ∧
      ∀ (vs : List V) (H : Hp) (Q : VK) (E : XK), spI C ([f1, f2].map toS) vs H Q E → t { nx := fun _ H' => Q .non H', rt := Q } (startF N vs [some (.ref C)]) H := by
  rintro X rfl rfl hs
  refine ⟨_, pss_cons (ps_ost (pe_var hN0 (by rw [hs]; exact v0)) (pe_var hN1 (by rw [hs]; exact v1) h1 h2)) (pss_one (ps_ost (pe_var hN0 (by rw [hs]; exact v0)) (pe_var hN2 (by rw [hs]; exact v2) h3 h4))), fun vs H Q E hsp => ?_⟩
  obtain ⟨a, us, rfl, hl, ha, q⟩ := id hsp
  match us, hl with
  | [y, z], _ => exact ini_read2 T n1 n2 hsp rfl rfl rfl
end
end FL
end
section
set_option Elab.async false
set_option linter.all false
set_option maxRecDepth 100000
/-! FMH: the facts of own exceptions, by a test of the top's part. -/
namespace FL
open PySem PySem.Spec PyProof.Rows L2 NdefX
theorem oexB_ok {K : PySem.W.Frag} {C : Addr} (h : oexB K C = true) : OexC K C := by
  obtain ⟨h1, h⟩ := ba2 h
  obtain ⟨h2, h⟩ := ba2 h
  obtain ⟨h3, h⟩ := ba2 h
  obtain ⟨h4, h5⟩ := ba2 h
  refine ⟨?_, of_decide_eq_true h2, of_decide_eq_true h3, of_decide_eq_true h4, h5⟩
  split at h1
  · rename_i cl dd n1 n2 c0 bm n4 n5 hd n7 n8 n9 n10 del sl hq
    obtain ⟨q1, h1⟩ := ba2 h1
    obtain ⟨q2, h1⟩ := ba2 h1
    obtain ⟨q3, h1⟩ := ba2 h1
    obtain ⟨q4, h1⟩ := ba2 h1
    obtain ⟨q5, h1⟩ := ba2 h1
    have e1 := of_decide_eq_true q1
    have e2 := of_decide_eq_true q2
    have e5 : del = false := by simpa using q5
    subst e1 e2 q4 e5
    split at h1
    · rename_i k0 k1 k2 k3 n k5 hs
      have en : n = .builtin "ValueError.__new__" := by simpa [q3] using h1
      subst en
      have es : sl = #[k0, k1, k2, k3, some (.builtin "ValueError.__new__"), k5] := by
        have := congrArg List.toArray hs
        simpa using this
      subst es
      exact ⟨_, _, _, _, _, _, _, _, _, _, _, _, _, _, _, hq, q3⟩
    · simp at h1
  · cases h1
theorem supFn_ok {K : PySem.W.Frag} {file : Str} {C : Addr} {qual : Str} {fd : FuncData} (h : supFn K file C qual fd = true) : ∃ (c0 cda : Addr), fd.code = .ref cda ∧ fd.closure = [(("__class__" : Str), c0)] ∧ fd.defaults = .none ∧ fd.kwdefaults = .none ∧ PySem.W.codeIn K (.ref cda) qual = true ∧
    (∃ (cl : Value) (cld : Option Addr) (csl : Array (Option Value)), K.lookup c0 = some ⟨cl, cld, .cell (some (.ref C)), csl⟩) ∧ ∃ (ccl : Value) (cdd : Option Addr) (ccs : Array (Option Value)) (vs : Array Value) (fl : Str) (tf : Tok), K.lookup cda = some ⟨ccl, cdd, .fields vs, ccs⟩ ∧ vs[2]? = some (.str fl tf) ∧ file = fl := by
  unfold supFn at h
  split at h
  · rename_i cda y c0 e1 e2 e3 e4
    obtain ⟨h1, h⟩ := ba2 h
    obtain ⟨h2, h⟩ := ba2 h
    obtain ⟨h3, h4⟩ := ba2 h
    have ey := of_decide_eq_true h1
    subst ey
    refine ⟨c0, cda, e1, e2, e3, e4, h2, ?_, ?_⟩
    · split at h3
      · rename_i v _ q
        have ev := of_decide_eq_true h3
        subst ev
        exact ⟨_, _, _, q⟩
      · cases h3
    · split at h4
      · rename_i q
        split at h4
        · rename_i q2
          exact ⟨_, _, _, _, _, _, q, q2, of_decide_eq_true h4⟩
        · cases h4
      · cases h4
  · cases h
theorem sup_at {K : PySem.W.Frag} {P : Program} {file : Str} {d : DefX} (hf : P.main.file = file) (e : fnWx K (xIni K d) = d.val) (c : d.ok K file = true) : ∃ (fI : Addr) (fd : FuncData) (c0 cda : Addr), SupAt K P d (He.ga K (toS d.c)) fI fd c0 cda := by
  obtain ⟨h1, c⟩ := ba2 c
  obtain ⟨h2, c⟩ := ba2 c
  obtain ⟨h3, c⟩ := ba2 c
  obtain ⟨h4, c⟩ := ba2 c
  obtain ⟨h5, c⟩ := ba2 c
  obtain ⟨h6, c⟩ := ba2 c
  obtain ⟨h7, c⟩ := ba2 c
  obtain ⟨h8, h9⟩ := ba2 c
  unfold fnWx at e
  cases q : K.lookup (xIni K d) with
  | none => rw [q] at h3; cases h3
  | some o =>
    obtain ⟨oc, od, dt, osl⟩ := o
    rw [q] at h3 e
    cases dt with
    | func fd =>
      obtain ⟨c0, cda, s1, s2, s3, s4, s5, s6, ccl, cdd, ccs, vs, fl, tf, s7, s8, s9⟩ := supFn_ok (show supFn K file (He.ga K (toS d.c)) d.qual fd = true from h3)
      obtain ⟨n1, n2, n3, n4, n5, n6, n7, n8, n9, n10, n11, n12, n13, n14, n15⟩ := fd
      have e2 : (some (n1, n2, n3, n4, n5, n6, n7.map (·.1), n15) : FnWx) = some (d.name, d.qual, d.params, .stmts d.body, d.scope, mainGlobals, [("__class__" : Str)], builtinsNs) := e
      simp only [Option.some.injEq, Prod.mk.injEq] at e2
      obtain ⟨g1, g2, g3, g4, g5, g6, g7, g8⟩ := e2
      dsimp only at s1 s2 s3 s4
      subst g1 g2 g3 g4 g5 g6 g8 s1 s2 s3 s4
      obtain ⟨cdD, hD⟩ := Option.isSome_iff_exists.mp h4
      exact ⟨xIni K d, _, c0, cda, ⟨He.eqO_ok h1, of_decide_eq_true h2, ⟨oc, od, osl, n10, n11, n14, n12, rfl, q⟩, s5, s6, ⟨cdD, hD⟩, ⟨ccl, cdd, ccs, vs, fl, tf, s7, s8, by rw [hf, s9]; simp⟩,
        of_decide_eq_true h5, He.eqO_ok h6, of_decide_eq_true h7, He.eqO_ok h8, oexB_ok h9⟩⟩
    | _ => cases h3
end FL
end
section
set_option Elab.async false
set_option linter.all false
set_option maxRecDepth 100000
/-! FMI: the hook with own exceptions. -/
namespace FL
open PySem PySem.Spec PyProof.Rows L2 NdefX
section
variable {fa : List He.Fa} {fn : List He.DefD} {ts : List He.Tab} {ex : PySem.W.Frag → Bool} {qs : List DefQ} {file : Str} {xs : List DefX} {w : World} {K : PySem.W.Frag}
theorem SaysX.p (c : SaysX fa fn ts ex qs file xs w K) : SaysP fa fn ts ex qs w K := congrArg (fun z : AlX => z.1) c
theorem SaysX.x {P : Program} (c : SaysX fa fn ts ex qs file xs w K) (hf : P.main.file = file) (i : Nat) {d : DefX} (h : xs[i]? = some d := by rfl) : ∃ (fI : Addr) (fd : FuncData) (c0 cda : Addr), SupAt K P d (He.ga K (toS d.c)) fI fd c0 cda := by
  have c2 : xs.all (fun d => d.ok K file) = true := congrArg (fun z : AlX => z.2.1) c
  have e : xs.map (fun d => fnWx K (xIni K d)) = xs.map DefX.val := congrArg (fun z : AlX => z.2.2) c
  have e2 : (xs.map fun d => fnWx K (xIni K d))[i]? = (xs.map DefX.val)[i]? := by rw [e]
  rw [List.getElem?_map, List.getElem?_map, h] at e2
  exact sup_at hf (Option.some.inj e2) (List.all_eq_true.mp c2 d (List.mem_of_getElem? h))
end
end FL
end
section
set_option Elab.async false
set_option linter.all false
set_option maxRecDepth 100000
/-! FMJ: try .. except. -/
namespace FL
open PySem PySem.Spec PyProof.Rows L2
def noExc (r : Fl) : Fl := match r with
  | .exc _ _ _ => .no
  | r => r
/-- try: b, except C: sb -/
def mTry0 (ok : S → Option Bool) (b sb : Ms) : Ms := fun e st => match b e st with
  | .exc x e1 st1 => (match ok x.1 with
    | some true => noExc (sb e1 st1)
    | some false => .exc x e1 st1
    | none => .no)
  | r => r
theorem PostS.noE {g : Gc} {W0 : Wd} {Wx Wx' : WX} {r : Fl} {D : Ends} (p : PostS g W0 Wx (noExc r) D) : PostS g W0 Wx' r D := by
  cases r with
  | exc x e st => exact p.elim
  | no => exact p
  | _ => exact p
section
variable {X : Cx} {x : Str} {c : Value} {body suite : List Stmt} {b₀ : Stmt} {np pos pos' : Pos} {Wx : WX} {b sb : Ms} {ok : S → Option Bool}
theorem s_try0 (hs : X.stack = X.env :: X.outer) (hf : X.env.frame = some X.env.locals) (hc : Names X x c) (tk : Takes X Wx) (hok : ∀ y r, ok y = some r → PySem.W.exmOne X.K (.ref (He.ga X.K (toS y))) c = some r)
    (hb : ∀ (W : WX) (pn : List (Addr × Obj)) (xe : Value → Shared → Prop), Takes (X.tr pn xe) W → PassesOwn (model X.prog X.w) X.A X.env xe → PSs (X.tr pn xe) body (fS (gc X) W b))
    (hsu : ∀ (a : Addr) (pn : List (Addr × Obj)), PSs (X.suite a pn) (b₀ :: suite) (fS (gc X) (fun _ _ _ _ => False) sb)) :
    PS X (.Try body [.ExceptHandler (some (.Name x np)) none (b₀ :: suite) pos'] [] [] pos) (fS (gc X) Wx (mTry0 ok b sb)) := by
  refine PS.imp (ps_try_only (tb := fun W => fS (gc X) W b) (ts := fun _ _ _ => fS (gc X) (fun _ _ _ _ => False) sb) hs hf hc tk hb (fun a oe cls d pn _ _ => hsu a _)) fun D σ H h => ?_
  obtain ⟨W, env, rfl, s, r, p⟩ := h
  refine ⟨W, env, rfl, s, r, ?_⟩
  dsimp only [mTry0] at p
  cases q : b env W.st with
  | exc y e1 st1 =>
    rw [q] at p
    dsimp only at p
    intro W1 σ1 e' s1 hs1 r1 cls dd hx
    have ec : cls = .ref (He.ga X.K (toS y.1)) := hx.1
    cases ho : ok y.1 with
    | none => rw [ho] at p; exact p.elim
    | some t =>
      rw [ho] at p
      refine ⟨t, by rw [ec]; exact hok _ _ ho, fun ht a ha => ?_, fun ht => ?_⟩
      · subst ht
        exact ⟨W1, e1, rfl, s1, r1, by rw [hs1]; exact (PostS.ext (PostS.noE p) e')⟩
      · subst ht
        exact p W1 σ1 e' s1 hs1 r1 cls dd hx
  | no => rw [q] at p; exact p
  | _ => rw [q] at p; exact p
end
end FL
end
section
set_option Elab.async false
set_option linter.all false
set_option maxRecDepth 100000
/-! FMK: except C as n: t = n.f -/
namespace FL
open PySem PySem.Spec PyProof.Rows L2
/-- try: b, except C as (slot i): (slot j) = (slot i).f -/
def mTryF (i j : Nat) (f : S) (ok : S → Option Bool) (b : Ms) : Ms := fun e st => match b e st with
  | .exc x e1 st1 => (match ok x.1 with
    | some true => (match x.2.lookup f with
      | some d => if i < e1.length then .nx (((e1.set i none).set j (some d)).set i none) st1 else .no
      | none => .no)
    | some false => .exc x e1 st1
    | none => .no)
  | r => r
theorem EnvR.setN {g : Gc} {W : Wd} {σ : L2.St} {e : En} {i : Nat} (r : EnvR g W σ e) (o : Option V) : EnvR g W (σ.set i o) (e.set i none) := by
  refine ⟨by rw [List.length_set, List.length_set]; exact r.1, fun k d h => ?_⟩
  by_cases hk : k = i
  · subst hk
    by_cases hl : k < e.length
    · rw [List.getElem?_set_self hl] at h; cases h
    · rw [List.getElem?_eq_none (by simpa using hl)] at h; cases h
  · rw [List.getElem?_set_ne (Ne.symm hk)] at h ⊢
    exact r.2 k d h
section
variable {X : Cx} {x n y : Str} {c : Value} {body : List Stmt} {np p1 p2 p3 pos pos' ap : Pos} {Wx : WX} {b : Ms} {ok : S → Option Bool} {f C : S} {i j : Nat}
theorem s_tryF (hs : X.stack = X.env :: X.outer) (hf : X.env.frame = some X.env.locals) (hN : X.N.Nodup) (hi : X.N[i]? = some n) (hln : X.env.kindOf n = some .local) (hni : X.env.scope.names.lookup n = some .local) (hj : X.N[j]? = some y) (hy : X.env.scope.names.lookup y = some .local)
    (hc : Names X x c) (tk : Takes X Wx) (hok : ∀ y r, ok y = some r → PySem.W.exmOne X.K (.ref (He.ga X.K (toS y))) c = some r) (hC : ∀ y, ok y = some true → y = C) (T : XfC X.K (He.ga X.K (toS C))) (hno : PySem.W.findIn X.K (.ref (He.ga X.K (toS C))) (toS f) = some none)
    (hb : ∀ (W : WX) (pn : List (Addr × Obj)) (xe : Value → Shared → Prop), Takes (X.tr pn xe) W → PassesOwn (model X.prog X.w) X.A X.env xe → PSs (X.tr pn xe) body (fS (gc X) W b))
    (hd : (n == ("__debug__" : Str)) = false) (hcd : (n == ("__classdict__" : Str)) = false)
    (hsw : swapsWith (.Attribute (.Name n p2) (toS f) p3) (some (.Name y p1)) ap.line X.env = pure false) (hab : attributeBase (.Name n p2) (toS f) X.env (eval (.Name n p2) X.env) = eval (.Name n p2) X.env) :
    PS X (.Try body [.ExceptHandler (some (.Name x np)) (some n) [.Assign [.Name y p1] (.Attribute (.Name n p2) (toS f) p3) ap] pos'] [] [] pos) (fS (gc X) Wx (mTryF i j f ok b)) := by
  refine PS.imp (ps_try_as (i := i) (tb := fun W => fS (gc X) W b) (ts := fun a cls d => tAsg (tXf a cls d (He.ga X.K (toS C)) (toS f) (tVar i)) (gName j)) hs hf hN hi hln hc tk hb
    (fun a oe cls d pn hz hfl => pss_one (ps_set (X := X.suite a ((a, oe) :: pn)) hN hj (.inl hy) (pe_xf T hno hz hfl (pe_var hi (.inl hni) hd hcd) hab) hsw (.inr hy)))) fun D σ H h => ?_
  obtain ⟨W, env, rfl, s, r, p⟩ := h
  refine ⟨W, env, rfl, s, r, ?_⟩
  dsimp only [mTryF] at p
  cases q : b env W.st with
  | exc z e1 st1 =>
    rw [q] at p
    dsimp only at p
    intro W1 σ1 e' s1 hs1 r1 cls dd hx
    have hx0 := hx
    obtain ⟨ec, hx2⟩ := hx
    cases ho : ok z.1 with
    | none => rw [ho] at p; exact p.elim
    | some t =>
      rw [ho] at p
      refine ⟨t, by rw [ec]; exact hok _ _ ho, fun ht a ha => ?_, fun ht => ?_⟩
      · subst ht
        have ez := hC _ ho
        cases hl : z.2.lookup f with
        | none => simp only [hl] at p; exact p.elim
        | some d =>
          simp only [hl] at p
          split at p
          rotate_left
          · exact p.elim
          rename_i hlt
          cases hz : z.2 with
          | nil => rw [hz] at hl; cases hl
          | cons u us =>
            rw [hz] at hx2 hl
            obtain ⟨da, vs, ed, hda, hm, k1, k2⟩ := hx2
            obtain ⟨v, hv, hvd⟩ := lookup_den k1 k2 hl
            have hlen : i < σ1.length := by
              have := r1.1
              omega
            refine ⟨.ref a, List.getElem?_set_self hlen, rfl, by rw [ec, ez], da, vs, v, ed, hda, hv, ?_⟩
            exact p W1 _ e' s1 hs1 (((r1.setN (i := i) (some (.ref a))).set j hvd).setN (i := i) none)
      · subst ht
        exact p W1 σ1 e' s1 hs1 r1 cls dd hx0
  | no => rw [q] at p; exact p
  | _ => rw [q] at p; exact p
end
end FL
end
section
set_option Elab.async false
set_option linter.all false
set_option maxRecDepth 100000
/-! FML: except C as n: t = (n.f, n.g) -/
namespace FL
open PySem PySem.Spec PyProof.Rows L2
/-- try: b, except C as (slot i): (slot j) = ((slot i).f, (slot i).f2) -/
def mTryG (i j : Nat) (f f2 : S) (ok : S → Option Bool) (b : Ms) : Ms := fun e st => match b e st with
  | .exc x e1 st1 => (match ok x.1 with
    | some true => (match x.2.lookup f, x.2.lookup f2 with
      | some d, some d2 => if i < e1.length then .nx (((e1.set i none).set j (some (.tup [d, d2]))).set i none) st1 else .no
      | _, _ => .no)
    | some false => .exc x e1 st1
    | none => .no)
  | r => r
section
variable {X : Cx} {x n y : Str} {c : Value} {body : List Stmt} {np p1 p2 p3 p4 p5 p6 pos pos' ap : Pos} {Wx : WX} {b : Ms} {ok : S → Option Bool} {f f2 C : S} {i j : Nat} {x1 : Nat}
theorem s_tryG (hs : X.stack = X.env :: X.outer) (hf : X.env.frame = some X.env.locals) (hN : X.N.Nodup) (hi : X.N[i]? = some n) (hln : X.env.kindOf n = some .local) (hni : X.env.scope.names.lookup n = some .local) (hj : X.N[j]? = some y) (hy : X.env.scope.names.lookup y = some .local)
    (hc : Names X x c) (tk : Takes X Wx) (hok : ∀ y r, ok y = some r → PySem.W.exmOne X.K (.ref (He.ga X.K (toS y))) c = some r) (hC : ∀ y, ok y = some true → y = C) (T : XfC X.K (He.ga X.K (toS C))) (hno : PySem.W.findIn X.K (.ref (He.ga X.K (toS C))) (toS f) = some none) (hno2 : PySem.W.findIn X.K (.ref (He.ga X.K (toS C))) (toS f2) = some none)
    (hb : ∀ (W : WX) (pn : List (Addr × Obj)) (xe : Value → Shared → Prop), Takes (X.tr pn xe) W → PassesOwn (model X.prog X.w) X.A X.env xe → PSs (X.tr pn xe) body (fS (gc X) W b))
    (hd : (n == ("__debug__" : Str)) = false) (hcd : (n == ("__classdict__" : Str)) = false)
    (hsw : swapsWith (.Tuple [.Attribute (.Name n p2) (toS f) p3, .Attribute (.Name n p4) (toS f2) p5] x1 p6) (some (.Name y p1)) ap.line X.env = pure false) (hab2 : attributeBase (.Name n p4) (toS f2) X.env (eval (.Name n p4) X.env) = eval (.Name n p4) X.env)
    (hab : attributeBase (.Name n p2) (toS f) X.env (eval (.Name n p2) X.env) = eval (.Name n p2) X.env) :
    PS X (.Try body [.ExceptHandler (some (.Name x np)) (some n) [.Assign [.Name y p1] (.Tuple [.Attribute (.Name n p2) (toS f) p3, .Attribute (.Name n p4) (toS f2) p5] x1 p6) ap] pos'] [] [] pos) (fS (gc X) Wx (mTryG i j f f2 ok b)) := by
  refine PS.imp (ps_try_as (i := i) (tb := fun W => fS (gc X) W b) (ts := fun a cls d => tAsg (tTup (tCons (tXf a cls d (He.ga X.K (toS C)) (toS f) (tVar i)) (tCons (tXf a cls d (He.ga X.K (toS C)) (toS f2) (tVar i)) tNil))) (gName j)) hs hf hN hi hln hc tk hb
    (fun a oe cls d pn hz hfl => pss_one (ps_set (X := X.suite a ((a, oe) :: pn)) hN hj (.inl hy) (pe_tup (pa_cons (pe_xf T hno hz hfl (pe_var hi (.inl hni) hd hcd) hab) (pa_cons (pe_xf T hno2 hz hfl (pe_var hi (.inl hni) hd hcd) hab2) pa_nil))) hsw (.inr hy)))) fun D σ H h => ?_
  obtain ⟨W, env, rfl, s, r, p⟩ := h
  refine ⟨W, env, rfl, s, r, ?_⟩
  dsimp only [mTryG] at p
  cases q : b env W.st with
  | exc z e1 st1 =>
    rw [q] at p
    dsimp only at p
    intro W1 σ1 e' s1 hs1 r1 cls dd hx
    have hx0 := hx
    obtain ⟨ec, hx2⟩ := hx
    cases ho : ok z.1 with
    | none => rw [ho] at p; exact p.elim
    | some t =>
      rw [ho] at p
      refine ⟨t, by rw [ec]; exact hok _ _ ho, fun ht a ha => ?_, fun ht => ?_⟩
      · subst ht
        have ez := hC _ ho
        cases hl : z.2.lookup f with
        | none => simp only [hl] at p; exact p.elim
        | some d =>
          cases hl2 : z.2.lookup f2 with
          | none => simp only [hl, hl2] at p; exact p.elim
          | some d2 =>
            simp only [hl, hl2] at p
            split at p
            rotate_left
            · exact p.elim
            rename_i hlt
            cases hz : z.2 with
            | nil => rw [hz] at hl; cases hl
            | cons u us =>
              rw [hz] at hx2 hl hl2
              obtain ⟨da, vs, ed, hda, hm, k1, k2⟩ := hx2
              obtain ⟨v, hv, hvd⟩ := lookup_den k1 k2 hl
              obtain ⟨v2, hv2, hvd2⟩ := lookup_den k1 k2 hl2
              have hlen : i < σ1.length := by
                have := r1.1
                omega
              have ga := List.getElem?_set_self (a := some (V.ref a)) hlen
              refine ⟨.ref a, ga, rfl, by rw [ec, ez], da, vs, v, ed, hda, hv, .ref a, ga, rfl, by rw [ec, ez], da, vs, v2, ed, hda, hv2, (show 2 ≤ sizeLine by rw [sizeLine_eq]; omega), fun q hq => ?_⟩
              obtain ⟨W2, e2, s2, g1, g2, g3⟩ := s1.newT hq (.cons hvd (.cons hvd2 .nil))
              rw [← g2]
              exact p W2 _ (e'.trans e2) s2 (g1.trans hs1) ((((r1.mono e2).setN (i := i) (some (.ref a))).set j g3).setN (i := i) none)
      · subst ht
        exact p W1 σ1 e' s1 hs1 r1 cls dd hx0
  | no => rw [q] at p; exact p
  | _ => rw [q] at p; exact p
end
end FL
end
section
set_option Elab.async false
set_option linter.all false
set_option maxRecDepth 100000
/-! FMM: small things: texts compared, facts of own exceptions. -/
namespace FL
open PySem PySem.Spec PyProof.Rows L2
/-- <= of ints or of texts -/
def oLeA (x y : D) (st : Store) : Res D := match x, y with
  | .int i, .int j => .ok (.bl (decide (i ≤ j))) st
  | .str a, .str b => .ok (.bl (!decide (b < a))) st
  | _, _ => .no
def rLeA : R2 := fun x y H Q => rI0 (fun i j => .bl (decide (i ≤ j))) x y H Q ∨ (∃ i j, x = .str i ∧ y = .str j ∧ Q (.bl (!decide (j.cps.toList < i.cps.toList))) H)
theorem op_leA {X : Cx} : OpR X (compareOp .LtE) rLeA := op_le.or op_le_str
theorem im_leA {X : Cx} {Wx : WX} {σ : L2.St} {H : Hp} {Q : VK} {x y : V} (h : f2 (gc X) Wx (rD (gc X)) oLeA x y σ H Q) : rLeA x y H Q := by
  obtain ⟨W, d, d', rfl, s, h1, h2, p⟩ := h
  dsimp only [oLeA] at p
  split at p
  · cases h1.int_inv
    cases h2.int_inv
    exact .inl ⟨_, _, rfl, rfl, p W (Ext.refl W) s rfl _ (.bl _)⟩
  · obtain ⟨rfl, _⟩ := h1.str_inv
    obtain ⟨rfl, _⟩ := h2.str_inv
    exact .inr ⟨_, _, rfl, rfl, p W (Ext.refl W) s rfl _ (.bl _)⟩
  · exact p.elim
/-- what a class is in an except clause -/
def okOf (l : List (S × Bool)) (y : S) : Option Bool := l.lookup y
theorem okOf_ok {K : PySem.W.Frag} {C : S} {l : List (S × Bool)} (h : ∀ p ∈ l, (He.Fa.exm (toS p.1) (toS C) p.2).ok K = true) (y : S) (r : Bool) (e : okOf l y = some r) : PySem.W.exmOne K (.ref (He.ga K (toS y))) (.ref (He.ga K (toS C))) = some r :=
  He.exm_ok (h _ (lookup_mem e))
def only (l : List (S × Bool)) (C : S) : Bool := l.all fun p => !p.2 || decide (p.1 = C)
theorem only_ok {l : List (S × Bool)} {C : S} (h : only l C = true) (y : S) (e : okOf l y = some true) : y = C := by
  have q := List.all_eq_true.mp h _ (lookup_mem e)
  simpa using q
theorem find_none {K : PySem.W.Frag} {x f : Str} (c : (He.Fa.noat x f).ok K = true) : PySem.W.findIn K (.ref (He.ga K x)) f = some none := He.eqO_ok c
theorem names_of {X : Cx} {x : Str} {a : Addr} (hg : Gl X x) (hm : X.mg x = some (.ref a)) (hd : (x == ("__debug__" : Str)) = false := by decide) : Names X x (.ref a) := ⟨hg, hd, .inl hm⟩
end FL
namespace FL
open PySem PySem.Spec PyProof.Rows L2 NdefX
section
variable {P : Program} {w : World} {K : PySem.W.Frag} {mg : Str → Option Value} {base : Heap} {d : DefX} {N : List Str}
theorem rest_oneF {C : Addr} {F1 : Str} {f1 : S} {x1 : Str} {q1 q2 q3 q4 : Pos} (hF : F1 = toS f1) (T : OexC K C) (n1 : PySem.W.findIn K (.ref C) (toS f1) = some none) (hN0 : N[0]? = some ("self" : Str)) (hN1 : N[1]? = some x1) (v0 : Vis d.scope "self") (v1 : Vis d.scope x1)
    (h1 : (x1 == ("__debug__" : Str)) = false) (h2 : (x1 == ("__classdict__" : Str)) = false) :
    ∀ (X : Cx), X.K = K → X.N = N → X.env.scope = d.scope → ∃ t, PSs X [.Assign [.Attribute (.Name "self" q1) F1 q2] (.Name x1 q3) q4] t ∧ ∀ (vs : List V) (H : Hp) (Q : VK) (E : XK), spI C ([f1].map toS) vs H Q E → t { nx := fun _ H' => Q .non H', rt := Q } (startF N vs [some (.ref C)]) H := by
  subst hF
  exact rest_one T n1 hN0 hN1 v0 v1 h1 h2
theorem rest_twoF {C : Addr} {F1 F2 : Str} {f1 f2 : S} {x1 x2 : Str} {q1 q2 q3 q4 r1 r2 r3 r4 : Pos} (hF : F1 = toS f1) (hF2 : F2 = toS f2) (T : OexC K C) (n1 : PySem.W.findIn K (.ref C) (toS f1) = some none) (n2 : PySem.W.findIn K (.ref C) (toS f2) = some none) (hN0 : N[0]? = some ("self" : Str)) (hN1 : N[1]? = some x1) (hN2 : N[2]? = some x2)
    (v0 : Vis d.scope "self") (v1 : Vis d.scope x1) (v2 : Vis d.scope x2) (h1 : (x1 == ("__debug__" : Str)) = false) (h2 : (x1 == ("__classdict__" : Str)) = false) (h3 : (x2 == ("__debug__" : Str)) = false) (h4 : (x2 == ("__classdict__" : Str)) = false) :
    ∀ (X : Cx), X.K = K → X.N = N → X.env.scope = d.scope → ∃ t, PSs X [.Assign [.Attribute (.Name "self" q1) F1 q2] (.Name x1 q3) q4, .Assign [.Attribute (.Name "self" r1) F2 r2] (.Name x2 r3) r4] t ∧
      ∀ (vs : List V) (H : Hp) (Q : VK) (E : XK), spI C ([f1, f2].map toS) vs H Q E → t { nx := fun _ H' => Q .non H', rt := Q } (startF N vs [some (.ref C)]) H := by
  subst hF hF2
  exact rest_two T n1 n2 hN0 hN1 hN2 v0 v1 v2 h1 h2 h3 h4
end
section
variable {X : Cx} {x n y : Str} {body : List Stmt} {np p1 p2 p3 p4 p5 p6 pos pos' ap : Pos} {Wx : WX} {b : Ms} {l : List (S × Bool)} {f f2 C Cx' : S} {F F2 : Str} {i j : Nat} {x1 : Nat}
theorem c_tryF (hs : X.stack = X.env :: X.outer) (hf : X.env.frame = some X.env.locals) (hN : X.N.Nodup) (hi : X.N[i]? = some n) (hln : X.env.kindOf n = some .local) (hni : X.env.scope.names.lookup n = some .local) (hj : X.N[j]? = some y) (hy : X.env.scope.names.lookup y = some .local)
    (hc : Names X x (.ref (He.ga X.K (toS Cx')))) (tk : Takes X Wx) (hok : ∀ p ∈ l, (He.Fa.exm (toS p.1) (toS Cx') p.2).ok X.K = true) (hC : only l C = true) (T : xfB X.K (He.ga X.K (toS C)) = true) (hno : (He.Fa.noat (toS C) (toS f)).ok X.K = true) (hF : F = toS f)
    (hb : ∀ (W : WX) (pn : List (Addr × Obj)) (xe : Value → Shared → Prop), Takes (X.tr pn xe) W → PassesOwn (model X.prog X.w) X.A X.env xe → PSs (X.tr pn xe) body (fS (gc X) W b))
    (hd : (n == ("__debug__" : Str)) = false := by decide) (hcd : (n == ("__classdict__" : Str)) = false := by decide)
    (hsw : swapsWith (.Attribute (.Name n p2) F p3) (some (.Name y p1)) ap.line X.env = pure false := by rfl) (hab : attributeBase (.Name n p2) F X.env (eval (.Name n p2) X.env) = eval (.Name n p2) X.env := by rfl) :
    PS X (.Try body [.ExceptHandler (some (.Name x np)) (some n) [.Assign [.Name y p1] (.Attribute (.Name n p2) F p3) ap] pos'] [] [] pos) (fS (gc X) Wx (mTryF i j f (okOf l) b)) := by
  subst hF
  exact s_tryF hs hf hN hi hln hni hj hy hc tk (okOf_ok hok) (only_ok hC) (xfB_ok T) (find_none hno) hb hd hcd hsw hab
theorem c_tryG (hs : X.stack = X.env :: X.outer) (hf : X.env.frame = some X.env.locals) (hN : X.N.Nodup) (hi : X.N[i]? = some n) (hln : X.env.kindOf n = some .local) (hni : X.env.scope.names.lookup n = some .local) (hj : X.N[j]? = some y) (hy : X.env.scope.names.lookup y = some .local)
    (hc : Names X x (.ref (He.ga X.K (toS Cx')))) (tk : Takes X Wx) (hok : ∀ p ∈ l, (He.Fa.exm (toS p.1) (toS Cx') p.2).ok X.K = true) (hC : only l C = true) (T : xfB X.K (He.ga X.K (toS C)) = true) (hno : (He.Fa.noat (toS C) (toS f)).ok X.K = true) (hno2 : (He.Fa.noat (toS C) (toS f2)).ok X.K = true) (hF : F = toS f) (hF2 : F2 = toS f2)
    (hb : ∀ (W : WX) (pn : List (Addr × Obj)) (xe : Value → Shared → Prop), Takes (X.tr pn xe) W → PassesOwn (model X.prog X.w) X.A X.env xe → PSs (X.tr pn xe) body (fS (gc X) W b))
    (hd : (n == ("__debug__" : Str)) = false := by decide) (hcd : (n == ("__classdict__" : Str)) = false := by decide)
    (hsw : swapsWith (.Tuple [.Attribute (.Name n p2) F p3, .Attribute (.Name n p4) F2 p5] x1 p6) (some (.Name y p1)) ap.line X.env = pure false := by rfl) (hab2 : attributeBase (.Name n p4) F2 X.env (eval (.Name n p4) X.env) = eval (.Name n p4) X.env := by rfl)
    (hab : attributeBase (.Name n p2) F X.env (eval (.Name n p2) X.env) = eval (.Name n p2) X.env := by rfl) :
    PS X (.Try body [.ExceptHandler (some (.Name x np)) (some n) [.Assign [.Name y p1] (.Tuple [.Attribute (.Name n p2) F p3, .Attribute (.Name n p4) F2 p5] x1 p6) ap] pos'] [] [] pos) (fS (gc X) Wx (mTryG i j f f2 (okOf l) b)) := by
  subst hF hF2
  exact s_tryG hs hf hN hi hln hni hj hy hc tk (okOf_ok hok) (only_ok hC) (xfB_ok T) (find_none hno) (find_none hno2) hb hd hcd hsw hab2 hab
end
end FL
end
section
set_option Elab.async false
set_option linter.all false
set_option maxRecDepth 100000
/-! FMN: several clauses with and without names; own exceptions without __init__; {}; a, b, c = ..; methods. -/
namespace FL
open PySem PySem.Spec PyProof.Rows L2
/-! ### raise C() -/
section
variable {X : Cx} {C : Addr} {bmB : List Value} {B newId initId : String}
theorem pmk_own0 {x : Str} {p pos : Pos} (F : ExcBaseFacts B newId initId bmB) (q : PySem.W.excIn X.K C bmB newId = true) (gC : X.mg x = some (.ref C)) (kC : PySem.W.keepIn X.K (.ref C) = true) (r : Raises X (.ref C)) (hg : Gl X x)
    (hdb : (x == ("__debug__" : Str)) = false := by decide) : PMk X (.Call (.Name x p) [] [] pos) (fun _ H Q => Q (.ref C) none H) := by
  intro pins s σ H Q I h
  refine wpAny_Call_Name_kw (ld_glob I hg gC ?_ hdb)
  refine PySem.W.callWith_K0 I.kIn kC ?_
  show wpAny _ _ (call (.ref C) []) _ _ _
  obtain ⟨bm, N, nm, qn, bs, hdct, sn, sub, ab, col, dd, k0, k1, k2, k3, k5, mN, hC, hN, hni, T⟩ := exc_obj I.kIn q
  refine wpAny_call_exc_subT F T hC hN hni (fun h' e hm => ?_) (Nat.zero_le _)
  exact mk_of I hm r h (I.hok.gone hm.new)
end
def mRaise0 (c : S) : Ms := fun e st => .exc (c, []) e st
theorem c_raise0 {X : Cx} {Wx : WX} {c : S} {x : Str} {p pos pos2 : Pos} (hc : X.calm = true) (tk : Takes X Wx) (hg : Gl X x) (hm : X.mg x = some (.ref (He.ga X.K (toS c)))) (ho : ownXB X.K c = true) (hdb : (x == ("__debug__" : Str)) = false := by decide) :
    PS X (.Raise (some (.Call (.Name x p) [] [] pos)) none pos2) (fS (gc X) Wx (mRaise0 c)) := by
  obtain ⟨h1, ho⟩ := ba2 ho
  obtain ⟨h2, ho⟩ := ba2 ho
  obtain ⟨h3, h4⟩ := ba2 ho
  refine PS.imp (ps_raise hc tk (pmk_own0 PySem.F.excBase_ValueError h1 hm h2 (raises_own (of_decide_eq_true h3) (of_decide_eq_true h4)) hg hdb)) fun D σ H h => ?_
  obtain ⟨W, env, rfl, s, r, p⟩ := h
  exact p W σ (Ext.refl W) s rfl r _ _ ⟨rfl, rfl⟩

/-! ### clauses with and without names -/
def wMix (K : PySem.W.Frag) (Wout : WX) (D : Ends) : List (Value × Option Nat × (Addr → Value → Option Addr → TS)) → WX
  | [] => Wout
  | (c, none, ts) :: r => fun cls d σ H => ∃ b, PySem.W.exmOne K cls c = some b ∧ (b = true → ∀ a, H a = none → ts a cls d D σ H) ∧ (b = false → wMix K Wout D r cls d σ H)
  | (c, some i, ts) :: r => fun cls d σ H => ∃ b, PySem.W.exmOne K cls c = some b ∧ (b = true → ∀ a, H a = none → ts a cls d { nx := fun σ' H' => D.nx (σ'.set i none) H', rt := D.rt, bk := fun σ' H' => D.bk (σ'.set i none) H', ct := fun σ' H' => D.ct (σ'.set i none) H' } (σ.set i (some (.ref a))) H) ∧
    (b = false → wMix K Wout D r cls d σ H)
inductive HdsMix (X : Cx) : List ExceptHandler → List (Value × Option Nat × (Addr → Value → Option Addr → TS)) → Prop
  | nil : HdsMix X [] []
  | cons {x : Str} {c : Value} {ts : Addr → Value → Option Addr → TS} {b₀ : Stmt} {suite : List Stmt} {np pos' : Pos} {hds : List ExceptHandler} {l : List (Value × Option Nat × (Addr → Value → Option Addr → TS))} (hc : Names X x c)
      (hsu : ∀ (a : Addr) (oe : Obj) (cls : Value) (d : Option Addr) (pn : List (Addr × Obj)), Zc cls d oe → (∃ vs, oe.data = .fields vs) → PSs (X.suite a ((a, oe) :: pn)) (b₀ :: suite) (ts a cls d)) (r : HdsMix X hds l) :
      HdsMix X (.ExceptHandler (some (.Name x np)) none (b₀ :: suite) pos' :: hds) ((c, none, ts) :: l)
  | consN {x n : Str} {i : Nat} {c : Value} {ts : Addr → Value → Option Addr → TS} {b₀ : Stmt} {suite : List Stmt} {np pos' : Pos} {hds : List ExceptHandler} {l : List (Value × Option Nat × (Addr → Value → Option Addr → TS))} (hc : Names X x c) (hi : X.N[i]? = some n) (hln : X.env.kindOf n = some .local)
      (hsu : ∀ (a : Addr) (oe : Obj) (cls : Value) (d : Option Addr) (pn : List (Addr × Obj)), Zc cls d oe → (∃ vs, oe.data = .fields vs) → PSs (X.suite a ((a, oe) :: pn)) (b₀ :: suite) (ts a cls d)) (r : HdsMix X hds l) :
      HdsMix X (.ExceptHandler (some (.Name x np)) (some n) (b₀ :: suite) pos' :: hds) ((c, some i, ts) :: l)
section
variable {X : Cx} {body : List Stmt} {h₀ : ExceptHandler} {hds : List ExceptHandler} {l : List (Value × Option Nat × (Addr → Value → Option Addr → TS))} {pos : Pos} {tb : WX → TS} {Wout : WX}
theorem ps_try_mix (hs : X.stack = X.env :: X.outer) (hf : X.env.frame = some X.env.locals) (hN : X.N.Nodup) (tk : Takes X Wout)
    (hb : ∀ (W : WX) (pn : List (Addr × Obj)) (xe : Value → Shared → Prop), Takes (X.tr pn xe) W → PassesOwn (model X.prog X.w) X.A X.env xe → PSs (X.tr pn xe) body (tb W))
    (hh : HdsMix X (h₀ :: hds) l) : PS X (.Try body (h₀ :: hds) [] [] pos) (fun D σ H => tb (wMix X.K Wout D l) D σ H) := by
  refine ⟨fun pins s σ H D I h => ?_⟩
  have ok := I.ok
  have hfr : X.A.frames = some (X.env :: X.outer) := by rw [ok.frames, hs]
  refine wpAny_Try_except ?_
  refine wpAny_mono ((hb (wMix X.K Wout D l) (X.pn ++ pins) (fun e s₁ => wpAny (model X.prog X.w) X.A (noteFrame e X.env) (fun _ s₂ => wpAny (model X.prog X.w) X.A (setFlight e none) (fun _ s₃ =>
    wpAny (model X.prog X.w) X.A (handleBy e X.env (h₀ :: hds)) (SP X pins D) X.xe s₃) X.xe s₂) X.xe s₁) (fun u s' xx => ?_) PassesOwn.looking).run [] s σ H D (I.toTry _) h) (fun f s1 hsp => ?_) (fun e s1 he => he)
  · -- the catch
    obtain ⟨a, B, sI, pins', σ', H', cls, d, rfl, J', nb, up, sky, na, os, ag, w⟩ := xx
    have J : Inv X pins σ' H' sI := J'.ofTry ok
    have sky' : Sky B (X.env :: X.outer) a (Zc cls d) X.env.locals s'.heap := by rw [← hs]; exact sky
    show wpAny (model X.prog X.w) X.A (noteFrame (.ref a) X.env) _ _ _
    refine Sky.land Zc.steady hfr hf sky' fun h3 fl3 up3 => ?_
    have J3 : Inv X pins σ' H' { s' with heap := h3 } := J.landed nb fl3.1 (up.trans up3) os ag
    obtain ⟨oe3, vs3, he3, hz3, hd3⟩ := fl3.there
    have notFr : ∀ {h : Heap} {o : Obj} {vs : Array Value}, h.FunFrames B (X.env :: X.outer) → h.get? a = some o → o.data = .fields vs → a ∉ frs (X.env :: X.outer) := fun {h o vs} ff e dd hm => by
      obtain ⟨_, o', e', hnf⟩ := ff.mem hm
      rw [e] at e'; cases e'
      exact hnf _ dd
    have nfr := notFr fl3.2.2.1 he3 hd3
    have nL : a ≠ X.env.locals := fun z => nfr (List.mem_filterMap.mpr ⟨X.env, List.mem_cons_self, by rw [hf, z]⟩)
    have nF : a ∉ X.fs := fun hm => by
      obtain ⟨e, he, q⟩ := List.mem_filterMap.mp hm
      exact nfr (List.mem_filterMap.mpr ⟨e, List.mem_cons_of_mem _ he, q⟩)
    have S3 := J3.suite he3 hd3 na nL nF
    have go : ∀ {hds' : List ExceptHandler} {l' : List (Value × Option Nat × (Addr → Value → Option Addr → TS))}, HdsMix X hds' l' → wMix X.K Wout D l' cls d σ' H' →
        wpAny (model X.prog X.w) X.A (handleBy (.ref a) X.env hds') (SP X pins D) X.xe { s' with heap := h3 } := by
      intro hds' l' hk
      induction hk with
      | nil =>
        intro w
        refine wpAny_handleBy_nil ?_
        obtain ⟨k1, k2, k3, oe, vs, T, oT, ts', he, hz, hd, h1, hr⟩ := id fl3
        unfold PySem.passOn
        refine wpAny_bind (wpAny_field he hd h1 ?_)
        rw [if_neg (show ¬ ((Value.ref T == Value.none) = true) from by simp)]
        have fin : wpAny (model X.prog X.w) X.A (setFlight (.ref a) X.env.frame) (fun _ s4 => wpAny (model X.prog X.w) X.A (throw (.ref a) : Sem Flow) (SP X pins D) X.xe s4) X.xe { s' with heap := h3 } := by
          rw [hf]
          refine HandSPX.setFlight_upZ fl3 fun h4 hh4 up4 => wpAny_throw (tk _ _ ?_)
          exact ⟨a, B, sI, pins, σ', H', cls, d, rfl, J, nb, (up.trans up3).trans up4, .inr (.inr (by rw [hs]; exact hh4)), na, os, ag, w⟩
        first
          | exact wpAny_bind (wpAny_pure (wpAny_bind fin))
          | exact wpAny_bind fin
      | @cons x c ts b₀ suite np pos' hds2 l2 hc hsu r ih =>
        intro w
        obtain ⟨b, hb1, hyes, hno⟩ := w
        refine wpAny_handleBy_cons (codeAny_handlers_test ?_) (by intro q; cases q)
        have LT : PySem.W.Looks (model X.prog X.w) h3 (typeOf (.ref a)) cls := fun A Q E s k q => wpAny_typeOf_ref (k _ _ he3) (by rw [hz3.1]; exact q)
        have LM := PySem.W.exm_one (M := model X.prog X.w) (J3.kIn) LT hb1
        have test : ∀ {Q : Value → Shared → Prop} {E : Value → Shared → Prop}, Q c { s' with heap := h3 } → wpAny (model X.prog X.w) (X.A.mark (some (.ref a))) (eval (.Name x np) X.env) Q E { s' with heap := h3 } := fun {Q E} q => by
          obtain ⟨hg, hdbg, hm | ⟨hm, hv, hnn⟩⟩ := hc
          · exact ld_glob (X := X.suite a ((a, oe3) :: (X.pn ++ pins))) S3 hg hm q hdbg
          · exact ld_blt (X := X.suite a ((a, oe3) :: (X.pn ++ pins))) S3 hg hm hv q hnn hdbg
        refine test (LM.here ?_)
        cases b with
        | true =>
          refine codeAny_handlers_suite ?_
          refine HandSPX.lands_againZ fl3 fun h4 fl4 up4 => ?_
          have J4 : Inv X pins σ' H' { s' with heap := h4 } := J.landed nb fl4.1 ((up.trans up3).trans up4) os ag
          obtain ⟨oe4, vs4, he4, hz4, hd4⟩ := fl4.there
          have S4 := J4.suite he4 hd4 na nL nF
          refine wpAny_mono ((hsu a oe4 cls d (X.pn ++ pins) hz4 ⟨_, hd4⟩).run [] _ _ H' _ S4 (hyes rfl a na)) (fun f s6 hsp => ?_) (fun _ _ z => False.elim z)
          cases f with
          | next =>
            obtain ⟨σ6, H6, S6, q6⟩ := hsp
            exact ⟨_, _, S6.unsuite ok, q6⟩
          | brk =>
            obtain ⟨σ6, H6, S6, q6⟩ := hsp
            exact ⟨_, _, S6.unsuite ok, q6⟩
          | cont =>
            obtain ⟨σ6, H6, S6, q6⟩ := hsp
            exact ⟨_, _, S6.unsuite ok, q6⟩
          | ret u =>
            obtain ⟨v6, σ6, H6, S6, r6, q6⟩ := hsp
            exact ⟨_, _, _, S6.unsuite ok, r6, q6⟩
        | false =>
          show wpAny _ X.A (handleBy (.ref a) X.env hds2) _ _ _
          exact ih (hno rfl)
      | @consN x n i c ts b₀ suite np pos' hds2 l2 hc hi hln hsu r ih =>
        intro w
        obtain ⟨b, hb1, hyes, hno⟩ := w
        refine wpAny_handleBy_cons (codeAny_handlers_test ?_) (by intro q; cases q)
        have LT : PySem.W.Looks (model X.prog X.w) h3 (typeOf (.ref a)) cls := fun A Q E s k q => wpAny_typeOf_ref (k _ _ he3) (by rw [hz3.1]; exact q)
        have LM := PySem.W.exm_one (M := model X.prog X.w) (J3.kIn) LT hb1
        have test : ∀ {Q : Value → Shared → Prop} {E : Value → Shared → Prop}, Q c { s' with heap := h3 } → wpAny (model X.prog X.w) (X.A.mark (some (.ref a))) (eval (.Name x np) X.env) Q E { s' with heap := h3 } := fun {Q E} q => by
          obtain ⟨hg, hdbg, hm | ⟨hm, hv, hnn⟩⟩ := hc
          · exact ld_glob (X := X.suite a ((a, oe3) :: (X.pn ++ pins))) S3 hg hm q hdbg
          · exact ld_blt (X := X.suite a ((a, oe3) :: (X.pn ++ pins))) S3 hg hm hv q hnn hdbg
        refine test (LM.here ?_)
        cases b with
        | true =>
          refine codeAny_handlers_suite_as ?_
          refine HandSPX.lands_againZ fl3 fun h4 fl4 up4 => ?_
          have J4 : Inv X pins σ' H' { s' with heap := h4 } := J.landed nb fl4.1 ((up.trans up3).trans up4) os ag
          obtain ⟨oe4, vs4, he4, hz4, hd4⟩ := fl4.there
          have S4 := J4.suite he4 hd4 na nL nF
          refine store_ok (X := X.suite a ((a, oe4) :: (X.pn ++ pins))) (v := .ref a) S4 hN hi (.inl hln) rfl (fun s5 S5 => ?_) (.inr hln)
          refine wpAny_mono ((hsu a oe4 cls d (X.pn ++ pins) hz4 ⟨_, hd4⟩).run [] s5 _ H' _ S5 (hyes rfl a na)) (fun f s6 hsp => ?_) (fun _ _ z => False.elim z)
          have end_ : ∀ {σ6 : L2.St} {H6 : Hp} {Q : Shared → Prop}, Inv (X.suite a ((a, oe4) :: (X.pn ++ pins))) [] σ6 H6 s6 → (∀ s7, Inv X pins (σ6.set i none) H6 s7 → Q s7) →
              wpAny (model X.prog X.w) X.A (do bindName X.env n .none; unbindBehindTheSuite X.env n pos') (fun _ s7 => Q s7) X.xe s6 := fun {σ6 H6 Q} S6 hq => gone_ok (S6.unsuite ok) hN hi hln hq
          cases f with
          | next =>
            obtain ⟨σ6, H6, S6, q6⟩ := hsp
            exact end_ S6 fun s7 J7 => ⟨_, _, J7, q6⟩
          | brk =>
            obtain ⟨σ6, H6, S6, q6⟩ := hsp
            exact end_ S6 fun s7 J7 => ⟨_, _, J7, q6⟩
          | cont =>
            obtain ⟨σ6, H6, S6, q6⟩ := hsp
            exact end_ S6 fun s7 J7 => ⟨_, _, J7, q6⟩
          | ret u =>
            obtain ⟨v6, σ6, H6, S6, r6, q6⟩ := hsp
            exact end_ S6 fun s7 J7 => ⟨_, _, _, J7, r6, q6⟩
        | false =>
          show wpAny _ X.A (handleBy (.ref a) X.env hds2) _ _ _
          exact ih (hno rfl)
    exact go hh w
  · cases f with
    | next =>
      obtain ⟨σ', H', J', q⟩ := hsp
      exact wpAny_execs_nil ⟨σ', H', J'.ofTry ok, q⟩
    | brk =>
      obtain ⟨σ', H', J', q⟩ := hsp
      exact ⟨σ', H', J'.ofTry ok, q⟩
    | cont =>
      obtain ⟨σ', H', J', q⟩ := hsp
      exact ⟨σ', H', J'.ofTry ok, q⟩
    | ret u =>
      obtain ⟨v, σ', H', J', r, q⟩ := hsp
      exact ⟨v, σ', H', J'.ofTry ok, r, q⟩
end

/-! ### try: b, except C1: sb, except C2 as n: t = n.f -/
def mTryUF (i j : Nat) (f : S) (ok1 ok2 : S → Option Bool) (b sb : Ms) : Ms := fun e st => match b e st with
  | .exc x e1 st1 => (match ok1 x.1 with
    | some true => noExc (sb e1 st1)
    | some false => (match ok2 x.1 with
      | some true => (match x.2.lookup f with
        | some d => if i < e1.length then .nx (((e1.set i none).set j (some d)).set i none) st1 else .no
        | none => .no)
      | some false => .exc x e1 st1
      | none => .no)
    | none => .no)
  | r => r
section
variable {X : Cx} {x1 x n y : Str} {body suite : List Stmt} {b₀ : Stmt} {np1 np p1 p2 p3 pos pos1 pos' ap : Pos} {Wx : WX} {b sb : Ms} {l1 l2 : List (S × Bool)} {f C C1 Cx' : S} {F : Str} {i j : Nat}
theorem c_tryUF (hs : X.stack = X.env :: X.outer) (hf : X.env.frame = some X.env.locals) (hN : X.N.Nodup) (hi : X.N[i]? = some n) (hln : X.env.kindOf n = some .local) (hni : X.env.scope.names.lookup n = some .local) (hj : X.N[j]? = some y) (hy : X.env.scope.names.lookup y = some .local)
    (hc1 : Names X x1 (.ref (He.ga X.K (toS C1)))) (hc : Names X x (.ref (He.ga X.K (toS Cx')))) (tk : Takes X Wx) (hok1 : ∀ p ∈ l1, (He.Fa.exm (toS p.1) (toS C1) p.2).ok X.K = true) (hok : ∀ p ∈ l2, (He.Fa.exm (toS p.1) (toS Cx') p.2).ok X.K = true) (hC : only l2 C = true)
    (T : xfB X.K (He.ga X.K (toS C)) = true) (hno : (He.Fa.noat (toS C) (toS f)).ok X.K = true) (hF : F = toS f)
    (hb : ∀ (W : WX) (pn : List (Addr × Obj)) (xe : Value → Shared → Prop), Takes (X.tr pn xe) W → PassesOwn (model X.prog X.w) X.A X.env xe → PSs (X.tr pn xe) body (fS (gc X) W b))
    (hsu : ∀ (a : Addr) (pn : List (Addr × Obj)), PSs (X.suite a pn) (b₀ :: suite) (fS (gc X) (fun _ _ _ _ => False) sb))
    (hd : (n == ("__debug__" : Str)) = false := by decide) (hcd : (n == ("__classdict__" : Str)) = false := by decide)
    (hsw : swapsWith (.Attribute (.Name n p2) F p3) (some (.Name y p1)) ap.line X.env = pure false := by rfl) (hab : attributeBase (.Name n p2) F X.env (eval (.Name n p2) X.env) = eval (.Name n p2) X.env := by rfl) :
    PS X (.Try body [.ExceptHandler (some (.Name x1 np1)) none (b₀ :: suite) pos1, .ExceptHandler (some (.Name x np)) (some n) [.Assign [.Name y p1] (.Attribute (.Name n p2) F p3) ap] pos'] [] [] pos) (fS (gc X) Wx (mTryUF i j f (okOf l1) (okOf l2) b sb)) := by
  subst hF
  refine PS.imp (ps_try_mix (tb := fun W => fS (gc X) W b) hs hf hN tk hb
    (.cons hc1 (ts := fun _ _ _ => fS (gc X) (fun _ _ _ _ => False) sb) (fun a oe cls d pn _ _ => hsu a _)
      (.consN (i := i) hc hi hln (ts := fun a cls d => tAsg (tXf a cls d (He.ga X.K (toS C)) (toS f) (tVar i)) (gName j))
        (fun a oe cls d pn hz hfl => pss_one (ps_set (X := X.suite a ((a, oe) :: pn)) hN hj (.inl hy) (pe_xf (xfB_ok T) (find_none hno) hz hfl (pe_var hi (.inl hni) hd hcd) hab) hsw (.inr hy))) .nil))) fun D σ H h => ?_
  obtain ⟨W, env, rfl, s, r, p⟩ := h
  refine ⟨W, env, rfl, s, r, ?_⟩
  dsimp only [mTryUF] at p
  cases q : b env W.st with
  | exc z e1 st1 =>
    rw [q] at p
    dsimp only at p
    intro W1 σ1 e' s1 hs1 r1 cls dd hx
    have hx0 := hx
    obtain ⟨ec, hx2⟩ := hx
    cases ho1 : okOf l1 z.1 with
    | none => rw [ho1] at p; exact p.elim
    | some t1 =>
      rw [ho1] at p
      refine ⟨t1, by rw [ec]; exact okOf_ok hok1 _ _ ho1, fun ht a ha => ?_, fun ht => ?_⟩
      · subst ht
        exact ⟨W1, e1, rfl, s1, r1, by rw [hs1]; exact (PostS.ext (PostS.noE p) e')⟩
      · subst ht
        dsimp only at p
        cases ho : okOf l2 z.1 with
        | none => rw [ho] at p; exact p.elim
        | some t =>
          rw [ho] at p
          refine ⟨t, by rw [ec]; exact okOf_ok hok _ _ ho, fun ht a ha => ?_, fun ht => ?_⟩
          · subst ht
            have ez := only_ok hC _ ho
            cases hl : z.2.lookup f with
            | none => simp only [hl] at p; exact p.elim
            | some d =>
              simp only [hl] at p
              split at p
              rotate_left
              · exact p.elim
              rename_i hlt
              cases hz : z.2 with
              | nil => rw [hz] at hl; cases hl
              | cons u us =>
                rw [hz] at hx2 hl
                obtain ⟨da, vs, ed, hda, hm, k1, k2⟩ := hx2
                obtain ⟨v, hv, hvd⟩ := lookup_den k1 k2 hl
                have hlen : i < σ1.length := by
                  have := r1.1
                  omega
                refine ⟨.ref a, List.getElem?_set_self hlen, rfl, by rw [ec, ez], da, vs, v, ed, hda, hv, ?_⟩
                exact p W1 _ e' s1 hs1 (((r1.setN (i := i) (some (.ref a))).set j hvd).setN (i := i) none)
          · subst ht
            exact p W1 σ1 e' s1 hs1 r1 cls dd hx0
  | no => rw [q] at p; exact p
  | _ => rw [q] at p; exact p
end

/-! ### {} -/
def oDic0 : Me := fun _ st => .ok (.dic []) st
theorem e_dic0 {X : Cx} {Wx : WX} {pos : Pos} : PE X (.Dict [] [] pos) (fE (gc X) Wx oDic0) := PE.imp pe_dnewK fun σ H Q h => by
  obtain ⟨W, env, rfl, s, r, p⟩ := h
  intro q hq
  obtain ⟨e2, s2, n2⟩ := s.lay (o := .dK []) hq
  exact p _ e2 s2 rfl _ (.dic upd_same n2 rfl .nil)

/-! ### a, b, c = x, y, z -/
def mPar3 (i j l : Nat) (ma : Ma) : Ms := fun e st => (ma e st).flB e fun ds st1 => match ds with
  | [u, v, w] => .nx (((e.set i (some u)).set j (some v)).set l (some w)) st1
  | _ => .no
theorem s_par3 {X : Cx} {Wx : WX} {i j l : Nat} {x y z : Str} {a b c : Expr} {ma : Ma} {px py pz pt pos : Pos} {kt k2 pt2} (hc : X.calm = true) (hN : X.N.Nodup) (hi : X.N[i]? = some x) (hj : X.N[j]? = some y) (hl : X.N[l]? = some z) (hij : i ≠ j) (hil : i ≠ l) (hjl : j ≠ l)
    (hx : X.env.scope.names.lookup x = some .local) (hy : X.env.scope.names.lookup y = some .local) (hz : X.env.scope.names.lookup z = some .local) (ha : PA X [a, b, c] (fA (gc X) Wx ma))
    (hw : swappedStores [.Tuple [.Name x px, .Name y py, .Name z pz] kt pt] (.Tuple [a, b, c] k2 pt2) X.env = pure (some [x, y, z]))
    (hs : swapsWithSole [.Tuple [.Name x px, .Name y py, .Name z pz] kt pt] (.Tuple [a, b, c] k2 pt2) pos.line X.env = pure false := by rfl) :
    PS X (.Assign [.Tuple [.Name x px, .Name y py, .Name z pz] kt pt] (.Tuple [a, b, c] k2 pt2) pos) (fS (gc X) Wx (mPar3 i j l ma)) := by
  refine PS.imp (ps_par3 hc hN hi hj hl hij hil hjl hx hy hz ha hw hs) fun D σ H h => ?_
  obtain ⟨W, env, rfl, s, r, p⟩ := h
  show fA (gc X) Wx ma σ W.H fun vs H1 => ∃ u v w, vs = [u, v, w] ∧ D.nx (((σ.set i (some u)).set j (some v)).set l (some w)) H1
  refine ⟨W, env, rfl, s, r, ?_⟩
  dsimp only [mPar3] at p
  cases q : ma env W.st with
  | no => rw [q] at p; exact p
  | exc x st1 => rw [q] at p; exact fun W1 e1 s1 hs => p W1 σ e1 s1 hs (r.mono e1)
  | ok ds st1 =>
    rw [q] at p
    dsimp only [Res.flB] at p
    split at p
    · intro W1 e1 s1 hs vs hv
      cases hv with
      | cons h1 t1 => cases t1 with
        | cons h2 t2 => cases t2 with
          | cons h3 t3 =>
            cases t3
            exact ⟨_, _, _, rfl, p W1 _ e1 s1 hs ((((r.mono e1).set i h1).set j h2).set l h3)⟩
    · exact p.elim

/-! ### o.m(..) -/
section
variable {X : Cx} {Wx : WX} {j k : Nat} {ps : List Str} {F : List D → Store → Res D} {M : Str} {pos apos : Pos} {e o : Expr} {es : List Expr} {m : Me} {ml : Ma} {c f : S}
theorem c_meth {pl : Sem Bool} (hM : M = toS f) (G : FOk X.prog X.w X.K X.mg X.base (toS c, some M) k ps F) (hr : Room j X.A) (hj : k ≤ j) (hc : He.Fa.ok X.K (.cls (toS c)) = true) (hm : He.Fa.ok X.K (.meth (toS c) M) = true) (tk : Takes X Wx) (he : PE X o (fE (gc X) Wx m))
    (ha : PA X (e :: es) (fA (gc X) Wx ml)) (hst : starEach (e :: es) X.env = (false, eval e X.env) :: starEach es X.env := by rfl) (hpl : (backTo pos (starEach es X.env)).any (·.1) = false := by rfl)
    (ht : eval (.Call (.Attribute o M apos) (e :: es) [] pos) X.env = (do
      let ov ← eval o X.env
      standAt apos.atName
      let (f, first) ← holding [ov] (getMethod ov M pl)
      callWith pos f first (backTo pos (starEach (e :: es) X.env)) (backToKw pos (keywordEach [] X.env))) := by rfl) :
    PE X (.Call (.Attribute o M apos) (e :: es) [] pos) (fE (gc X) Wx (mMeth c f F m ml)) := by
  obtain ⟨fd, G, hb, hk, _⟩ := G
  exact e_meth hM he (He.cls_ok hc) (He.meth_ok hm) G (hr.mono hj) tk hb ha hst hpl ht
theorem c_meth0 {pl : Sem Bool} (hM : M = toS f) (G : FOk X.prog X.w X.K X.mg X.base (toS c, some M) k ps F) (hr : Room j X.A) (hj : k ≤ j) (hc : He.Fa.ok X.K (.cls (toS c)) = true) (hm : He.Fa.ok X.K (.meth (toS c) M) = true) (tk : Takes X Wx) (he : PE X o (fE (gc X) Wx m))
    (ht : eval (.Call (.Attribute o M apos) [] [] pos) X.env = (do
      let ov ← eval o X.env
      standAt apos.atName
      let (f, first) ← holding [ov] (getMethod ov M pl)
      callWith pos f first (backTo pos (starEach [] X.env)) (backToKw pos (keywordEach [] X.env))) := by rfl) :
    PE X (.Call (.Attribute o M apos) [] [] pos) (fE (gc X) Wx (mMeth c f F m mNil)) := by
  obtain ⟨fd, G, hb, hk, _⟩ := G
  exact e_meth0 hM he (He.cls_ok hc) (He.meth_ok hm) G (hr.mono hj) tk hb ht
end
end FL
end
section
set_option Elab.async false
set_option linter.all false
set_option maxRecDepth 100000
/-! FMO: dicts. -/
namespace FL
open PySem PySem.Spec PyProof.Rows L2
/-! ### dicts as data -/
def keyEq : D → D → Bool
  | .int a, .int b => decide (a = b)
  | .str a, .str b => decide (a = b)
  | _, _ => false
def isKey : D → Bool
  | .int _ => true
  | .str _ => true
  | _ => false
def dGet (kvs : List (D × D)) (k : D) : Option D := (kvs.find? fun p => keyEq p.1 k).map (·.2)
def dPut (kvs : List (D × D)) (k v : D) : List (D × D) := if (kvs.any fun p => keyEq p.1 k) = true then kvs.map (fun p => if keyEq p.1 k = true then (p.1, v) else p) else kvs ++ [(k, v)]
def dMerge (kvs : List (D × D)) : List (D × D) := kvs.foldl (fun acc p => dPut acc p.1 p.2) []
theorem keyEq_kD (a b : Key) : keyEq (kD a) (kD b) = decide (a = b) := by
  cases a with
  | inl i => cases b with
    | inl j => simp [kD, keyEq]
    | inr y => simp [kD, keyEq]
  | inr x => cases b with
    | inl j => simp [kD, keyEq]
    | inr y =>
      simp only [kD, keyEq]
      by_cases e : x = y
      · subst e; simp
      · have : ¬ x.cps.toList = y.cps.toList := fun h => e (by rw [← toS_of x, ← toS_of y, h])
        simp [e, this]
/-- kv stands for kvs -/
def DKV (g : Gc) (W : Wd) (kv : List (Key × V)) (kvs : List (D × D)) : Prop := kvs.map (·.1) = kv.map (fun p => kD p.1) ∧ DenL g W (kv.map (·.2)) (kvs.map (·.2))
section
variable {g : Gc} {W W' : Wd}
theorem DKV.nil : DKV g W [] [] := ⟨rfl, .nil⟩
theorem DKV.cons_inv {p : Key × V} {kv : List (Key × V)} {q : D × D} {kvs : List (D × D)} (h : DKV g W (p :: kv) (q :: kvs)) : q.1 = kD p.1 ∧ Den g W p.2 q.2 ∧ DKV g W kv kvs := by
  obtain ⟨h1, h2⟩ := h
  rw [List.map_cons, List.map_cons] at h1 h2
  obtain ⟨e1, e2⟩ := List.cons.inj h1
  cases h2 with
  | cons a b => exact ⟨e1, a, e2, b⟩
theorem DKV.cons {p : Key × V} {kv : List (Key × V)} {q : D × D} {kvs : List (D × D)} (h1 : q.1 = kD p.1) (h2 : Den g W p.2 q.2) (h : DKV g W kv kvs) : DKV g W (p :: kv) (q :: kvs) := ⟨by rw [List.map_cons, List.map_cons, h1, h.1], .cons h2 h.2⟩
theorem DKV.len {kv : List (Key × V)} {kvs : List (D × D)} (h : DKV g W kv kvs) : kv.length = kvs.length := by
  have := congrArg List.length h.1
  simpa using this.symm
theorem DKV.mono {kv : List (Key × V)} {kvs : List (D × D)} (e : ExtW W W') (h : DKV g W kv kvs) : DKV g W' kv kvs := ⟨h.1, h.2.monoW e⟩
theorem DKV.get {k : Key} : ∀ {kv : List (Key × V)} {kvs : List (D × D)}, DKV g W kv kvs → (∀ d, dGet kvs (kD k) = some d → ∃ v, valV kv k = some v ∧ Den g W v d) ∧ (dGet kvs (kD k) = none → valV kv k = none)
  | [], [], _ => ⟨(fun d h => nomatch h), fun _ => rfl⟩
  | [], q :: kvs, h => by have := h.len; simp at this
  | p :: kv, [], h => by have := h.len; simp at this
  | p :: kv, q :: kvs, h => by
    obtain ⟨h1, h2, h3⟩ := h.cons_inv
    have ih := DKV.get (k := k) h3
    have ek : keyEq q.1 (kD k) = decide (p.1 = k) := by rw [h1, keyEq_kD]
    by_cases e : p.1 = k
    · have e1 : dGet (q :: kvs) (kD k) = some q.2 := by unfold dGet; rw [List.find?_cons_of_pos (by rw [ek]; simpa using e)]; rfl
      rw [e1, valV_pos e]
      exact ⟨fun d hd => by cases hd; exact ⟨p.2, rfl, h2⟩, fun h => nomatch h⟩
    · have e1 : dGet (q :: kvs) (kD k) = dGet kvs (kD k) := by unfold dGet; rw [List.find?_cons_of_neg (by rw [ek]; simpa using e)]
      rw [e1, valV_neg e]
      exact ih
theorem DKV.any {k : Key} : ∀ {kv : List (Key × V)} {kvs : List (D × D)}, DKV g W kv kvs → (kvs.any fun p => keyEq p.1 (kD k)) = kv.any fun p => decide (p.1 = k)
  | [], [], _ => rfl
  | [], q :: kvs, h => by have := h.len; simp at this
  | p :: kv, [], h => by have := h.len; simp at this
  | p :: kv, q :: kvs, h => by
    obtain ⟨h1, h2, h3⟩ := h.cons_inv
    rw [List.any_cons, List.any_cons, DKV.any h3, h1, keyEq_kD]
theorem DKV.app {kv : List (Key × V)} {kvs : List (D × D)} (h : DKV g W kv kvs) {k : Key} {v : V} {d : D} (hv : Den g W v d) : DKV g W (kv ++ [(k, v)]) (kvs ++ [(kD k, d)]) := by
  refine ⟨by rw [List.map_append, List.map_append, h.1]; rfl, ?_⟩
  rw [List.map_append, List.map_append]
  exact h.2.append (.cons hv .nil)
theorem DKV.repl {k : Key} {v : V} {d : D} (hv : Den g W v d) : ∀ {kv : List (Key × V)} {kvs : List (D × D)}, DKV g W kv kvs → DKV g W (kv.map fun p => if p.1 = k then (p.1, v) else p) (kvs.map fun p => if keyEq p.1 (kD k) = true then (p.1, d) else p)
  | [], [], _ => .nil
  | [], q :: kvs, h => by have := h.len; simp at this
  | p :: kv, [], h => by have := h.len; simp at this
  | p :: kv, q :: kvs, h => by
    obtain ⟨h1, h2, h3⟩ := h.cons_inv
    have ih := DKV.repl (k := k) hv h3
    have ek : keyEq q.1 (kD k) = decide (p.1 = k) := by rw [h1, keyEq_kD]
    rw [List.map_cons, List.map_cons]
    by_cases e : p.1 = k
    · rw [if_pos e, if_pos (by rw [ek]; simpa using e)]
      exact .cons h1 hv ih
    · rw [if_neg e, if_neg (by rw [ek]; simpa using e)]
      exact .cons h1 h2 ih
theorem DKV.put {k : Key} {v : V} {d : D} {kv : List (Key × V)} {kvs : List (D × D)} (h : DKV g W kv kvs) (hv : Den g W v d) : DKV g W (putK kv k v) (dPut kvs (kD k) d) := by
  unfold putK dPut
  rw [h.any]
  split
  · exact h.repl hv
  · exact h.app hv
theorem DKV.merge : ∀ {more : List (Key × V)} {mores : List (D × D)} {kv : List (Key × V)} {kvs : List (D × D)}, DKV g W more mores → DKV g W kv kvs → DKV g W (mergeK kv more) (mores.foldl (fun acc p => dPut acc p.1 p.2) kvs)
  | [], [], _, _, _, h => h
  | [], q :: kvs, _, _, h, _ => by have := h.len; simp at this
  | p :: kv, [], _, _, h, _ => by have := h.len; simp at this
  | p :: r, q :: rs, kv, kvs, h, h0 => by
    obtain ⟨h1, h2, h3⟩ := h.cons_inv
    have := DKV.merge h3 (h0.put (k := p.1) h2)
    rw [← h1] at this
    exact this
/-- a key's value -/
theorem key_inv {v : V} {d : D} (h : Den g W v d) (k : isKey d = true) : ∃ x : Key, v = kV x ∧ d = kD x := by
  cases d with
  | int i => cases h.int_inv; exact ⟨.inl i, rfl, rfl⟩
  | str s => obtain ⟨rfl, _⟩ := h.str_inv; exact ⟨.inr (toS s), rfl, by simp [kD, toS]⟩
  | _ => cases k
theorem DGet.kr {H : Hp} {a : Addr} {kvs : List (Key × V)} {k : Key} (e : Rd H a (.dK kvs)) : DGet H a (kV k) (valV kvs k) := .inl ⟨kvs, k, e, rfl, rfl⟩
/-- what a dict holds -/
def dicOf : D → Store → Option (List (D × D))
  | .dic kvs, _ => some kvs
  | .ref n, st => match st[n]? with
    | some (.dic kvs) => some kvs
    | _ => none
  | _, _ => none
theorem dicOf_inv {v : V} {d : D} {kvs : List (D × D)} (s : SR g W) (h : Den g W v d) (e : dicOf d W.st = some kvs) : ∃ a kv, v = .ref a ∧ Rd W.H a (.dK kv) ∧ DKV g W kv kvs := by
  cases d with
  | dic l =>
    cases e
    cases h with
    | @dic a kv _ h1 _ h2 h3 => exact ⟨a, kv, rfl, .inl h1, h2, h3⟩
    | @dicF a o kv _ h1 _ h2 h3 => exact ⟨a, kv, rfl, .inr ⟨o, h1⟩, h2, h3⟩
  | ref n =>
    cases h with
    | @ref a _ ha =>
    dsimp only [dicOf] at e
    cases q : W.st[n]? with
    | none => rw [q] at e; cases e
    | some c =>
      rw [q] at e
      cases c with
      | dic l =>
        cases e
        obtain ⟨kv, h1, h2, h3⟩ := s.cell n a _ ha q
        exact ⟨a, kv, rfl, .inl h1, h2, h3⟩
      | _ => cases e
  | _ => cases e
end
/-! ### d[k] -/
def oIxD (x k : D) (st : Store) : Res D := if isKey k = true then (match dicOf x st with
  | some kvs => match dGet kvs k with
    | some d => .ok d st
    | none => .no
  | none => .no) else .no
section
variable {X : Cx} {Wx : WX} {o i e f : Expr} {pos cpos apos : Pos} {mo mi mf : Me}
theorem e_ixD (hu : X.A.units + 1 < cLine) (ho : PE X o (fE (gc X) Wx mo)) (hi : PE X i (fE (gc X) Wx mi)) (hs : NoSl i := by exact fun _ _ => rfl) : PE X (.Subscript o i pos) (fE (gc X) Wx (a2 oIxD mo mi)) :=
  PE.imp (pe_dget hu ho hi hs) fun σ H Q h => by
    show fE (gc X) Wx mo σ H fun x H1 => fE (gc X) Wx mi σ H1 fun y H2 => ∃ a v, x = .ref a ∧ DGet H2 a y (some v) ∧ Q v H2
    refine fG_mono (lift2 h) fun x H1 h1 => fG_mono h1 fun y H2 ⟨W, d, k, e, s, hx, hy, p⟩ => ?_
    subst e
    dsimp only [oIxD] at p
    split at p
    · rename_i hk
      obtain ⟨key, rfl, rfl⟩ := key_inv hy hk
      cases q : dicOf d W.st with
      | none => rw [q] at p; exact p.elim
      | some kvs =>
        rw [q] at p
        obtain ⟨a, kv, rfl, hH, r⟩ := dicOf_inv s hx q
        dsimp only at p
        cases q2 : dGet kvs (kD key) with
        | none => rw [q2] at p; exact p.elim
        | some d' =>
          rw [q2] at p
          obtain ⟨v, hv, hd⟩ := (r.get (k := key)).1 _ q2
          refine ⟨a, v, rfl, ?_, p W (Ext.refl W) s rfl v hd⟩
          rw [← hv]
          exact FL.DGet.kr hH
    · exact p.elim
end
/-! ### d[k] = v -/
def stD (o k v : D) (e : En) (st : Store) : Fl := match o with
  | .ref n => match st[n]? with
    | some (.dic kvs) => if isKey k = true ∧ kvs.length < BIG then .nx e (st.set n (.dic (dPut kvs k v))) else .no
    | _ => .no
  | _ => .no
def gIxD (mo mi : Me) : Mg := fun d e st => (mo e st).fl e fun o st1 => (mi e st1).fl e fun i st2 => stD o i d e st2
section
variable {X : Cx} {Wx : WX} {pos : Pos} {o i : Expr} {mo mi : Me} {ns : List Nat}
theorem g_ixD (hu : X.A.units + 1 < cLine) (ho : PE X o (fE (gc X) Wx mo)) (hi : PE X i (fE (gc X) Wx mi))
    (ha : ∀ v, assign (.Subscript o i pos) X.env v = (do
      let ov ← holding [v] (eval o X.env)
      let iv ← holding [v, ov] (eval i X.env)
      standAt pos
      holding [v, ov, iv] (setItem ov iv v)
      release [v, ov, iv] []) := by intro _; rfl) : PG X (.Subscript o i pos) (fTg (gc X) Wx ns (gIxD mo mi)) := PG.imp (pg_sub ho hi (set_dict hu) ha) fun v σ H Q h => by
  show fE (gc X) Wx mo σ H fun o H1 => fE (gc X) Wx mi σ H1 fun i H2 => rSetD o i v H2 fun H3 => Q σ H3
  obtain ⟨W, env, d, rfl, s, r, hv, p⟩ := h
  refine ⟨W, env, rfl, s, r, ?_⟩
  dsimp only [gIxD] at p
  cases q1 : mo env W.st with
  | no => rw [q1] at p; exact p
  | exc x st1 => rw [q1] at p; exact fun W1 e1 s1 hs => p W1 σ e1 s1 hs (r.mono e1)
  | ok od st1 =>
    rw [q1] at p
    dsimp only [Res.fl] at p
    refine fun W1 e1 s1 hs1 ov hov => ⟨W1, env, rfl, s1, r.mono e1, ?_⟩
    rw [hs1]
    cases q2 : mi env st1 with
    | no => rw [q2] at p; exact p
    | exc x st2 => rw [q2] at p; exact fun W2 e2 s2 hs => p W2 σ (e1.trans e2) s2 hs ((r.mono e1).mono e2)
    | ok di st2 =>
      rw [q2] at p
      dsimp only at p
      refine fun W2 e2 s2 hs2 iv hiv => ?_
      cases od with
      | ref n =>
        dsimp only [stD] at p
        cases q3 : st2[n]? with
        | none => rw [q3] at p; exact p.elim
        | some c =>
          rw [q3] at p
          cases c with
          | dic kvs =>
            dsimp only at p
            split at p
            · rename_i hk
              obtain ⟨hk1, hk2⟩ := hk
              obtain ⟨key, rfl, rfl⟩ := key_inv hiv hk1
              cases hov.mono e2 with
              | @ref a _ ha =>
              rw [← hs2] at q3
              obtain ⟨kv, h1, h2, h3⟩ := s2.cell n a _ ha q3
              have r0 : DKV (gc X) W2 kv kvs := ⟨h2, h3⟩
              obtain ⟨e3, s3⟩ := s2.cellSet (o := .dK (putK kv key v)) (c := .dic (dPut kvs (kD key) d)) ha q3 rfl rfl fun W' e' h => ⟨_, h, (r0.mono e'.toExtW).put (((hv.mono e1).mono e2).mono e')⟩
              refine ⟨a, _, rfl, DPut.k h1 (by rw [r0.len]; exact hk2), ?_⟩
              exact p _ σ ((e1.trans e2).trans e3) s3 (by show W2.st.set n _ = _; rw [hs2]) (((r.mono e1).mono e2).mono e3) rfl
            · exact p.elim
          | _ => exact p.elim
      | _ => exact p.elim
end
end FL
end
section
set_option Elab.async false
set_option linter.all false
set_option maxRecDepth 100000
/-! FMP: dict displays, copies, .get. -/
namespace FL
open PySem PySem.Spec PyProof.Rows L2
/-- a new object at p kept for another's use -/
def Wd.pushO (W : Wd) (p : Addr) (o : HO) : Wd := { W with H := upd W.H p o, rs := p :: W.rs }
section
variable {g : Gc} {W W' : Wd} {p : Addr} {o : HO}
theorem pushO_mono (hp : W.H p = none) : ExtW W (W.pushO p o) := by
  refine ⟨fun a u h n => ?_, fun _ _ h => h⟩
  have ha : a ≠ p := fun e => by rw [e, hp] at h; cases h
  refine ⟨by show upd W.H p _ a = _; rw [upd_ne ha]; exact h, ?_⟩
  rintro (m | m)
  · rcases List.mem_cons.mp m with m | m
    · exact ha m
    · exact n (.inl m)
  · exact n (.inr m)
theorem SR.pushO (s : SR g W) (hp : W.H p = none) (ho : ∀ xs, o ≠ .tup xs) : SR g (W.pushO p o) := by
  have hn : ∀ {a : Addr}, (∃ o, W.H a = some o) → a ≠ p := fun ⟨o, h⟩ e => by rw [e, hp] at h; cases h
  have st : ∀ {a : Addr} {u : HO}, W.H a = some u → upd W.H p o a = some u := fun h => by rw [upd_ne (hn ⟨_, h⟩)]; exact h
  refine ⟨s.len, s.nd, fun a ha => (s.ex a ha).imp fun _ h => st h, fun a ha => ?_, fun n a c h1 h2 => (s.cell n a c h1 h2).mono (pushO_mono hp) fun hl => upd_ne (hn ((s.cell n a c h1 h2).there hl))⟩
  rcases List.mem_cons.mp ha with e | ha
  · subst e
    exact ⟨⟨_, upd_same, ho⟩, fun h => hn (s.ex _ h) rfl⟩
  · exact ⟨(s.rx a ha).1.imp fun _ h => ⟨st h.1, h.2⟩, (s.rx a ha).2⟩
/-- what happened behind the push, seen from before it -/
theorem unpushO (s : SR g W) (hp : W.H p = none) (e' : Ext (W.pushO p o) W') : Ext W W'.pop := by
  have er : W'.rs = p :: W.rs := e'.rs
  have anr : p ∉ W.rs := fun h => by obtain ⟨⟨o, h1, _⟩, _⟩ := s.rx p h; rw [hp] at h1; cases h1
  refine ⟨(pushO_mono hp).trans (e'.toExtW.trans pop_mono), by show W'.rs.tail = W.rs; rw [er]; rfl, fun b hb => ?_⟩
  have hba : b ≠ p := fun e => anr (e ▸ hb)
  have h1 : W'.H b = (W.pushO p o).H b := e'.rk b (List.mem_cons_of_mem _ hb)
  show W'.H b = W.H b
  rw [h1]
  exact upd_ne hba
/-- the kept object is written and given free -/
def Wd.wrO (W : Wd) (p : Addr) (o : HO) : Wd := { W with H := upd W.H p o, rs := W.rs.tail }
theorem wrO_mono (hp : p ∈ W.rs) : ExtW W (W.wrO p o) := by
  refine ⟨fun a u h n => ?_, fun _ _ h => h⟩
  have ha : a ≠ p := fun e => n (.inl (e ▸ hp))
  refine ⟨by show upd W.H p _ a = _; rw [upd_ne ha]; exact h, ?_⟩
  rintro (m | m)
  · exact n (.inl (List.mem_of_mem_tail m))
  · exact n (.inr m)
theorem SR.wrO (s : SR g W) (hp : p ∈ W.rs) (ht : p ∉ W.rs.tail) : SR g (W.wrO p o) ∧ ¬ Mu (W.wrO p o) p := by
  have hcs : p ∉ W.cs := (s.rx p hp).2
  have hne : ∀ {a}, a ∈ W.cs → a ≠ p := fun h e => hcs (e ▸ h)
  refine ⟨⟨s.len, s.nd, fun a ha => ?_, fun a ha => ⟨?_, (s.rx a (List.mem_of_mem_tail ha)).2⟩, fun n a c h1 h2 => (s.cell n a c h1 h2).mono (wrO_mono hp) fun hl => upd_ne (hne (List.mem_of_getElem? h1))⟩, ?_⟩
  · show ∃ u, upd W.H p _ a = some u
    rw [upd_ne (hne ha)]; exact s.ex a ha
  · have ha' : a ≠ p := fun e => ht (e ▸ ha)
    obtain ⟨u, h1, h2⟩ := (s.rx a (List.mem_of_mem_tail ha)).1
    exact ⟨u, by show upd W.H p o a = _; rw [upd_ne ha']; exact h1, h2⟩
  · rintro (m | ⟨n, c, h1, _, _⟩)
    · exact ht m
    · exact hcs (List.mem_of_getElem? h1)
theorem ExD.monoW {cls : Value} {dd : Option Addr} {x : Exn} (e : ExtW W W') (h : ExD g W cls dd x) : ExD g W' cls dd x := by
  obtain ⟨x1, x2⟩ := x
  obtain ⟨h1, h2⟩ := h
  refine ⟨h1, ?_⟩
  cases x2 with
  | nil => exact h2
  | cons p r =>
    obtain ⟨a, vs, q1, q2, q3, q4, q5⟩ := h2
    exact ⟨a, vs, q1, (e.fz _ _ q2 q3).1, (e.fz _ _ q2 q3).2, q4, q5.monoW e⟩
end
/-! ### pairs -/
def mPrs : List (Me × Me) → En → Store → Res (List (D × D))
  | [], _, st => .ok [] st
  | (k, v) :: r, e, st => (k e st).bind fun x st1 => (v e st1).bind fun y st2 => (mPrs r e st2).bind fun l st3 => .ok ((x, y) :: l) st3
def PrD (g : Gc) (W : Wd) (vs : List (V × V)) (kvs : List (D × D)) : Prop := DenL g W (vs.map (·.1)) (kvs.map (·.1)) ∧ DenL g W (vs.map (·.2)) (kvs.map (·.2))
abbrev trsOf (g : Gc) (Wx : WX) (ps : List (Me × Me)) : List (TE × TE) := ps.map fun p => (fE g Wx p.1, fE g Wx p.2)
theorem prs_lift {g : Gc} {Wx : WX} {σ : L2.St} : ∀ (ps : List (Me × Me)) (W : Wd) (env : En) (Q : List (V × V) → Hp → Prop), SR g W → EnvR g W σ env →
    Post g W (wx g Wx σ) (mPrs ps env W.st) (fun kvs W' => ∀ vs, PrD g W' vs kvs → Q vs W'.H) → tPairs (trsOf g Wx ps) σ W.H Q
  | [], W, env, Q, s, r, p => p W (Ext.refl W) s rfl [] ⟨.nil, .nil⟩
  | (k, v) :: ps, W, env, Q, s, r, p => by
    show fE g Wx k σ W.H fun x H1 => fE g Wx v σ H1 fun y H2 => tPairs (trsOf g Wx ps) σ H2 fun l H3 => Q ((x, y) :: l) H3
    refine ⟨W, env, rfl, s, r, ?_⟩
    dsimp only [mPrs] at p
    cases q1 : k env W.st with
    | no => rw [q1] at p; exact p
    | exc x st1 => rw [q1] at p; exact p
    | ok dk st1 =>
      rw [q1] at p
      intro W1 e1 s1 hs1 x hx
      refine ⟨W1, env, rfl, s1, r.mono e1, ?_⟩
      dsimp only [Res.bind] at p
      rw [hs1]
      cases q2 : v env st1 with
      | no => rw [q2] at p; exact p
      | exc x st2 => rw [q2] at p; exact Post.ext p e1
      | ok dv st2 =>
        rw [q2] at p
        intro W2 e2 s2 hs2 y hy
        refine prs_lift ps W2 env _ s2 ((r.mono e1).mono e2) ?_
        dsimp only at p
        rw [hs2]
        cases q3 : mPrs ps env st2 with
        | no => rw [q3] at p; exact p
        | exc x st3 => rw [q3] at p; exact Post.ext (Post.ext p e1) e2
        | ok l st3 =>
          rw [q3] at p
          intro W3 e3 s3 hs3 vs hvs
          exact p W3 ((e1.trans e2).trans e3) s3 hs3 ((x, y) :: vs) ⟨.cons ((hx.mono e2).mono e3) hvs.1, .cons (hy.mono e3) hvs.2⟩
theorem keys_inv {g : Gc} {W : Wd} : ∀ {vs : List (V × V)} {kvs : List (D × D)}, PrD g W vs kvs → (kvs.all fun p => isKey p.1) = true → ∃ kv : List (Key × V), vs = kv.map (fun p => (kV p.1, p.2)) ∧ DKV g W kv kvs
  | [], [], _, _ => ⟨[], rfl, .nil⟩
  | [], q :: kvs, h, _ => by have := h.1.length; simp at this
  | p :: vs, [], h, _ => by have := h.1.length; simp at this
  | p :: vs, q :: kvs, h, hk => by
    obtain ⟨h1, h2⟩ := h
    rw [List.map_cons, List.map_cons] at h1 h2
    rw [List.all_cons] at hk
    obtain ⟨k1, k2⟩ := ba2 hk
    cases h1 with
    | cons a1 b1 => cases h2 with
      | cons a2 b2 =>
        obtain ⟨key, e1, e2⟩ := key_inv a1 k1
        obtain ⟨kv, e3, r⟩ := keys_inv ⟨b1, b2⟩ k2
        refine ⟨(key, p.2) :: kv, ?_, .cons e2 a2 r⟩
        rw [List.map_cons, e3, ← e1]
def mkDic (c : Bool) (kvs : List (D × D)) (st : Store) : Res D := if c = true then .ok (.ref st.length) (st ++ [.dic kvs]) else .ok (.dic kvs) st
def mDisp (c : Bool) (ps : List (Me × Me)) : Me := fun e st => (mPrs ps e st).bind fun kvs st1 => if (kvs.all fun p => isKey p.1) = true ∧ kvs.length ≤ 15 then mkDic c (dMerge kvs) st1 else .no
/-- a written object becomes a cell -/
theorem SR.asCell {g : Gc} {W : Wd} (s : SR g W) {p : Addr} {c : Cell} (hp : ∃ o, W.H p = some o) (hn : ¬ Mu W p) (hcs : p ∉ W.cs) (hrs : p ∉ W.rs) (e0 : ∀ W' : Wd, W'.H = W.H → W'.cs = W.cs ++ [p] → W'.rs = W.rs → CellOk g W' p c)
    (old : ∀ a o, W.H a = some o → ¬ Mu W a → a ≠ p → True) : True := trivial
theorem disp_im {g : Gc} {Wx : WX} {σ : L2.St} {H : Hp} {Q : VK} {c : Bool} {ps : List (Me × Me)} (h : fE g Wx (mDisp c ps) σ H Q) : tDisp (trsOf g Wx ps) σ H Q := by
  obtain ⟨W, env, rfl, s, r, p⟩ := h
  intro a ha
  have sp : SR g (W.pushO a (.dK [])) := s.pushO ha (fun xs e => nomatch e)
  have anr : a ∉ W.rs := fun h => by obtain ⟨⟨o, h1, _⟩, _⟩ := s.rx a h; rw [ha] at h1; cases h1
  refine prs_lift ps (W.pushO a (.dK [])) env _ sp (r.monoW (pushO_mono ha)) ?_
  show Post g (W.pushO a (.dK [])) (wx g Wx σ) (mPrs ps env W.st) _
  dsimp only [mDisp] at p
  cases q : mPrs ps env W.st with
  | no => rw [q] at p; exact p
  | exc x st1 =>
    rw [q] at p
    intro W' e' s' hs' cls dd hx
    exact p W'.pop (unpushO s ha e') s'.pop hs' cls dd (hx.monoW pop_mono)
  | ok kvs st1 =>
    rw [q] at p
    dsimp only [Res.bind] at p
    intro W' e' s' hs' vs hvs
    split at p
    · rename_i hk
      obtain ⟨kv, rfl, rel⟩ := keys_inv hvs hk.1
      have er : W'.rs = a :: W.rs := e'.rs
      have hin : a ∈ W'.rs := by rw [er]; exact List.mem_cons_self
      have htl : a ∉ W'.rs.tail := by rw [er]; exact anr
      have hHa : W'.H a = some (.dK []) := by
        have := e'.rk a (by show a ∈ a :: W.rs; exact List.mem_cons_self)
        rw [this]
        exact upd_same
      refine ⟨hHa, kv, rfl, by rw [rel.len]; exact hk.2, ?_⟩
      obtain ⟨sw, nm⟩ := s'.wrO (o := .dK (mergeK [] kv)) hin htl
      have eW : Ext W (W'.wrO a (.dK (mergeK [] kv))) := by
        refine ⟨(pushO_mono ha).trans (e'.toExtW.trans (wrO_mono hin)), by show W'.rs.tail = W.rs; rw [er]; rfl, fun b hb => ?_⟩
        have hba : b ≠ a := fun e => anr (e ▸ hb)
        have h1 : W'.H b = (W.pushO a (.dK [])).H b := e'.rk b (List.mem_cons_of_mem _ hb)
        show upd W'.H a _ b = W.H b
        rw [upd_ne hba, h1]
        exact upd_ne hba
      have rel2 : DKV g (W'.wrO a (.dK (mergeK [] kv))) (mergeK [] kv) (dMerge kvs) := (rel.mono (wrO_mono hin)).merge .nil
      unfold mkDic at p
      cases c with
      | false =>
        exact p _ eW sw hs' _ (.dic upd_same nm rel2.1 rel2.2)
      | true =>
        -- as a cell
        have hcs : a ∉ W'.cs := (s'.rx a hin).2
        have stt : W'.st.length = W'.cs.length := s'.len.symm
        let W2 : Wd := { W'.wrO a (.dK (mergeK [] kv)) with cs := W'.cs ++ [a], st := W'.st ++ [.dic (dMerge kvs)] }
        have mu : ∀ {b}, Mu W2 b → b = a ∨ Mu (W'.wrO a (.dK (mergeK [] kv))) b := by
          rintro b (m | ⟨n, c, h1, h2, h3⟩)
          · exact .inr (.inl m)
          have h1' : (W'.cs ++ [a])[n]? = some b := h1
          have h2' : (W'.st ++ [.dic (dMerge kvs)])[n]? = some c := h2
          by_cases hm : n < W'.cs.length
          · rw [List.getElem?_append_left hm] at h1'
            rw [List.getElem?_append_left (by rw [stt]; exact hm)] at h2'
            exact .inr (.inr ⟨n, c, h1', h2', h3⟩)
          · rw [List.getElem?_append_right (by omega)] at h1'
            cases hq : n - W'.cs.length with
            | zero => rw [hq] at h1'; simp at h1'; exact .inl h1'.symm
            | succ k => rw [hq] at h1'; simp at h1'
        -- from W on, nothing that was frozen is at a
        have e2W : Ext W W2 := by
          refine ⟨⟨fun b o hb nb => ?_, fun n b hb => ?_⟩, eW.rs, eW.rk⟩
          · obtain ⟨h1, h2⟩ := eW.fz b o hb nb
            have hba : b ≠ a := fun e => by rw [e, ha] at hb; cases hb
            exact ⟨h1, fun m => (mu m).elim hba h2⟩
          · have h1 : W'.cs[n]? = some b := eW.cs n b hb
            show (W'.cs ++ [a])[n]? = some b
            rw [List.getElem?_append_left (List.getElem?_eq_some_iff.mp h1).1]
            exact h1
        -- what holds in the world before the write holds in W2
        have hmono : ExtW W' W2 := by
          refine ⟨fun b o hb nb => ?_, fun n b hb => ?_⟩
          · have hba : b ≠ a := fun e => nb (.inl (e ▸ hin))
            obtain ⟨h1, h2⟩ := (wrO_mono (o := .dK (mergeK [] kv)) hin).fz b o hb nb
            exact ⟨h1, fun m => (mu m).elim hba h2⟩
          · show (W'.cs ++ [a])[n]? = some b
            rw [List.getElem?_append_left (List.getElem?_eq_some_iff.mp hb).1]
            exact hb
        have rel3 : DKV g W2 (mergeK [] kv) (dMerge kvs) := (rel.mono hmono).merge .nil
        have s2 : SR g W2 := by
          refine ⟨by show (W'.cs ++ [a]).length = (W'.st ++ [_]).length; simp [stt], List.nodup_append.mpr ⟨s'.nd, by simp, fun x hx y hy q => by simp at hy; subst hy; exact hcs (q ▸ hx)⟩, fun b hb => ?_, fun b hb => ?_, fun n b c h1 h2 => ?_⟩
          · show ∃ u, upd W'.H a _ b = some u
            rcases List.mem_append.mp hb with h | h
            · rw [upd_ne (fun e => hcs (by rw [← e]; exact h))]; exact s'.ex b h
            · simp at h; subst h; exact ⟨_, upd_same⟩
          · obtain ⟨q1, q2⟩ := sw.rx b hb
            refine ⟨q1, fun h => ?_⟩
            rcases List.mem_append.mp h with h | h
            · exact q2 h
            · simp at h
              subst h
              exact htl hb
          · have h1' : (W'.cs ++ [a])[n]? = some b := h1
            have h2' : (W'.st ++ [.dic (dMerge kvs)])[n]? = some c := h2
            by_cases hm : n < W'.cs.length
            · rw [List.getElem?_append_left hm] at h1'
              rw [List.getElem?_append_left (by rw [stt]; exact hm)] at h2'
              have hba : b ≠ a := fun e => hcs (e ▸ List.mem_of_getElem? h1')
              exact (s'.cell n b c h1' h2').mono hmono fun _ => by show upd W'.H a _ b = _; rw [upd_ne hba]
            · rw [List.getElem?_append_right (by omega)] at h1'
              rw [List.getElem?_append_right (by omega)] at h2'
              cases hq : n - W'.cs.length with
              | zero =>
                rw [hq] at h1'
                rw [stt, hq] at h2'
                simp at h1' h2'
                subst h1' h2'
                exact ⟨_, upd_same, rel3.1, rel3.2⟩
              | succ k => rw [hq] at h1'; simp at h1'
        refine p W2 e2W s2 (by show W'.st ++ _ = st1 ++ _; rw [hs']) _ (.ref ?_)
        show (W'.cs ++ [a])[st1.length]? = some a
        rw [← hs', stt]
        simp
    · exact p.elim
/-- the pairs' readings -/
inductive PrsOk (X : Cx) (Wx : WX) (pos : Pos) : List (Option Expr) → List Expr → List (Me × Me) → Prop
  | nil : PrsOk X Wx pos [] [] []
  | cons {k v : Expr} {ks : List (Option Expr)} {vs : List Expr} {mk mv : Me} {ps : List (Me × Me)} (hk : PE X k (fE (gc X) Wx mk)) (hv : PE X v (fE (gc X) Wx mv)) (r : PrsOk X Wx pos ks vs ps) : PrsOk X Wx pos (some k :: ks) (v :: vs) ((mk, mv) :: ps)
theorem PrsOk.pps {X : Cx} {Wx : WX} {pos : Pos} {ks : List (Option Expr)} {vs : List Expr} {ps : List (Me × Me)} (h : PrsOk X Wx pos ks vs ps) : PPs X pos ks vs (trsOf (gc X) Wx ps) := by
  induction h with
  | nil => exact pps_nil
  | cons hk hv r ih => exact pps_cons hk hv ih
theorem e_disp {X : Cx} {Wx : WX} {pos : Pos} {ks : List (Option Expr)} {vs : List Expr} {ps : List (Me × Me)} {c : Bool} (h : PrsOk X Wx pos ks vs ps) (hall : ks.all (·.isSome) = true := by rfl) (hl : ks.length = vs.length := by rfl) (h0 : ks ≠ [] := by exact fun e => nomatch e)
    (h15 : ks.length ≤ 15 := by decide) : PE X (.Dict ks vs pos) (fE (gc X) Wx (mDisp c ps)) := PE.imp (pe_disp h.pps hall hl h0 h15) fun _ _ _ q => disp_im q
/-! ### dict(d) -/
def rCopyD : List V → Hp → VK → Prop := fun xs H Q => ∃ (a : Addr) (kv : List (Key × V)), xs = [V.ref a] ∧ Rd H a (.dK kv) ∧ ∀ p, H p = none → Q (.ref p) (upd H p (.dK kv))
theorem cr_copyD {X : Cx} : CallR X (.type "dict") rCopyD := fun pins s σ H xs us Q I r h => by
  obtain ⟨a, kv, rfl, ha, q⟩ := h
  cases r with
  | @cons _ u _ us ru t =>
    cases t
    obtain rfl : u = Value.ref a := ru
    exact d_copyOf I ha fun p s' hp I' => ⟨.ref p, _, I', rfl, q p hp⟩
def oCopyD (c : Bool) (d : D) (st : Store) : Res D := match dicOf d st with
  | some kvs => mkDic c kvs st
  | none => .no
theorem im_copyD {X : Cx} {Wx : WX} {σ : L2.St} {H : Hp} {Q : VK} {vs : List V} {c : Bool} (h : fL (gc X) Wx (rD (gc X)) (on1 (oCopyD c)) vs σ H Q) : rCopyD vs H Q := by
  obtain ⟨x, rfl, W, d, rfl, s, hx, p⟩ := fL1 h
  dsimp only [oCopyD] at p
  cases q : dicOf d W.st with
  | none => rw [q] at p; exact p.elim
  | some kvs =>
    rw [q] at p
    obtain ⟨a, kv, rfl, hH, r⟩ := dicOf_inv s hx q
    refine ⟨a, kv, rfl, hH, fun p' hp => ?_⟩
    unfold mkDic at p
    cases c with
    | false =>
      obtain ⟨e2, s2, n2⟩ := s.lay (o := .dK kv) hp
      have r2 := r.mono e2.toExtW
      exact p _ e2 s2 rfl _ (.dic upd_same n2 r2.1 r2.2)
    | true =>
      obtain ⟨e2, s2⟩ := s.cellNew (o := .dK kv) (c := .dic kvs) hp fun W' e h => ⟨kv, h, (r.mono e.toExtW).1, (r.mono e.toExtW).2⟩
      refine p _ e2 s2 rfl _ (.ref ?_)
      show (W.cs ++ [p'])[W.st.length]? = some p'
      rw [← s.len]
      simp
/-! ### d.get(k, x) -/
def mGet2 (md mk mx : Me) : Me := fun e st => (md e st).bind fun d st1 => if (dicOf d st1).isSome = true then (mk e st1).bind fun k st2 => (mx e st2).bind fun x st3 => if isKey k = true then (match dicOf d st3 with
  | some kvs => .ok ((dGet kvs k).getD x) st3
  | none => .no) else .no else .no
theorem e_get2 {X : Cx} {Wx : WX} {o e f : Expr} {apos cpos : Pos} {md mk mx : Me} (hu : X.A.units + 1 < cLine) (ho : PE X o (fE (gc X) Wx md)) (he : PE X e (fE (gc X) Wx mk)) (hf : PE X f (fE (gc X) Wx mx)) (m : M2 X o "get" apos e f cpos) :
    PE X (.Call (.Attribute o "get" apos) [e, f] [] cpos) (fE (gc X) Wx (mGet2 md mk mx)) := PE.imp (pe_dget2 hu ho he hf m) fun σ H Q h => by
  obtain ⟨W, env, rfl, s, r, p⟩ := h
  show fE (gc X) Wx md σ W.H fun x H1 => ∃ a, x = .ref a ∧ IsD H1 a ∧ fE (gc X) Wx mk σ H1 fun y H2 => fE (gc X) Wx mx σ H2 fun z H3 => ∃ o, DGet H3 a y o ∧ Q (o.getD z) H3
  refine ⟨W, env, rfl, s, r, ?_⟩
  dsimp only [mGet2] at p
  cases q1 : md env W.st with
  | no => rw [q1] at p; exact p
  | exc x st1 => rw [q1] at p; exact p
  | ok d st1 =>
    rw [q1] at p
    dsimp only [Res.bind] at p
    intro W1 e1 s1 hs1 x hx
    split at p
    rotate_left
    · exact p.elim
    rename_i hd
    obtain ⟨kvs0, hk0⟩ := Option.isSome_iff_exists.mp hd
    rw [← hs1] at hk0
    obtain ⟨a, kv0, rfl, hH0, _⟩ := dicOf_inv s1 hx hk0
    refine ⟨a, rfl, .inl ⟨kv0, hH0⟩, W1, env, rfl, s1, r.mono e1, ?_⟩
    rw [hs1]
    cases q2 : mk env st1 with
    | no => rw [q2] at p; exact p
    | exc x st2 => rw [q2] at p; exact Post.ext p e1
    | ok k st2 =>
      rw [q2] at p
      dsimp only at p
      intro W2 e2 s2 hs2 y hy
      refine ⟨W2, env, rfl, s2, (r.mono e1).mono e2, ?_⟩
      rw [hs2]
      cases q3 : mx env st2 with
      | no => rw [q3] at p; exact p
      | exc x st3 => rw [q3] at p; exact Post.ext (Post.ext p e1) e2
      | ok z st3 =>
        rw [q3] at p
        dsimp only at p
        intro W3 e3 s3 hs3 zv hz
        split at p
        rotate_left
        · exact p.elim
        rename_i hk
        obtain ⟨key, rfl, rfl⟩ := key_inv hy hk
        rw [← hs3] at p
        cases q4 : dicOf d W3.st with
        | none => rw [q4] at p; exact p.elim
        | some kvs =>
          rw [q4] at p
          obtain ⟨a', kv, ea, hH, rr⟩ := dicOf_inv s3 ((hx.mono e2).mono e3) q4
          cases ea
          refine ⟨valV kv key, FL.DGet.kr hH, ?_⟩
          have g := rr.get (k := key)
          cases q5 : dGet kvs (kD key) with
          | some d' =>
            obtain ⟨v, hv, hvd⟩ := g.1 _ q5
            rw [hv]
            exact p W3 ((e1.trans e2).trans e3) s3 rfl _ (by rw [q5]; exact hvd)
          | none =>
            rw [g.2 q5]
            exact p W3 ((e1.trans e2).trans e3) s3 rfl _ (by rw [q5]; exact hz)
end FL
end
section
set_option Elab.async false
set_option linter.all false
set_option maxRecDepth 100000
/-! FMQ: x or y, signs of a text, chains, sorted of data, list.count. -/
namespace FL
open PySem PySem.Spec PyProof.Rows L2
section
variable {X : Cx} {Wx : WX} {a b : Expr} {rest : List Expr} {pos : Pos} {ma mb : Me}
theorem e_orT (ha : PE X a (fE (gc X) Wx ma)) (hb : PE X (.BoolOp .Or (b :: rest) pos) (fE (gc X) Wx mb)) : PE X (.BoolOp .Or (a :: b :: rest) pos) (fE (gc X) Wx (mOT ma mb)) := PE.imp (pe_orT ha hb) fun σ H Q h => by
  show fE (gc X) Wx ma σ H fun x H1 => ∃ k, TruV X.K x H1 k ∧ if k = true then Q x H1 else fE (gc X) Wx mb σ H1 Q
  obtain ⟨W, env, rfl, s, r, p⟩ := h
  refine ⟨W, env, rfl, s, r, ?_⟩
  dsimp only [mOT] at p
  cases q : ma env W.st with
  | no => rw [q] at p; exact p
  | exc x st1 => rw [q] at p; exact p
  | ok d st1 =>
    rw [q] at p
    intro W1 e1 s1 hs1 v hv
    dsimp only [Res.bind] at p
    refine im_toTr (Wx := Wx) (σ := σ) (Q := fun k H' => if k = true then Q v H' else fE (gc X) Wx mb σ H' Q) ⟨W1, d, rfl, s1, hv, ?_⟩
    rw [hs1]
    cases q2 : toTr d st1 with
    | no => rw [q2] at p; exact p
    | exc x st2 => rw [q2] at p; exact fun W2 e2 s2 hs2 => p W2 (e1.trans e2) s2 hs2
    | ok k st2 =>
      rw [q2] at p
      dsimp only at p
      intro W2 e2 s2 hs2 k' hk
      subst hk
      cases k' with
      | true => exact p W2 (e1.trans e2) s2 hs2 v (hv.mono e2)
      | false =>
        refine ⟨W2, env, rfl, s2, (r.mono e1).mono e2, ?_⟩
        rw [hs2]
        exact Post.ext (Post.ext p e1) e2
end
/-! ### signs of a text -/
def sgD (s : S) : List D := s.map fun c => .str [c]
def iSg (m : Me) : Mi := fun e st => (m e st).bind fun d st1 => match d with
  | .str s => .ok (sgD s) st1
  | _ => .no
theorem it_sgn {g : Gc} {W : Wd} {s : S} (h : okS s = true) : ItOk g (Its (toS s)) W (sgD s) := by
  have hc : (toS s).cps.size = s.length := by simp [toS]
  refine ⟨fun W' i d e sr hd => ?_, fun W' i e sr hi => ?_⟩
  · unfold sgD at hd
    rw [List.getElem?_map] at hd
    obtain ⟨c, hs, rfl⟩ := Option.map_eq_some_iff.mp hd
    have hi : i < s.length := (List.getElem?_eq_some_iff.mp hs).1
    have hx : (toS s).cps[i]? = some c := by
      show s.toArray[i]? = some c
      simpa using hs
    refine ⟨by show i < (toS s).cps.size; rw [hc]; exact hi, fun x H' ⟨e1, c', hc', hx'⟩ => ⟨W', e1.symm, Ext.refl _, sr, rfl, ?_⟩⟩
    rw [hx] at hc'
    cases hc'
    subst hx'
    refine .str [c] ?_
    obtain ⟨h1, h2⟩ := okS_iff.mp h
    exact okS_iff.mpr ⟨fun a ha => by simp at ha; subst ha; exact h1 _ (List.mem_of_getElem? hs), by show 1 ≤ BIG; decide⟩
  · show (toS s).cps.size ≤ i
    rw [hc]
    unfold sgD at hi
    rw [List.length_map] at hi
    omega
theorem i_sgn {X : Cx} {Wx : WX} {tg e : Expr} {m : Me} (h : PE X e (fE (gc X) Wx m)) : PI X tg e (fI (gc X) Wx (iSg m)) := PI.imp (pi_str h) fun σ H R h => by
  obtain ⟨W, env, rfl, s, r, p⟩ := h
  refine ⟨W, env, rfl, s, r, ?_⟩
  dsimp only [iSg] at p
  cases q : m env W.st with
  | exc x st1 => rw [q] at p; exact p
  | no => rw [q] at p; exact p
  | ok d st1 =>
    rw [q] at p
    refine fun W1 e1 s1 hs v hv => ?_
    cases d with
    | str z =>
      obtain ⟨rfl, oz⟩ := hv.str_inv
      exact ⟨_, rfl, p W1 e1 s1 hs _ (it_sgn oz)⟩
    | _ => exact p.elim
/-! ### a op b op c -/
def mChain (k k2 : D → D → Store → Res D) (ma mb mc : Me) : Me := fun e st => (ma e st).bind fun x st1 => (mb e st1).bind fun y st2 => (k x y st2).bind fun z st3 => match z with
  | .bl true => (mc e st3).bind fun w st4 => k2 y w st4
  | .bl false => .ok (.bl false) st3
  | _ => .no
theorem chain_im {X : Cx} {Wx : WX} {r r' : R2} {k k2 : D → D → Store → Res D} {ma mb mc : Me} {σ : L2.St} {H : Hp} {Q : VK}
    (im : ∀ {σ : L2.St} {H : Hp} {Q : VK} {x y : V}, f2 (gc X) Wx (rD (gc X)) k x y σ H Q → r x y H Q) (im2 : ∀ {σ : L2.St} {H : Hp} {Q : VK} {x y : V}, f2 (gc X) Wx (rD (gc X)) k2 x y σ H Q → r' x y H Q)
    (h : fE (gc X) Wx (mChain k k2 ma mb mc) σ H Q) : tChain r r' (fE (gc X) Wx ma) (fE (gc X) Wx mb) (fE (gc X) Wx mc) σ H Q := by
  obtain ⟨W, env, rfl, s, rr, p⟩ := h
  refine ⟨W, env, rfl, s, rr, ?_⟩
  dsimp only [mChain] at p
  cases q : ma env W.st with
  | no => rw [q] at p; exact p
  | exc x st1 => rw [q] at p; exact p
  | ok x st1 =>
    rw [q] at p
    intro W1 e1 s1 hs1 xv hx
    dsimp only [Res.bind] at p
    refine ⟨W1, env, rfl, s1, rr.mono e1, ?_⟩
    rw [hs1]
    cases q2 : mb env st1 with
    | no => rw [q2] at p; exact p
    | exc x st2 => rw [q2] at p; exact Post.ext p e1
    | ok y st2 =>
      rw [q2] at p
      dsimp only at p
      intro W2 e2 s2 hs2 yv hy
      refine im (σ := σ) ⟨W2, x, y, rfl, s2, hx.mono e2, hy, ?_⟩
      rw [hs2]
      cases q3 : k x y st2 with
      | no => rw [q3] at p; exact p
      | exc x st3 => rw [q3] at p; exact Post.ext (Post.ext p e1) e2
      | ok z st3 =>
        rw [q3] at p
        dsimp only at p
        intro W3 e3 s3 hs3 zv hz
        cases z with
        | bl c =>
          cases hz.bl_inv
          refine ⟨c, rfl, ?_⟩
          cases c with
          | false => exact p W3 ((e1.trans e2).trans e3) s3 hs3 _ (.bl false)
          | true =>
            refine ⟨W3, env, rfl, s3, ((rr.mono e1).mono e2).mono e3, ?_⟩
            rw [hs3]
            dsimp only at p
            cases q4 : mc env st3 with
            | no => rw [q4] at p; exact p
            | exc x st4 => rw [q4] at p; exact Post.ext (Post.ext (Post.ext p e1) e2) e3
            | ok w st4 =>
              rw [q4] at p
              intro W4 e4 s4 hs4 wv hw
              refine im2 (σ := σ) ⟨W4, y, w, rfl, s4, (hy.mono e3).mono e4, hw, ?_⟩
              rw [hs4]
              exact Post.ext (Post.ext (Post.ext (Post.ext p e1) e2) e3) e4
        | _ => exact p.elim
section
variable {X : Cx} {Wx : WX} {op op' : CmpOp} {r r' : R2} {k k2 : D → D → Store → Res D} {ma mb mc : Me} {a b c : Expr} {pos : Pos}
theorem e_chain (ho : OpR X (compareOp op) r) (im : ∀ {σ : L2.St} {H : Hp} {Q : VK} {x y : V}, f2 (gc X) Wx (rD (gc X)) k x y σ H Q → r x y H Q) (ho' : OpR X (compareOp op') r') (im2 : ∀ {σ : L2.St} {H : Hp} {Q : VK} {x y : V}, f2 (gc X) Wx (rD (gc X)) k2 x y σ H Q → r' x y H Q)
    (ha : PE X a (fE (gc X) Wx ma)) (hb : PE X b (fE (gc X) Wx mb)) (hc : PE X c (fE (gc X) Wx mc)) (hm : lastMarks [op, op'] [b, c] = false := by with_unfolding_all rfl) :
    PE X (.Compare a [op, op'] [b, c] pos) (fE (gc X) Wx (mChain k k2 ma mb mc)) := PE.imp (pe_chain ho ho' ha hb hc hm) fun σ H Q h => chain_im im im2 h
end
/-! ### sorted(xs) of data -/
theorem each_zip {R : Value → V × PyData → Prop} : ∀ {vs : List V} {es : List PyData} {us : List Value}, Vals vs us → vs.length = es.length → (∀ (i : Nat) v u e, vs[i]? = some v → us[i]? = some u → es[i]? = some e → RelV v u → R u (v, e)) → PySem.W.EachIs R us (vs.zip es)
  | [], [], [], _, _, _ => .nil
  | v :: vs, e :: es, u :: us, h, hl, k => by
    cases h with
    | cons h1 t =>
      rw [List.zip_cons_cons]
      exact .cons (k 0 v u e rfl rfl rfl h1) (each_zip t (by simpa using hl) fun i v' u' e' a b c d => k (i + 1) v' u' e' (by simpa using a) (by simpa using b) (by simpa using c) d)
  | [], [], u :: us, h, _, _ => by cases h
  | v :: vs, e :: es, [], h, _, _ => by cases h
  | [], e :: es, us, _, hl, _ => by simp at hl
  | v :: vs, [], us, _, hl, _ => by simp at hl
def rSortD (K : PySem.W.Frag) : List V → Hp → VK → Prop := fun xs H Q => ∃ (a : Addr) (vs : List V) (es : List PyData), xs = [V.ref a] ∧ SqL K H a vs ∧ vs.length = es.length ∧ (∀ (i : Nat) v e, vs[i]? = some v → es[i]? = some e → Dp K H v e) ∧ PySem.W.AllAlike es ∧ PySem.W.Sortable es ∧ (∀ e ∈ es, e.depth ≤ 40) ∧
  ∀ p, H p = none → Q (.ref p) (upd H p (.lst (((vs.zip es).mergeSort (PySem.W.dataLe false Prod.snd)).map Prod.fst)))
theorem vals_of_each {out : List Value} : ∀ {us : List Value} {ps : List (V × PyData)}, PySem.W.EachIs (fun u p => RelV p.1 u) us ps → Vals (ps.map Prod.fst) us
  | _, _, .nil => .nil
  | _, _, .cons h t => .cons h (vals_of_each (out := out) t)
theorem map_snd_zip : ∀ {vs : List V} {es : List PyData}, vs.length = es.length → (vs.zip es).map Prod.snd = es
  | [], [], _ => rfl
  | v :: vs, e :: es, h => by rw [List.zip_cons_cons, List.map_cons, map_snd_zip (by simpa using h)]
  | [], e :: es, h => by simp at h
  | v :: vs, [], h => by simp at h
theorem cr_sortD {X : Cx} (hu : X.A.units + 65 < cLine) : CallR X (.builtin "sorted") (rSortD X.K) := by
  intro pins s σ H xs us Q I r h
  obtain ⟨a, vs, es, rfl, hs, hl, hd, hal, hso, hdp, q⟩ := h
  obtain ⟨its, rv, hli, hz⟩ := I.list hs
  rw [Vals.ref1 r]
  have hlz : (vs.zip es).length = vs.length := by rw [List.length_zip, hl, Nat.min_self]
  have em : (vs.zip es).map Prod.snd = es := map_snd_zip hl
  refine PySem.W.sorted_data (β := V × PyData) (enc := Prod.snd) (R := fun u p => RelV p.1 u) hli.isList (each_zip rv hl fun _ _ _ _ _ _ _ h => h)
    (each_zip rv hl fun i v u e h1 h2 h3 h4 => Dp.reads I e v u (hd i v e h1 h3) h4) (by rw [em]; exact hal) (by rw [em]; exact hso) (by rw [hlz]; exact hz)
    (fun p hp => by
      have := hdp p.2 (by rw [← em]; exact List.mem_map.mpr ⟨p, hp, rfl⟩)
      omega) (fun out h1 h2 => ?_)
  obtain ⟨ep, he'⟩ := PyProof.Rows.sortedAll_at s.heap its out.toArray
  have v2 := vals_of_each (out := out) h2
  have hlen : (((vs.zip es).mergeSort (PySem.W.dataLe false Prod.snd)).map Prod.fst).length ≤ sizeLine := by
    rw [List.length_map, List.length_mergeSort, hlz]; exact hz
  exact ⟨.ref _, upd H (s.heap.objs.size + 1) (.lst (((vs.zip es).mergeSort (PySem.W.dataLe false Prod.snd)).map Prod.fst)), I.laid (t' := s.toks) (fun _ _ => PyProof.Rows.sortedAll_old) (Nat.le_succ _) ⟨hlen, out, ep, v2, by simpa using he'⟩, rfl, q _ (I.hok.fresh (Nat.le_succ _))⟩
/-- all pairs are of the same make -/
def alikeB (xs : List D) : Bool := xs.all fun a => xs.all fun b => PySem.W.alike (py a) (py b)
def tupB (xs : List D) : Bool := xs.all fun a => match a with
  | .tup (_ :: _) => true
  | _ => false
def notB (xs : List D) : Bool := xs.all fun a => match a with
  | .int _ => true
  | .str _ => true
  | _ => false
def leD (a b : D) : Bool := PySem.W.dataLe false py a b
def sortD (xs : List D) : List D := xs.mergeSort leD
def oSortD (d : D) (st : Store) : Res D := onLs d st fun xs => if (shL xs 40 && (alikeB xs && (tupB xs || notB xs))) = true then .ok (.lst (sortD xs)) st else .no
theorem den_dp {g : Gc} {W : Wd} : ∀ {vs : List V} {ds : List D} {n : Nat}, DenL g W vs ds → shL ds n = true → ∀ (i : Nat) v e, vs[i]? = some v → (ds.map py)[i]? = some e → Dp g.K W.H v e ∧ e.depth ≤ n
  | [], [], _, _, _, i, v, e, h, _ => by simp at h
  | v0 :: vs, d0 :: ds, n, .cons h t, hs, i, v, e, h1, h2 => by
    unfold shL at hs
    obtain ⟨a, b⟩ := ba2 hs
    cases i with
    | zero =>
      simp at h1 h2
      subst h1 h2
      have := h.py a
      exact ⟨this.1, this.2.2⟩
    | succ i => exact den_dp t b i v e (by simpa using h1) (by simpa using h2)
theorem zip_sort_den {g : Gc} {W : Wd} : ∀ {vs : List V} {ds : List D}, DenL g W vs ds → DenL g W (((vs.zip (ds.map py)).mergeSort (PySem.W.dataLe false Prod.snd)).map Prod.fst) (sortD ds) := by
  intro vs ds l
  -- sort the triples
  have e1 : (vs.zip (ds.map py)) = (vs.zip ds).map fun p => (p.1, py p.2) := by
    rw [List.zip_map_right]
    rfl
  have e2 : ((vs.zip ds).map fun p => (p.1, py p.2)).mergeSort (PySem.W.dataLe false Prod.snd) = ((vs.zip ds).mergeSort fun a b => leD a.2 b.2).map fun p => (p.1, py p.2) := by
    rw [List.map_mergeSort]
    intro a _ b _
    rfl
  have e3 : (sortD ds) = ((vs.zip ds).mergeSort fun a b => leD a.2 b.2).map Prod.snd := by
    rw [List.map_mergeSort (s := leD)]
    · rw [List.map_snd_zip (by rw [l.length]; exact Nat.le_refl _)]
      rfl
    · intro a _ b _
      rfl
  rw [e1, e2, e3, List.map_map]
  have all : ∀ p ∈ (vs.zip ds).mergeSort fun a b => leD a.2 b.2, Den g W p.1 p.2 := by
    intro p hp
    have hp' : p ∈ vs.zip ds := (List.mergeSort_perm _ _).mem_iff.mp hp
    obtain ⟨i, hi⟩ := List.getElem?_of_mem hp'
    rw [List.getElem?_zip_eq_some] at hi
    obtain ⟨d, h1, h2⟩ := l.get hi.1
    rw [hi.2] at h1
    cases h1
    exact h2
  clear e1 e2 e3
  generalize (vs.zip ds).mergeSort (fun a b => leD a.2 b.2) = L at all
  induction L with
  | nil => exact .nil
  | cons p L ih =>
    rw [List.map_cons, List.map_cons]
    exact .cons (all p (by simp)) (ih fun q hq => all q (List.mem_cons_of_mem _ hq))
theorem im_sortD {X : Cx} {Wx : WX} {σ : L2.St} {H : Hp} {Q : VK} {vs : List V} (h : fL (gc X) Wx (rD (gc X)) (on1 oSortD) vs σ H Q) : rSortD X.K vs H Q := by
  obtain ⟨x, rfl, W, d, rfl, s, hx, p⟩ := fL1 h
  dsimp only [oSortD, onLs] at p
  cases q : lsOf d W.st with
  | none => rw [q] at p; exact p.elim
  | some xs =>
    rw [q] at p
    dsimp only at p
    split at p
    · rename_i hk
      obtain ⟨h1, h2⟩ := ba2 hk
      obtain ⟨h2, h3⟩ := ba2 h2
      obtain ⟨a, us, rfl, hH, l⟩ := lsOf_inv s hx q
      refine ⟨a, us, xs.map py, rfl, SqL.of hH, by rw [l.length, List.length_map], fun i v e a b => (den_dp l h1 i v e a b).1, fun e he e' he' => ?_, ?_, fun e he => ?_, fun p' hp => ?_⟩
      · obtain ⟨b, hb, rfl⟩ := List.mem_map.mp he
        obtain ⟨b', hb', rfl⟩ := List.mem_map.mp he'
        exact List.all_eq_true.mp (List.all_eq_true.mp h2 b hb) b' hb'
      · rcases Bool.or_eq_true_iff.mp h3 with h3 | h3
        · refine .inl fun e he => ?_
          obtain ⟨b, hb, rfl⟩ := List.mem_map.mp he
          have := List.all_eq_true.mp h3 b hb
          cases b with
          | tup ys => cases ys with
            | nil => cases this
            | cons y ys => exact ⟨_, _, rfl⟩
          | _ => cases this
        · refine .inr fun e he => ?_
          obtain ⟨b, hb, rfl⟩ := List.mem_map.mp he
          have := List.all_eq_true.mp h3 b hb
          cases b with
          | int i => exact ⟨by simp [py], fun xs => by simp [py]⟩
          | str i => exact ⟨by simp [py], fun xs => by simp [py]⟩
          | _ => cases this
      · obtain ⟨i, hi⟩ := List.getElem?_of_mem he
        have hi' : i < us.length := by
          have := (List.getElem?_eq_some_iff.mp hi).1
          rw [List.length_map, ← l.length] at this
          exact this
        exact (den_dp l h1 i _ e (List.getElem?_eq_getElem hi') hi).2
      · exact Post.newL s (zip_sort_den l) p p' hp
    · exact p.elim
end FL
end
section
set_option Elab.async false
set_option linter.all false
set_option maxRecDepth 100000
/-! FMR: d[k] += n, list.count of ints, len of an own class. -/
namespace FL
open PySem PySem.Spec PyProof.Rows L2
/-! ### d[k] += n -/
def oAddI := oI fun i j => some (.int (i + j))
theorem im_addI {X : Cx} {Wx : WX} {σ : L2.St} {H : Hp} {Q : VK} {x y : V} (h : f2 (gc X) Wx (rD (gc X)) oAddI x y σ H Q) : rAdd x y H Q := by
  obtain ⟨i, j, d, rfl, rfl, e, W, rfl, q⟩ := oI_inv h
  cases e
  exact ⟨i, j, rfl, rfl, q _ fun _ => .int _⟩
def mAugD (md mk mv : Me) : Ms := fun e st => (md e st).fl e fun d st1 => (mk e st1).fl e fun k st2 => (oIxD d k st2).fl e fun x st3 => (mv e st3).fl e fun y st4 => (oAddI x y st4).fl e fun z st5 => stD d k z e st5
theorem oIxD_ok {x k d : D} {st st1 : Store} (h : oIxD x k st = .ok d st1) : st1 = st := by
  unfold oIxD at h
  split at h
  · split at h
    · split at h
      · cases h; rfl
      · cases h
    · cases h
  · cases h
theorem s_augD {X : Cx} {Wx : WX} {o i value : Expr} {pos tpos : Pos} {md mk mv : Me} (hu : X.A.units + 1 < cLine) (ho : PE X o (fE (gc X) Wx md)) (hi : PE X i (fE (gc X) Wx mk)) (hv : PE X value (fE (gc X) Wx mv))
    (ha : ∀ ov iv new, augStore i ov iv new = (do holding [new, ov, iv] (setItem ov iv new); release [new, ov, iv] []; pure .next) := by intro _ _ _; rfl) : PS X (.AugAssign (.Subscript o i tpos) .Add value pos) (fS (gc X) Wx (mAugD md mk mv)) := by
  refine PS.imp (ps_daug hu ho hi hv in_add ha) fun Z σ H h => ?_
  obtain ⟨W, env, rfl, s, r, p⟩ := h
  show fE (gc X) Wx md σ W.H fun x H1 => fE (gc X) Wx mk σ H1 fun y H2 => ∃ a v, x = .ref a ∧ DGet H2 a y (some v) ∧ fE (gc X) Wx mv σ H2 fun y2 H3 => rAdd v y2 H3 fun z H4 => ∃ H5, DPut H4 a y z H5 ∧ Z.nx σ H5
  refine ⟨W, env, rfl, s, r, ?_⟩
  dsimp only [mAugD] at p
  cases q1 : md env W.st with
  | no => rw [q1] at p; exact p
  | exc x st1 => rw [q1] at p; exact fun W1 e1 s1 hs => p W1 σ e1 s1 hs (r.mono e1)
  | ok d st1 =>
    rw [q1] at p
    dsimp only [Res.fl] at p
    intro W1 e1 s1 hs1 xv hx
    refine ⟨W1, env, rfl, s1, r.mono e1, ?_⟩
    rw [hs1]
    cases q2 : mk env st1 with
    | no => rw [q2] at p; exact p
    | exc x st2 => rw [q2] at p; exact fun W2 e2 s2 hs => p W2 σ (e1.trans e2) s2 hs ((r.mono e1).mono e2)
    | ok k st2 =>
      rw [q2] at p
      dsimp only at p
      intro W2 e2 s2 hs2 kv hk
      cases q3 : oIxD d k st2 with
      | no => rw [q3] at p; exact p.elim
      | exc x st3 =>
        exfalso
        unfold oIxD at q3
        split at q3
        · split at q3
          · split at q3 <;> cases q3
          · cases q3
        · cases q3
      | ok x st3 =>
        have e3' := oIxD_ok q3
        subst e3'
        rw [q3] at p
        dsimp only at p
        unfold oIxD at q3
        split at q3
        rotate_left
        · cases q3
        rename_i hkk
        obtain ⟨key, rfl, rfl⟩ := key_inv hk hkk
        cases q4 : dicOf d st3 with
        | none => rw [q4] at q3; cases q3
        | some kvs =>
          rw [q4] at q3
          dsimp only at q3
          rw [← hs2] at q4
          obtain ⟨a, kv0, rfl, hH, rr⟩ := dicOf_inv s2 (hx.mono e2) q4
          cases q5 : dGet kvs (kD key) with
          | none => rw [q5] at q3; cases q3
          | some x0 =>
            rw [q5] at q3
            cases q3
            obtain ⟨v, hv', hvd⟩ := (rr.get (k := key)).1 _ q5
            refine ⟨a, v, rfl, by rw [← hv']; exact FL.DGet.kr hH, W2, env, rfl, s2, (r.mono e1).mono e2, ?_⟩
            rw [hs2]
            cases q6 : mv env st3 with
            | no => rw [q6] at p; exact p
            | exc x st4 => rw [q6] at p; exact fun W3 e3 s3 hs => p W3 σ ((e1.trans e2).trans e3) s3 hs (((r.mono e1).mono e2).mono e3)
            | ok y st4 =>
              rw [q6] at p
              dsimp only at p
              intro W3 e3 s3 hs3 yv hy
              cases x with
              | int i =>
                cases y with
                | int j =>
                  have ea : oAddI (.int i) (.int j) st4 = .ok (.int (i + j)) st4 := rfl
                  rw [ea] at p
                  dsimp only at p
                  cases hvd.int_inv
                  cases hy.int_inv
                  refine ⟨i, j, rfl, rfl, ?_⟩
                  cases d with
                  | ref n =>
                    dsimp only [stD] at p
                    cases q7 : st4[n]? with
                    | none => rw [q7] at p; exact p.elim
                    | some c =>
                      rw [q7] at p
                      cases c with
                      | dic kvs2 =>
                        dsimp only at p
                        split at p
                        · rename_i hk2
                          cases hx.mono (e2.trans e3) with
                          | @ref a _ ha =>
                          rw [← hs3] at q7
                          obtain ⟨kv2, h1, h2, h3⟩ := s3.cell n a _ ha q7
                          have r0 : DKV (gc X) W3 kv2 kvs2 := ⟨h2, h3⟩
                          obtain ⟨e4, s4⟩ := s3.cellSet (o := .dK (putK kv2 key (.int (i + j)))) (c := .dic (dPut kvs2 (kD key) (.int (i + j)))) ha q7 rfl rfl fun W' e' h => ⟨_, h, (r0.mono e'.toExtW).put (.int _)⟩
                          refine ⟨_, DPut.k h1 (by rw [r0.len]; exact hk2.2), ?_⟩
                          exact p _ σ (((e1.trans e2).trans e3).trans e4) s4 (by show W3.st.set n _ = _; rw [hs3]) ((((r.mono e1).mono e2).mono e3).mono e4)
                        · exact p.elim
                      | _ => exact p.elim
                  | _ => exact p.elim
                | _ => exact p.elim
              | _ => exact p.elim
/-! ### xs.count(n) -/
def isOf : List D → Option (List Int)
  | [] => some []
  | .int i :: r => (isOf r).map (i :: ·)
  | _ => none
theorem isOf_inv {g : Gc} {W : Wd} : ∀ {vs : List V} {ds : List D} {ns : List Int}, DenL g W vs ds → isOf ds = some ns → vs = ns.map V.int
  | [], [], _, _, h => by cases h; rfl
  | v :: vs, d :: ds, ns, .cons a t, h => by
    cases d with
    | int i =>
      unfold isOf at h
      obtain ⟨r, hr, rfl⟩ := Option.map_eq_some_iff.mp h
      cases a.int_inv
      rw [List.map_cons, isOf_inv t hr]
    | _ => cases h
def lCnt (d : D) (ds : List D) (st : Store) : Res D := match ds with
  | [.int k] => onLs d st fun xs => match isOf xs with
    | some ns => .ok (.int (ns.count k : Nat)) st
    | none => .no
  | _ => .no
theorem im_cnt {X : Cx} {Wx : WX} {σ : L2.St} {H : Hp} {Q : VK} {x : V} {vs : List V} (h : fM (gc X) Wx lCnt x vs σ H Q) : rCntI X.K x vs H Q := by
  obtain ⟨W, d, ds, rfl, s, h1, l, p⟩ := h
  unfold lCnt at p
  split at p
  · rename_i k
    cases l with
    | cons a t =>
      cases t
      cases a.int_inv
      unfold onLs at p
      cases q : lsOf d W.st with
      | none => rw [q] at p; exact p.elim
      | some xs =>
        rw [q] at p
        dsimp only at p
        obtain ⟨a, us, rfl, hH, l⟩ := lsOf_inv s h1 q
        cases q2 : isOf xs with
        | none => rw [q2] at p; exact p.elim
        | some ns =>
          rw [q2] at p
          refine ⟨a, ns, k, rfl, rfl, ?_, p W (Ext.refl W) s rfl _ (.int _)⟩
          rw [← isOf_inv l q2]
          exact SqL.of hH
  · exact p.elim
/-! ### len(x), x of an own class -/
theorem len_own {prog : Program} {w : World} {A : Around} {E : Value → Shared → Prop} {s : Shared} {K : PySem.W.Frag} {x C f : Addr} {ox : Obj} {odd : Option Obj} {Q : Value → Shared → Prop} (X : K.In s.heap) (I : PySem.W.InstAt s.heap x ox C odd)
    (hs : PySem.W.findIn K (.ref C) "__len__" = some (some (.ref f))) (hf : PySem.W.isFn K (.ref f) = true)
    (h : wpAny (model prog w) A.in1 (call (.ref f) [.ref x]) (fun r s₁ => ∃ n u, r = Value.int n u ∧ ¬ n < 0 ∧ ¬ n ≥ 2 ^ 63 ∧ ∀ t, Q (.int n t) { s₁ with toks := t + 1 }) E s) : wpAny (model prog w) A (call (.builtin "len") [.ref x]) Q E s := by
  refine Calls.call_function_entry kind_len plain_len entry_len (args_len1 _) ?_
  unfold Builtin.«len»
  refine wpAny_bind (m := oneArg "len" _) (wpAny_pure ?_)
  refine wpAny_bind (m := callSpecial? (.ref x) (Str.ofString "__len__")) (PySem.W.special_fn X I hs (beq_iff_eq.mp hf) (wpAny_mono h (fun r s' hr => ?_) fun _ _ y => y))
  obtain ⟨n, u, rfl, h0, hfit, q⟩ := hr
  refine wpAny_bind (wpAny_holding (wpAny_pure ?_))
  refine wpAny_bind (wpAny_letGo ?_)
  show wpAny _ _ (if n < 0 then _ else _) _ _ _
  rw [if_neg h0]
  show wpAny _ _ (if n ≥ 2 ^ 63 then _ else _) _ _ _
  rw [if_neg hfit]
  exact wpAny_bind (wpAny_mkInt (wpAny_pure ⟨_, rfl, q _⟩))
def rLenOwn (X : Cx) (c : S) (F : List D → Store → Res D) : List V → Hp → VK → Prop := fun xs H Q => ∃ (a dx : Addr) (fs : List (Str × V)), xs = [.ref a] ∧ H a = some (.ins (cA X c) dx fs) ∧ spF (gc X) F [.ref a] H (fun v H' => ∃ n : Int, v = .int n ∧ 0 ≤ n ∧ n < 2 ^ 62 ∧ Q (.int n) H') E0
theorem cr_lenOwn {X : Cx} {k : Nat} {c : S} {f : Addr} {fd : FuncData} {ps : List Str} {F : List D → Store → Res D} (hs : PySem.W.findIn X.K (.ref (cA X c)) "__len__" = some (some (.ref f))) (hf : PySem.W.isFn X.K (.ref f) = true)
    (G : FnOk X.prog X.w X.K X.mg X.base (L2.CX X.prog X.w) k f fd ps (spF (gc X) F)) (hr : Room (k + 1) X.A) (hb : Binds X.K fd ps []) : CallR X (.builtin "len") (rLenOwn X c F) := by
  intro pins s σ H xs us Q I r h
  obtain ⟨a, dx, fs, rfl, ha, hsp⟩ := h
  obtain ⟨u, rfl, ru⟩ := r.one
  cases (show u = Value.ref a from ru)
  obtain ⟨mA, J, _⟩ := ins_get I.hok ha
  obtain ⟨od, J, _⟩ := J.look
  have hl := G.len _ _ _ _ hsp
  have r2 : Vals [V.ref a] [Value.ref a] := .cons rfl .nil
  refine len_own I.kIn J hs hf (wpAny_call (codeAny_mono (G.run X.A.in1 X.stack s H ⟨[.ref a], []⟩ [.ref a] [.ref a] _ E0 hr.in1 I.env0.in1 (by
    have := hb s [.ref a] I.kIn (by simpa using hl)
    simpa using this) r2 hsp) fun r s' hq => ?_))
  cases r with
  | error e => exact passL pins σ H s e s' I hq
  | ok fl =>
    cases fl with
    | ret w =>
      obtain ⟨z, H', I', rz, n, rfl, h0, h1, q⟩ := I.after hq
      obtain ⟨t, rfl⟩ := (show ∃ t, w = Value.int n t from rz)
      exact ⟨n, t, rfl, by omega, by omega, fun t' => ⟨.int n, H', I'.tok _, ⟨t', rfl⟩, q⟩⟩
    | next => exact False.elim hq
    | brk => exact False.elim hq
    | cont => exact False.elim hq
end FL
end
section
set_option Elab.async false
set_option linter.all false
set_option maxRecDepth 100000
/-! FMS: a, b = x, y; slices as cells; len by contract. -/
namespace FL
open PySem PySem.Spec PyProof.Rows L2
def mPar2 (i j : Nat) (ma : Ma) : Ms := fun e st => (ma e st).flB e fun ds st1 => match ds with
  | [u, v] => .nx ((e.set i (some u)).set j (some v)) st1
  | _ => .no
theorem s_par2 {X : Cx} {Wx : WX} {i j : Nat} {x y : Str} {a b : Expr} {ma : Ma} {px py pt pos : Pos} {kt k2 pt2} (hc : X.calm = true) (hN : X.N.Nodup) (hi : X.N[i]? = some x) (hj : X.N[j]? = some y) (hij : i ≠ j)
    (hx : X.env.scope.names.lookup x = some .local) (hy : X.env.scope.names.lookup y = some .local) (ha : PA X [a, b] (fA (gc X) Wx ma))
    (hw : swappedStores [.Tuple [.Name x px, .Name y py] kt pt] (.Tuple [a, b] k2 pt2) X.env = pure (some [x, y]))
    (hs : swapsWithSole [.Tuple [.Name x px, .Name y py] kt pt] (.Tuple [a, b] k2 pt2) pos.line X.env = pure false := by rfl) :
    PS X (.Assign [.Tuple [.Name x px, .Name y py] kt pt] (.Tuple [a, b] k2 pt2) pos) (fS (gc X) Wx (mPar2 i j ma)) := by
  refine PS.imp (ps_par hc hN hi hj hij hx hy ha hw hs) fun D σ H h => ?_
  obtain ⟨W, env, rfl, s, r, p⟩ := h
  show fA (gc X) Wx ma σ W.H fun vs H1 => ∃ u v, vs = [u, v] ∧ D.nx ((σ.set i (some u)).set j (some v)) H1
  refine ⟨W, env, rfl, s, r, ?_⟩
  dsimp only [mPar2] at p
  cases q : ma env W.st with
  | no => rw [q] at p; exact p
  | exc x st1 => rw [q] at p; exact fun W1 e1 s1 hs => p W1 σ e1 s1 hs (r.mono e1)
  | ok ds st1 =>
    rw [q] at p
    dsimp only [Res.flB] at p
    split at p
    · intro W1 e1 s1 hs vs hv
      cases hv with
      | cons h1 t1 => cases t1 with
        | cons h2 t2 =>
          cases t2
          exact ⟨_, _, rfl, p W1 _ e1 s1 hs (((r.mono e1).set i h1).set j h2)⟩
    · exact p.elim
/-! ### len(x) -/
def oLenOwn (c : S) (F : List D → Store → Res D) (d : D) (st : Store) : Res D := match flds c d st with
  | some _ => (F [d] st).bindN fun r st1 => match r with
    | .int n => if 0 ≤ n ∧ n < 2 ^ 62 then .ok (.int n) st1 else .no
    | _ => .no
  | none => .no
theorem im_lenOwn {X : Cx} {Wx : WX} {σ : L2.St} {H : Hp} {Q : VK} {vs : List V} {c : S} {F : List D → Store → Res D} (h : fL (gc X) Wx (rD (gc X)) (on1 (oLenOwn c F)) vs σ H Q) : rLenOwn X c F vs H Q := by
  obtain ⟨x, rfl, W, d, rfl, s, hx, p⟩ := fL1 h
  dsimp only [oLenOwn] at p
  cases q : flds c d W.st with
  | none => rw [q] at p; exact p.elim
  | some fs =>
    rw [q] at p
    obtain ⟨a, dx, vs, rfl, hH, _, _⟩ := flds_inv s hx q
    refine ⟨a, dx, vs, rfl, hH, W, [d], rfl, s, .cons hx .nil, ?_⟩
    cases q2 : F [d] W.st with
    | no => rw [q2] at p; exact p
    | exc x st1 => rw [q2] at p; exact p.elim
    | ok r st1 =>
      rw [q2] at p
      dsimp only [Res.bindN] at p
      intro W1 e1 s1 hs1 v hv
      split at p
      · split at p
        · rename_i n hn
          cases hv.int_inv
          exact ⟨n, rfl, hn.1, hn.2, p W1 e1 s1 hs1 _ (.int n)⟩
        · exact p.elim
      · exact p.elim
theorem c_lenOwn {X : Cx} {Wx : WX} {j k : Nat} {ps : List Str} {F : List D → Store → Res D} {c : S} {e : Expr} {m : Ma} {p pos : Pos} (G : FOk X.prog X.w X.K X.mg X.base (toS c, some "__len__") k ps F) (hr : Room j X.A) (hj : k + 1 ≤ j) (M : He.Fa.ok X.K (.meth (toS c) "__len__") = true) (hg : Gl X "len") (hm : X.mg "len" = none) (ha : PA X [e] (fA (gc X) Wx m))
    (he : starEach (e :: []) X.env = (false, eval e X.env) :: starEach [] X.env := by rfl) (hpl : (backTo pos (starEach [] X.env)).any (·.1) = false := by rfl) :
    PE X (.Call (.Name "len" p) [e] [] pos) (fE (gc X) Wx (aL (on1 (oLenOwn c F)) m)) := by
  obtain ⟨fd, G, hb, hk, _⟩ := G
  obtain ⟨m1, m2, m3⟩ := He.meth_ok M
  exact e_callB (cr_lenOwn m1 m2 G (hr.mono hj) hb) im_lenOwn hg hm boot_len ha (he := he) (hpl := hpl)
/-! ### a slice that becomes a cell -/
def oSlC (x : D) (lo hi : Option Int) (st : Store) : Res D := onLs x st fun xs => .ok (.ref st.length) (st ++ [.lst (FL.cutD xs lo hi)])
def mSlC (m : Me) (l h : Mo) : Me := fun e st => (m e st).bind fun d st1 => (l e st1).bind fun lo st2 => (h e st2).bind fun hi st3 => oSlC d lo hi st3
theorem im_slC {X : Cx} {Wx : WX} {σ : L2.St} {H : Hp} {Q : VK} {x : V} {lo hi : Option Int} (h : ∃ (W : Wd) (d : D), W.H = H ∧ SR (gc X) W ∧ Den (gc X) W x d ∧ Post (gc X) W (wx (gc X) Wx σ) (oSlC d lo hi W.st) fun d W' => ∀ b, Den (gc X) W' b d → Q b W'.H) : rSlL X.K x lo hi H Q := by
  obtain ⟨W, d, rfl, s, h1, p⟩ := h
  unfold oSlC onLs at p
  cases q : lsOf d W.st with
  | none => rw [q] at p; exact p.elim
  | some xs =>
    rw [q] at p
    obtain ⟨a, vs, rfl, hq, l⟩ := lsOf_inv s h1 q
    refine ⟨a, vs, rfl, SqL.of hq, fun p' hp => ?_⟩
    obtain ⟨e2, s2⟩ := s.cellNew (o := .lst (cutV vs lo hi)) (c := .lst (FL.cutD xs lo hi)) hp fun W' e h => ⟨_, h, (l.mono e).cutD lo hi⟩
    refine p _ e2 s2 rfl _ (.ref ?_)
    show (W.cs ++ [p'])[W.st.length]? = some p'
    rw [← s.len]
    simp
theorem e_slC {X : Cx} {Wx : WX} {a : Expr} {ma : Me} {pos : Pos} {lo hi : Option Expr} {ml mh : Mo} {p2 : Pos} (ha : PE X a (fE (gc X) Wx ma)) (hl : PO X lo (fO (gc X) Wx ml)) (hh : PO X hi (fO (gc X) Wx mh)) : PE X (.Subscript a (.Slice lo hi none p2) pos) (fE (gc X) Wx (mSlC ma ml mh)) :=
  PE.imp (pe_slice sl_list ha hl hh) fun σ H Q h => by
    show fE (gc X) Wx ma σ H fun x H1 => fO (gc X) Wx ml σ H1 fun l H2 => fO (gc X) Wx mh σ H2 fun u H3 => rSlL X.K x l u H3 Q
    obtain ⟨W, env, rfl, s, r, p⟩ := h
    refine ⟨W, env, rfl, s, r, ?_⟩
    dsimp only [mSlC] at p
    cases q : ma env W.st with
    | exc x st1 => rw [q] at p; exact p
    | no => rw [q] at p; exact p
    | ok d st1 =>
      rw [q] at p
      refine fun W1 e1 s1 hs1 v hv => ⟨W1, env, rfl, s1, r.mono e1, ?_⟩
      dsimp only [Res.bind] at p
      rw [hs1]
      cases q2 : ml env st1 with
      | exc x st1 => rw [q2] at p; exact Post.ext p e1
      | no => rw [q2] at p; exact p
      | ok lo' st2 =>
        rw [q2] at p
        refine fun W2 e2 s2 hs2 l hl => ⟨W2, env, rfl, s2, (r.mono e1).mono e2, ?_⟩
        subst hl
        dsimp only [Res.bind] at p
        rw [hs2]
        cases q3 : mh env st2 with
        | exc x st1 => rw [q3] at p; exact Post.ext (Post.ext p e1) e2
        | no => rw [q3] at p; exact p
        | ok hi' st3 =>
          rw [q3] at p
          refine fun W3 e3 s3 hs3 u hu => im_slC (Wx := Wx) (σ := σ) ?_
          subst hu
          exact ⟨W3, d, rfl, s3, (hv.mono e2).mono e3, by rw [hs3]; exact Post.ext (Post.ext (Post.ext p e1) e2) e3⟩
end FL
end
section
set_option Elab.async false
set_option linter.all false
set_option maxRecDepth 100000
/-! FMT: comprehensions of two clauses. -/
namespace FL
open PySem PySem.Spec PyProof.Rows L2
def lcL2 (k : Mg) (t : Mt) (mi1 : Mi) (k1 : Mg) (t1 : Mt) (m : Me) (vs1 : List Nat) (e : En) : List D → Store → List D → Res (List D)
  | [], st, acc => .ok acc st
  | x :: xs, st, acc => match k x e st with
    | .nx e1 st1 => (t e1 st1).bindN fun b st2 => if b = true then (mi1 e1 st2).bindN fun ys st3 => (lcL k1 t1 m (wipeE e1 vs1) ys st3 acc).bindN fun acc' st4 => lcL2 k t mi1 k1 t1 m vs1 e xs st4 acc' else lcL2 k t mi1 k1 t1 m vs1 e xs st2 acc
    | _ => .no
def mLc2 (vs vs1 : List Nat) (mi : Mi) (k : Mg) (t : Mt) (mi1 : Mi) (k1 : Mg) (t1 : Mt) (m : Me) : Me := fun e st => (mi e st).bind fun xs st1 => (lcL2 k t mi1 k1 t1 m vs1 (wipeE e vs) xs st1 []).bind fun ys st2 => .ok (.lst ys) st2
section
variable {X : Cx} {Wx : WX} {mi mi1 : Mi} {k k1 : Mg} {t t1 : Mt} {m : Me}
theorem lcL2_no_exc {vs1 : List Nat} {e : En} : ∀ (xs : List D) (st : Store) (acc : List D) (x : Exn) (st' : Store), lcL2 k t mi1 k1 t1 m vs1 e xs st acc ≠ .exc x st'
  | [], st, acc, x, st', h => by cases h
  | y :: xs, st, acc, x, st', h => by
    unfold lcL2 at h
    cases q : k y e st with
    | nx e1 st1 =>
      rw [q] at h
      dsimp only at h
      cases q2 : t e1 st1 with
      | ok b st2 =>
        rw [q2] at h
        dsimp only [Res.bindN] at h
        split at h
        · cases q3 : mi1 e1 st2 with
          | ok ys st3 =>
            rw [q3] at h
            dsimp only at h
            cases q4 : lcL k1 t1 m (wipeE e1 vs1) ys st3 acc with
            | ok acc' st4 => rw [q4] at h; exact lcL2_no_exc xs _ _ _ _ h
            | exc _ _ => rw [q4] at h; cases h
            | no => rw [q4] at h; cases h
          | exc _ _ => rw [q3] at h; cases h
          | no => rw [q3] at h; cases h
        · exact lcL2_no_exc xs _ _ _ _ h
      | exc _ _ => rw [q2] at h; cases h
      | no => rw [q2] at h; cases h
    | _ => rw [q] at h; cases h
theorem lc2_im {σ : L2.St} {H : Hp} {Q : VK} {vs vs1 : List Nat} {fin : List D → Store → Res D} (h : fE (gc X) Wx (fun e st => (mi e st).bind fun xs st1 => (lcL2 k t mi1 k1 t1 m vs1 (wipeE e vs) xs st1 []).bind fin) σ H Q)
    (hfin : ∀ (W : Wd) (W2 : Wd) (p : Addr) (us : List V) (ys : List D), Ext W W2.pop → W.H p = none → p ∉ W2.rs.tail → SR (gc X) W2 → p ∈ W2.rs → W2.H p = some (.lst us) → DenL (gc X) W2 us ys → Post (gc X) W (wx (gc X) Wx σ) (fin ys W2.st) (fun d W' => ∀ b, rD (gc X) W' b d → Q b W'.H) → Q (.ref p) W2.H) :
    tLc2 (fI (gc X) Wx mi) (fTg (gc X) noX vs k) (fT (gc X) noX t) (fI (gc X) noX mi1) (fTg (gc X) noX vs1 k1) (fT (gc X) noX t1) (fE (gc X) noX m) vs vs1 σ H Q := by
  obtain ⟨W, env, rfl, s, r, p⟩ := h
  refine ⟨W, env, rfl, s, r, ?_⟩
  dsimp only at p
  cases q : mi env W.st with
  | exc x st1 => rw [q] at p; exact p
  | no => rw [q] at p; exact p
  | ok xs st1 =>
    rw [q] at p
    refine fun W1 e1 s1 hs J ok a ha => ?_
    have p1 := Post.ext p e1
    dsimp only [Res.bind] at p1
    rw [← hs] at p1
    have sp : SR (gc X) (W1.push a []) := s1.push ha
    have anr : a ∉ W1.rs := fun h => by obtain ⟨⟨o, h1, _⟩, _⟩ := s1.rx a h; rw [ha] at h1; cases h1
    have unpush : ∀ {W' : Wd}, ExtP a (W1.push a []) W' → Ext W1 W'.pop := fun {W'} e' => by
      have er : W'.rs = a :: W1.rs := e'.rs
      refine ⟨(push_mono ha).trans (e'.toExtW.trans pop_mono), by show W'.rs.tail = W1.rs; rw [er]; rfl, fun b hb => ?_⟩
      have hba : b ≠ a := fun e => anr (e ▸ hb)
      have h1 : W'.H b = (W1.push a []).H b := e'.rk b (List.mem_cons_of_mem _ hb) hba
      show W'.H b = W1.H b
      rw [h1]
      exact upd_ne hba
    have start : PostC (gc X) (W1.push a []) a (lcL2 k t mi1 k1 t1 m vs1 (wipeE env vs) xs W1.st []) fun W' ys => Q (.ref a) W'.H := by
      cases q2 : lcL2 k t mi1 k1 t1 m vs1 (wipeE env vs) xs W1.st [] with
      | exc x st2 => exact absurd q2 (lcL2_no_exc _ _ _ _ _)
      | no => rw [q2] at p1; exact p1
      | ok ys st2 =>
        rw [q2] at p1
        intro W' us e' s' hs' hH hl
        have er : W'.rs = a :: W1.rs := e'.rs
        exact hfin W1 W' a us ys (unpush e') ha (by rw [er]; exact anr) s' (by rw [er]; exact List.mem_cons_self) hH hl (by rw [hs']; exact p1)
    refine ⟨fun i n H => n = xs.length - i ∧ i ≤ xs.length ∧ ∃ (W2 : Wd) (us : List V) (acc : List D), W2.H = H ∧ ExtP a (W1.push a []) W2 ∧ SR (gc X) W2 ∧ W2.H a = some (.lst us) ∧ DenL (gc X) W2 us acc ∧ PostC (gc X) W2 a (lcL2 k t mi1 k1 t1 m vs1 (wipeE env vs) (xs.drop i) W2.st acc) fun W' ys => Q (.ref a) W'.H,
      ⟨xs.length, by simp, Nat.zero_le _, W1.push a [], [], [], rfl, ExtP.refl _, sp, upd_same, .nil, start⟩, ?_⟩
    rintro i n H ⟨rfl, hi, W2, us, acc, rfl, e2, s2, h2, l2, p2⟩
    have er2 : W2.rs = a :: W1.rs := e2.rs
    have ha2 : a ∈ W2.rs := by rw [er2]; exact List.mem_cons_self
    have e12 : ExtW W1 W2 := (push_mono ha).trans e2.toExtW
    by_cases hlt : i < xs.length
    · obtain ⟨d, hd⟩ : ∃ d, xs[i]? = some d := ⟨xs[i], by simp [hlt]⟩
      obtain ⟨go, yld⟩ := ok.go W2 i d e12 s2 hd
      have hdrop : xs.drop i = d :: xs.drop (i + 1) := by
        rw [List.drop_eq_getElem_cons hlt]
        congr 1
        rw [List.getElem?_eq_getElem hlt] at hd
        exact Option.some.inj hd
      rw [hdrop] at p2
      refine .inr ⟨go, fun H' => i + 1 ≤ xs.length ∧ ∃ (W2 : Wd) (us : List V) (acc : List D), W2.H = H' ∧ ExtP a (W1.push a []) W2 ∧ SR (gc X) W2 ∧ W2.H a = some (.lst us) ∧ DenL (gc X) W2 us acc ∧ PostC (gc X) W2 a (lcL2 k t mi1 k1 t1 m vs1 (wipeE env vs) (xs.drop (i + 1)) W2.st acc) fun W' ys => Q (.ref a) W'.H,
        fun H' ⟨h1, h2⟩ => ⟨xs.length - (i + 1), by omega, rfl, h1, h2⟩, fun x H' y => ?_⟩
      obtain ⟨W3, rfl, e3, s3, hs3, hv⟩ := yld x H' y
      have er : EnvR (gc X) W3 (L2.wipe σ vs) (wipeE env vs) := (((r.mono e1).wipe vs).monoW e12).mono e3
      refine ⟨W3, wipeE env vs, d, rfl, s3, er, hv, ?_⟩
      rw [hs3]
      unfold lcL2 at p2
      cases q3 : k d (wipeE env vs) W2.st with
      | nx e4 st4 =>
        rw [q3] at p2
        dsimp only at p2
        refine fun W4 σ4 e4' s4 hs4 r4 hw => ⟨hw.trans (wipe_wipe σ vs), W4, e4, rfl, s4, r4, ?_⟩
        rw [hs4]
        cases q4 : t e4 st4 with
        | exc _ _ => rw [q4] at p2; exact p2.elim
        | no => rw [q4] at p2; exact p2.elim
        | ok b st5 =>
          rw [q4] at p2
          dsimp only [Res.bindN] at p2
          refine fun W5 e5 s5 hs5 b' hb => ?_
          subst hb
          have eA : ExtP a W2 W5 := ((e3.trans e4').trans e5).toP
          have hA : W5.H a = some (.lst us) := by
            rw [((e3.trans e4').trans e5).rk a ha2]; exact h2
          cases b' with
          | false =>
            simp only [Bool.false_eq_true, if_false] at p2 ⊢
            exact ⟨hlt, W5, us, acc, rfl, e2.trans eA, s5, hA, l2.monoW eA.toExtW, by rw [hs5]; exact p2.ext eA⟩
          | true =>
            simp only [if_true] at p2 ⊢
            refine ⟨W5, e4, rfl, s5, r4.mono e5, ?_⟩
            rw [hs5]
            cases q6 : mi1 e4 st5 with
            | exc _ _ => rw [q6] at p2; exact p2.elim
            | no => rw [q6] at p2; exact p2.elim
            | ok ys st6 =>
              rw [q6] at p2
              dsimp only at p2
              refine fun W6 e6 s6 hs6 J1 ok1 => ?_
              have eB : ExtP a W2 W6 := eA.trans e6.toP
              have ha6 : a ∈ W6.rs := by rw [eB.rs]; exact ha2
              have hB : W6.H a = some (.lst us) := by rw [e6.rk a (by rw [eA.rs]; exact ha2)]; exact hA
              have r6 : EnvR (gc X) W6 σ4 e4 := (r4.mono e5).mono e6
              have pB : PostC (gc X) W6 a ((lcL k1 t1 m (wipeE e4 vs1) ys W6.st acc).bindN fun acc' st4 => lcL2 k t mi1 k1 t1 m vs1 (wipeE env vs) (xs.drop (i + 1)) st4 acc') fun W' ys => Q (.ref a) W'.H := by
                rw [hs6]
                exact PostC.ext p2 eB
              refine ⟨fun j n H => n = ys.length - j ∧ j ≤ ys.length ∧ ∃ (W7 : Wd) (us : List V) (acc : List D), W7.H = H ∧ ExtP a W6 W7 ∧ SR (gc X) W7 ∧ W7.H a = some (.lst us) ∧ DenL (gc X) W7 us acc ∧
                PostC (gc X) W7 a ((lcL k1 t1 m (wipeE e4 vs1) (ys.drop j) W7.st acc).bindN fun acc' st4 => lcL2 k t mi1 k1 t1 m vs1 (wipeE env vs) (xs.drop (i + 1)) st4 acc') fun W' ys => Q (.ref a) W'.H,
                ⟨ys.length, by simp, Nat.zero_le _, W6, us, acc, rfl, ExtP.refl _, s6, hB, l2.monoW eB.toExtW, pB⟩, ?_⟩
              rintro j n7 H7 ⟨rfl, hj, W7, us7, acc7, rfl, e7, s7, h7, l7, p7⟩
              have ha7 : a ∈ W7.rs := by rw [e7.rs]; exact ha6
              by_cases hlt7 : j < ys.length
              · obtain ⟨d7, hd7⟩ : ∃ d, ys[j]? = some d := ⟨ys[j], by simp [hlt7]⟩
                obtain ⟨go7, yld7⟩ := ok1.go W7 j d7 e7.toExtW s7 hd7
                have hdrop7 : ys.drop j = d7 :: ys.drop (j + 1) := by
                  rw [List.drop_eq_getElem_cons hlt7]
                  congr 1
                  rw [List.getElem?_eq_getElem hlt7] at hd7
                  exact Option.some.inj hd7
                rw [hdrop7] at p7
                refine .inr ⟨go7, fun H' => j + 1 ≤ ys.length ∧ ∃ (W7 : Wd) (us : List V) (acc : List D), W7.H = H' ∧ ExtP a W6 W7 ∧ SR (gc X) W7 ∧ W7.H a = some (.lst us) ∧ DenL (gc X) W7 us acc ∧
                  PostC (gc X) W7 a ((lcL k1 t1 m (wipeE e4 vs1) (ys.drop (j + 1)) W7.st acc).bindN fun acc' st4 => lcL2 k t mi1 k1 t1 m vs1 (wipeE env vs) (xs.drop (i + 1)) st4 acc') fun W' ys => Q (.ref a) W'.H,
                  fun H' ⟨h1, h2⟩ => ⟨ys.length - (j + 1), by omega, rfl, h1, h2⟩, fun x7 H7' y7 => ?_⟩
                obtain ⟨W8, rfl, e8, s8, hs8, hv8⟩ := yld7 x7 H7' y7
                have er8 : EnvR (gc X) W8 (L2.wipe σ4 vs1) (wipeE e4 vs1) := ((r6.wipe vs1).monoW e7.toExtW).mono e8
                refine ⟨W8, wipeE e4 vs1, d7, rfl, s8, er8, hv8, ?_⟩
                rw [hs8]
                unfold lcL at p7
                cases q8 : k1 d7 (wipeE e4 vs1) W7.st with
                | nx e9 st9 =>
                  rw [q8] at p7
                  dsimp only at p7
                  refine fun W9 σ9 e9' s9 hs9 r9 hw9 => ⟨hw9.trans (wipe_wipe σ4 vs1), W9, e9, rfl, s9, r9, ?_⟩
                  rw [hs9]
                  cases q9 : t1 e9 st9 with
                  | exc _ _ => rw [q9] at p7; exact p7.elim
                  | no => rw [q9] at p7; exact p7.elim
                  | ok b st10 =>
                    rw [q9] at p7
                    dsimp only [Res.bindN] at p7
                    refine fun W10 e10 s10 hs10 b' hb => ?_
                    subst hb
                    have eC : ExtP a W7 W10 := ((e8.trans e9').trans e10).toP
                    have hC : W10.H a = some (.lst us7) := by
                      rw [((e8.trans e9').trans e10).rk a ha7]; exact h7
                    cases b' with
                    | false =>
                      simp only [Bool.false_eq_true, if_false] at p7 ⊢
                      exact ⟨hlt7, W10, us7, acc7, rfl, e7.trans eC, s10, hC, l7.monoW eC.toExtW, by rw [hs10]; exact PostC.ext p7 eC⟩
                    | true =>
                      simp only [if_true] at p7 ⊢
                      refine ⟨W10, e9, rfl, s10, r9.mono e10, ?_⟩
                      rw [hs10]
                      cases q11 : m e9 st10 with
                      | exc _ _ => rw [q11] at p7; exact p7.elim
                      | no => rw [q11] at p7; exact p7.elim
                      | ok y st11 =>
                        rw [q11] at p7
                        dsimp only at p7
                        refine fun W11 e11 s11 hs11 u hu => ?_
                        have eD : ExtP a W7 W11 := eC.trans e11.toP
                        have ha11 : a ∈ W11.rs := by rw [eD.rs]; exact ha7
                        have hD : W11.H a = some (.lst us7) := by rw [e11.rk a (by rw [eC.rs]; exact ha7)]; exact hC
                        by_cases hz : acc7.length < BIG
                        · rw [if_pos hz] at p7
                          have l11 := l7.monoW eD.toExtW
                          refine ⟨us7, hD, by rw [l11.length, big_eq]; exact hz, hlt7, W11.wr a (us7 ++ [u]), us7 ++ [u], acc7 ++ [y], rfl, (e7.trans eD).trans (wr_ext ha11), s11.wr ha11, upd_same, (l11.append (.cons hu .nil)).monoW (wr_ext ha11).toExtW, ?_⟩
                          show PostC (gc X) (W11.wr a (us7 ++ [u])) a ((lcL k1 t1 m (wipeE e4 vs1) (ys.drop (j + 1)) W11.st (acc7 ++ [y])).bindN _) _
                          rw [hs11]
                          exact PostC.ext p7 (eD.trans (wr_ext ha11))
                        · rw [if_neg hz] at p7
                          exact p7.elim
                | _ => rw [q8] at p7; exact p7.elim
              · have ej : j = ys.length := by omega
                subst ej
                rw [List.drop_length] at p7
                exact .inl ⟨ok1.stop W7 _ e7.toExtW s7 rfl, hlt, W7, us7, acc7, rfl, e2.trans (eB.trans e7), s7, h7, l7, p7⟩
      | _ => rw [q3] at p2; exact p2.elim
    · have ei : i = xs.length := by omega
      subst ei
      refine .inl ⟨ok.stop W2 _ e12 s2 rfl, ?_⟩
      rw [List.drop_length] at p2
      exact p2 W2 us (ExtP.refl _) s2 rfl h2 l2
theorem e_lc2 {elt tg iter tg1 iter1 : Expr} {ifs ifs1 : List Expr} {scope : Scope} {own : List (Str × Nat)} {vs1 : List Nat} {pos : Pos} (hc : X.calm = true) (hN : X.N.Nodup) (hi : PI X tg iter (fI (gc X) Wx mi)) (ok : BlkOk X.N X.env.scope scope own) (hv : ∀ i ∈ vs1, i ∈ own.map (·.2))
    (hg : ∀ (s : Shared) (H : Hp) (C : Addr) (cl : List (Str × Addr)) (fp : List Addr), PG (X.blk s H scope (compEnvC scope cl C X.env) fp) tg (fTg (gc X) noX (own.map (·.2)) k))
    (ht : ∀ (s : Shared) (H : Hp) (C : Addr) (cl : List (Str × Addr)) (fp : List Addr), PTs (X.blk s H scope (compEnvC scope cl C X.env) fp) ifs (fT (gc X) noX t))
    (hi1 : ∀ (s : Shared) (H : Hp) (C : Addr) (cl : List (Str × Addr)) (fp : List Addr), PI (X.blk s H scope (compEnvC scope cl C X.env) fp) tg1 iter1 (fI (gc X) noX mi1))
    (hg1 : ∀ (s : Shared) (H : Hp) (C : Addr) (cl : List (Str × Addr)) (fp : List Addr), PG (X.blk s H scope (compEnvC scope cl C X.env) fp) tg1 (fTg (gc X) noX vs1 k1))
    (ht1 : ∀ (s : Shared) (H : Hp) (C : Addr) (cl : List (Str × Addr)) (fp : List Addr), PTs (X.blk s H scope (compEnvC scope cl C X.env) fp) ifs1 (fT (gc X) noX t1))
    (he : ∀ (s : Shared) (H : Hp) (C : Addr) (cl : List (Str × Addr)) (fp : List Addr), PE (X.blk s H scope (compEnvC scope cl C X.env) fp) elt (fE (gc X) noX m)) (hs : ∀ x, foldedSetIterable iter X.env x = pure x := by intro _; rfl) (hs1 : ∀ env x, foldedSetIterable iter1 env x = pure x := by intro _ _; rfl) :
    PE X (.ListComp elt [⟨tg, iter, ifs, 0⟩, ⟨tg1, iter1, ifs1, 0⟩] scope pos) (fE (gc X) Wx (mLc2 (own.map (·.2)) vs1 mi k t mi1 k1 t1 m)) :=
  PE.imp (pe_lc2 hc hN hi ok hv hg ht hi1 hg1 ht1 he hs hs1) fun σ H Q h => lc2_im h fun W W2 p us ys a1 a2 a3 a4 a5 a6 a7 a8 => lc_frozen a1 a2 a3 a4 a5 a6 a7 a8
theorem s_setLc2 {elt tg iter tg1 iter1 : Expr} {ifs ifs1 : List Expr} {scope : Scope} {own : List (Str × Nat)} {vs1 : List Nat} {pos spos py : Pos} {y : Str} (i : Nat) (hc : X.calm = true) (hN : X.N.Nodup) (hy : X.N[i]? = some y) (hyl : X.env.scope.names.lookup y = some .local) (hi : PI X tg iter (fI (gc X) Wx mi)) (ok : BlkOk X.N X.env.scope scope own) (hv : ∀ i ∈ vs1, i ∈ own.map (·.2))
    (hg : ∀ (s : Shared) (H : Hp) (C : Addr) (cl : List (Str × Addr)) (fp : List Addr), PG (X.blk s H scope (compEnvC scope cl C X.env) fp) tg (fTg (gc X) noX (own.map (·.2)) k))
    (ht : ∀ (s : Shared) (H : Hp) (C : Addr) (cl : List (Str × Addr)) (fp : List Addr), PTs (X.blk s H scope (compEnvC scope cl C X.env) fp) ifs (fT (gc X) noX t))
    (hi1 : ∀ (s : Shared) (H : Hp) (C : Addr) (cl : List (Str × Addr)) (fp : List Addr), PI (X.blk s H scope (compEnvC scope cl C X.env) fp) tg1 iter1 (fI (gc X) noX mi1))
    (hg1 : ∀ (s : Shared) (H : Hp) (C : Addr) (cl : List (Str × Addr)) (fp : List Addr), PG (X.blk s H scope (compEnvC scope cl C X.env) fp) tg1 (fTg (gc X) noX vs1 k1))
    (ht1 : ∀ (s : Shared) (H : Hp) (C : Addr) (cl : List (Str × Addr)) (fp : List Addr), PTs (X.blk s H scope (compEnvC scope cl C X.env) fp) ifs1 (fT (gc X) noX t1))
    (he : ∀ (s : Shared) (H : Hp) (C : Addr) (cl : List (Str × Addr)) (fp : List Addr), PE (X.blk s H scope (compEnvC scope cl C X.env) fp) elt (fE (gc X) noX m))
    (hsw : swapsWith (.ListComp elt [⟨tg, iter, ifs, 0⟩, ⟨tg1, iter1, ifs1, 0⟩] scope pos) (some (.Name y py)) spos.line X.env = pure true) (hs : ∀ x, foldedSetIterable iter X.env x = pure x := by intro _; rfl) (hs1 : ∀ env x, foldedSetIterable iter1 env x = pure x := by intro _ _; rfl) :
    PS X (.Assign [.Name y py] (.ListComp elt [⟨tg, iter, ifs, 0⟩, ⟨tg1, iter1, ifs1, 0⟩] scope pos) spos) (fS (gc X) Wx (mSet i (mLc2 (own.map (·.2)) vs1 mi k t mi1 k1 t1 m))) :=
  PS.imp (ps_setLc2 hc hN hy hyl hsw hi ok hv hg ht hi1 hg1 ht1 he hs hs1) fun D σ H h => by
    show tLc2 (fI (gc X) Wx mi) (fTg (gc X) noX (own.map (·.2)) k) (fT (gc X) noX t) (fI (gc X) noX mi1) (fTg (gc X) noX vs1 k1) (fT (gc X) noX t1) (fE (gc X) noX m) (own.map (·.2)) vs1 σ H fun v H1 => D.nx (σ.set i (some v)) H1
    have h2 : fE (gc X) Wx (mLc2 (own.map (·.2)) vs1 mi k t mi1 k1 t1 m) σ H fun v H1 => D.nx (σ.set i (some v)) H1 := fG_mono (liftS h) fun v H' ⟨W, env, d, e0, s, r, hv, p⟩ => by
      subst e0
      exact p W _ (Ext.refl W) s rfl (r.set i hv)
    exact lc2_im h2 fun W W2 p us ys a1 a2 a3 a4 a5 a6 a7 a8 => lc_frozen a1 a2 a3 a4 a5 a6 a7 a8
end
end FL
end
section
set_option Elab.async false
set_option linter.all false
set_option maxRecDepth 100000
/-! FMU: rows sorted whose places need not be alike behind the first that differs. -/
namespace FLs
open PySem PySem.SeqAt PySem.W PyProof.Rows
open AutoSeq1 (wpAny_loadPart')
open MeetsSeq MeetsSeq2 MeetsSeq3 SeqRoads2
mutual
def pl : PyData → Bool
  | .int _ => true
  | .str _ => true
  | .tuple xs => plAll xs
  | _ => false
def plAll : List PyData → Bool
  | [] => true
  | x :: xs => pl x && plAll xs
end
mutual
def lx : PyData → PyData → Bool
  | .int _, .int _ => true
  | .str _, .str _ => true
  | .tuple xs, .tuple ys => lxAll xs ys
  | _, _ => false
def lxAll : List PyData → List PyData → Bool
  | x :: xs, y :: ys => cond (PyData.eqv x y) (lxAll xs ys) (lx x y)
  | [], _ => true
  | _ :: _, [] => true
end
theorem ba2 {a b : Bool} (h : (a && b) = true) : a = true ∧ b = true := Bool.and_eq_true_iff.mp h
mutual
theorem pl_eq : ∀ (x y : PyData), pl x = true → pl y = true → PyData.eqv x y = true → x = y
  | .int a, y, _, hy, e => by
    cases y with
    | int b => rw [show a = b by simpa [PyData.eqv] using e]
    | str b => exact absurd e (by simp [PyData.eqv])
    | tuple b => exact absurd e (by simp [PyData.eqv])
    | _ => cases hy
  | .str a, y, _, hy, e => by
    cases y with
    | str b => rw [show a = b by simpa [PyData.eqv] using e]
    | int b => exact absurd e (by simp [PyData.eqv])
    | tuple b => exact absurd e (by simp [PyData.eqv])
    | _ => cases hy
  | .tuple xs, y, hx, hy, e => by
    cases y with
    | tuple ys => rw [plAll_eq xs ys (by simpa [pl] using hx) (by simpa [pl] using hy) (by simpa [PyData.eqv] using e)]
    | int b => exact absurd e (by simp [PyData.eqv])
    | str b => exact absurd e (by simp [PyData.eqv])
    | _ => cases hy
  | .none, _, h, _, _ => by cases h
  | .bool _, _, h, _, _ => by cases h
  | .list _, _, h, _, _ => by cases h
  | .dict _, _, h, _, _ => by cases h
theorem plAll_eq : ∀ (xs ys : List PyData), plAll xs = true → plAll ys = true → PyData.eqvAll xs ys = true → xs = ys
  | [], [], _, _, _ => rfl
  | [], y :: ys, _, _, e => absurd e (by simp [PyData.eqvAll])
  | x :: xs, [], _, _, e => absurd e (by simp [PyData.eqvAll])
  | x :: xs, y :: ys, hx, hy, e => by
    unfold plAll at hx hy
    rw [eqv_all_cons] at e
    rw [pl_eq x y (ba2 hx).1 (ba2 hy).1 (ba2 e).1, plAll_eq xs ys (ba2 hx).2 (ba2 hy).2 (ba2 e).2]
end
mutual
theorem toks_lx : ∀ (x y : PyData), lx x y = true → pl x = true → pl y = true → PyData.eqv x y = false → ∀ l m, lexLt itemOrd (keyToks x ++ l) (keyToks y ++ m) = lexLt itemOrd (keyToks x) (keyToks y)
  | .int a, y, h, _, _, e, l, m => by
    cases y with
    | int b =>
      have hne : a ≠ b := fun q => by subst q; simp [PyData.eqv] at e
      simp only [keyToks, List.cons_append, List.nil_append]
      exact lex_atom (fun q => hne (Sum.inl.inj q)) l m
    | _ => cases h
  | .str a, y, h, _, _, e, l, m => by
    cases y with
    | str b =>
      have hne : a ≠ b := fun q => by subst q; simp [PyData.eqv] at e
      simp only [keyToks, List.cons_append, List.nil_append]
      exact lex_atom (fun q => hne (str_of_cps (Sum.inr.inj q))) l m
    | _ => cases h
  | .tuple xs, y, h, hx, hy, e, l, m => by
    cases y with
    | tuple ys =>
      simp only [keyToks]
      exact toksAll_lx xs ys (by simpa [lx] using h) (by simpa [pl] using hx) (by simpa [pl] using hy) (by simpa [PyData.eqv] using e) l m
    | _ => cases h
  | .none, _, h, _, _, _, _, _ => by cases h
  | .bool _, _, h, _, _, _, _, _ => by cases h
  | .list _, _, h, _, _, _, _, _ => by cases h
  | .dict _, _, h, _, _, _, _, _ => by cases h
theorem toksAll_lx : ∀ (xs ys : List PyData), lxAll xs ys = true → plAll xs = true → plAll ys = true → PyData.eqvAll xs ys = false → ∀ l m, lexLt itemOrd (keyToksAll xs ++ l) (keyToksAll ys ++ m) = lexLt itemOrd (keyToksAll xs) (keyToksAll ys)
  | [], [], _, _, _, e, _, _ => absurd e (by simp [PyData.eqvAll])
  | [], y :: ys, _, _, _, _, l, m => by
      simp only [keyToksAll, List.cons_append, List.nil_append]
      exact (lex_atom (by simp) _ _).trans (lex_atom (by simp) _ _).symm
  | x :: xs, [], _, _, _, _, l, m => by
      simp only [keyToksAll, List.cons_append, List.nil_append]
      exact (lex_atom (by simp) _ _).trans (lex_atom (by simp) _ _).symm
  | x :: xs, y :: ys, h, hx, hy, e, l, m => by
    unfold plAll at hx hy
    unfold lxAll at h
    rw [eqv_all_cons] at e
    rw [toks_all_cons, toks_all_cons]
    simp only [List.cons_append, List.append_assoc]
    cases q : PyData.eqv x y with
    | true =>
      rw [q] at h e
      have exy := pl_eq x y (ba2 hx).1 (ba2 hy).1 q
      subst exy
      exact (lex_self (O := itemOrd) _ _ _).trans ((lex_pre _ _ _).trans ((toksAll_lx xs ys h (ba2 hx).2 (ba2 hy).2 (by simpa using e) l m).trans ((lex_pre _ _ _).symm.trans (lex_self (O := itemOrd) _ _ _).symm)))
    | false =>
      rw [q] at h
      have a2 := toks_lx x y h (ba2 hx).1 (ba2 hy).1 q
      exact (lex_self (O := itemOrd) _ _ _).trans ((a2 _ _).trans ((a2 _ _).symm.trans (lex_self (O := itemOrd) _ _ _).symm))
end
theorem all_yes {x y : PyData} {xs ys : List PyData} (hx : pl x = true) (hy : pl y = true) (e : PyData.eqv x y = true) : lexLt itemOrd (keyToksAll (x :: xs)) (keyToksAll (y :: ys)) = lexLt itemOrd (keyToksAll xs) (keyToksAll ys) := by
  have exy := pl_eq x y hx hy e
  subst exy
  rw [toks_all_cons, toks_all_cons]
  exact (lex_self (O := itemOrd) _ _ _).trans (lex_pre _ _ _)
theorem all_no {x y : PyData} {xs ys : List PyData} (h : lx x y = true) (hx : pl x = true) (hy : pl y = true) (e : PyData.eqv x y = false) : lexLt itemOrd (keyToksAll (x :: xs)) (keyToksAll (y :: ys)) = dataLt x y := by
  rw [toks_all_cons, toks_all_cons]
  exact (lex_self (O := itemOrd) _ _ _).trans (toks_lx x y h hx hy e _ _)
theorem firstLt_lx : ∀ (xs ys : List PyData), lxAll xs ys = true → plAll xs = true → plAll ys = true →
    firstLt (pairEq xs ys) (fun j => dataLt (xs.getD j .none) (ys.getD j .none)) (decide (xs.length < ys.length)) (List.range (min xs.length ys.length)) = lexLt itemOrd (keyToksAll xs) (keyToksAll ys)
  | [], [], _, _, _ => by simp [firstLt, keyToksAll, lex_irrefl]
  | [], y :: ys, _, _, _ => by
    rw [toks_all_cons]
    simp only [keyToksAll]
    rw [lex_diff (O := itemOrd) (by simp)]
    simp [firstLt, itemLt]
  | x :: xs, [], _, _, _ => by
    rw [toks_all_cons]
    simp only [keyToksAll]
    rw [lex_diff (O := itemOrd) (by simp)]
    simp [firstLt, itemLt]
  | x :: xs, y :: ys, h, hx, hy => by
    unfold plAll at hx hy
    unfold lxAll at h
    have em : min (x :: xs).length (y :: ys).length = min xs.length ys.length + 1 := by
      rw [List.length_cons, List.length_cons]
      omega
    have ed : decide ((x :: xs).length < (y :: ys).length) = decide (xs.length < ys.length) := by
      rw [List.length_cons, List.length_cons]
      exact decide_eq_decide.mpr (by omega)
    rw [em, ed, List.range_succ_eq_map]
    cases q : PyData.eqv x y with
    | true =>
      rw [q] at h
      have ih := firstLt_lx xs ys h (ba2 hx).2 (ba2 hy).2
      rw [firstLt_yes (show pairEq (x :: xs) (y :: ys) 0 = true from q), firstLt_map, all_yes (ba2 hx).1 (ba2 hy).1 q, ← ih]
      rfl
    | false =>
      rw [q] at h
      rw [firstLt_no (show pairEq (x :: xs) (y :: ys) 0 = false from q), all_no h (ba2 hx).1 (ba2 hy).1 q]
      rfl
/-! < of tuples, where only the first place that differs has to be compared -/
theorem tuple_ltF (l b : Addr) (items items2 : Array Value) (n n2 : Nat) (dd dd2 : Option Addr) (sl sl2 : Array (Option Value)) (e r : Nat → Bool) :
    Meets (Builtin.«tuple.__lt__» ⟨[.ref l, .ref b], []⟩)
      (fun A R s => s.heap.get? l = some { cls := .type "tuple", dict := dd, data := .seq items n, slots := sl } ∧ s.heap.get? b = some { cls := .type "tuple", dict := dd2, data := .seq items2 n2, slots := sl2 } ∧
        (∀ j (h1 : j < items.size) (h2 : j < items2.size), EqAt A.in1 s items[j] items2[j] (e j)) ∧ (∀ j (h1 : j < items.size) (h2 : j < items2.size), e j = false → (∀ i, i < j → e i = true) → RcLt A.in1 s items[j] items2[j] (r j)) ∧
        R (.ok (.ret (.bool (firstLt e r (decide (items.size < items2.size)) (List.range (min items.size items2.size)))))) s) :=
  .of_wp fun prog w A R s h => by
    obtain ⟨hp, g, d, tk, os⟩ := s; obtain ⟨hl, hb, he, hr, h⟩ := h
    have f2 := AutoSeq1.sub_tuple_tuple
    have hZ : (items.toList.zip items2.toList).length = min items.size items2.size := by simp
    wp_walk using wpAny_loadPart' hl, wpAny_loadPart' hb, wpAny_forIn_list _ (fun rest b s' => b.1 = none ∧ s' = ⟨hp, g, d, tk, os⟩ ∧ ∃ i, rest = (items.toList.zip items2.toList).drop i ∧ (∀ k, k < i → e k = true) ∧
      R (.ok (.ret (.bool (firstLt e r (decide (items.size < items2.size)) ((List.range (min items.size items2.size)).drop i))))) ⟨hp, g, d, tk, os⟩) _
    case turn =>
      rintro ⟨y, x⟩ rest b s' ⟨hb', rfl, i, hz, hpre, hR⟩
      have hlt : i < (items.toList.zip items2.toList).length := by
        rcases Nat.lt_or_ge i (items.toList.zip items2.toList).length with h' | h'
        · exact h'
        · rw [List.drop_of_length_le h'] at hz; cases hz
      have hm : i < min items.size items2.size := hZ ▸ hlt
      have h1 : i < items.size := Nat.lt_of_lt_of_le hm (Nat.min_le_left _ _)
      have h2 : i < items2.size := Nat.lt_of_lt_of_le hm (Nat.min_le_right _ _)
      rw [List.drop_eq_getElem_cons hlt] at hz
      injection hz with hyx hrest
      have hy : y = items[i] := by have := congrArg Prod.fst hyx; simpa using this
      have hx : x = items2[i] := by have := congrArg Prod.snd hyx; simpa using this
      subst hy hx
      have hd : (List.range (min items.size items2.size)).drop i = i :: (List.range (min items.size items2.size)).drop (i + 1) := by simp [List.drop_eq_getElem_cons, hm]
      rw [hd] at hR
      refine wpAny_bind (he i h1 h2 prog w _ _ ?_)
      cases hy : e i with
      | true =>
        rw [firstLt_yes hy] at hR
        wp_walk
        exact ⟨rfl, rfl, i + 1, hrest, fun k hk => by rcases Nat.lt_succ_iff_lt_or_eq.mp hk with hk | rfl; exact hpre k hk; exact hy, hR⟩
      | false =>
        rw [firstLt_no hy] at hR
        refine wpAny_bind (wpAny_rule ?_)
        refine wpAny_bind (hr i h1 h2 hy hpre prog w _ _ ?_)
        wp_walk
        exact ⟨_, rfl, hR⟩
    case fin =>
      rintro ⟨b1, b2⟩ s' ⟨hb', rfl, i, hz, hpre, hR⟩
      simp only at hb'
      subst hb'
      have hge : min items.size items2.size ≤ i := by
        rcases Nat.lt_or_ge i (items.toList.zip items2.toList).length with h' | h'
        · rw [List.drop_eq_getElem_cons h'] at hz; cases hz
        · exact hZ ▸ h'
      rw [List.drop_of_length_le (by simpa using hge)] at hR
      wp_walk
      exact ⟨_, rfl, by simpa [Builtin.Tuple.tupleCompareSizes, firstLt] using hR⟩
    case h =>
      exact ⟨rfl, rfl, 0, rfl, fun k hk => absurd hk (Nat.not_lt_zero _), by simpa using h⟩
section
variable {A : Around} {s : Shared}
theorem rcLtF {l b : Addr} {items items2 : Array Value} {e r : Nat → Bool} (hl : s.heap.IsTuple l items) (hb : s.heap.IsTuple b items2) (hu : A.units < cLine)
    (he : ∀ j (h1 : j < items.size) (h2 : j < items2.size), EqAt A.in1 s items[j] items2[j] (e j)) (hr : ∀ j (h1 : j < items.size) (h2 : j < items2.size), e j = false → (∀ i, i < j → e i = true) → RcLt A.in1 s items[j] items2[j] (r j)) :
    RcLt A s (.ref l) (.ref b) (firstLt e r (decide (items.size < items2.size)) (List.range (min items.size items2.size))) := fun prog w E Q h => by
  obtain ⟨⟨cls, dd, data, sl⟩, ho, hc, n, hd⟩ := id hl
  obtain ⟨⟨cls2, dd2, data2, sl2⟩, ho2, hc2, n2, hd2⟩ := id hb
  simp only at hc hd hc2 hd2
  subst hc hd hc2 hd2
  exact richCompare_meets_room (op := .Lt) ⟨_, ho, rfl⟩ ⟨_, ho2, rfl⟩ F.slot_tuple_lt F.entry_tuple_lt (F.args_tuple_lt_2 _ _) (tuple_ltF l b items items2 n n2 dd dd2 sl sl2 e r)
    ⟨ho, ho2, he, hr, show Value.bool (firstLt e r (decide (items.size < items2.size)) (List.range (min items.size items2.size))) ≠ Value.notImplemented ∧ Q (.bool (firstLt e r (decide (items.size < items2.size)) (List.range (min items.size items2.size)))) s from ⟨(fun x => nomatch x), h⟩⟩ hu
mutual
theorem pl_plain : ∀ d : PyData, pl d = true → d.plain = true
  | .int _, _ => rfl
  | .str _, _ => rfl
  | .tuple xs, h => by
    simp only [PyData.plain]
    exact plAll_plain xs (by simpa [pl] using h)
  | .none, h => by cases h
  | .bool _, h => by cases h
  | .list _, h => by cases h
  | .dict _, h => by cases h
theorem plAll_plain : ∀ xs : List PyData, plAll xs = true → PyData.plainAll xs = true
  | [], _ => rfl
  | x :: xs, h => by
    unfold plAll at h
    simp only [PyData.plainAll, pl_plain x (ba2 h).1, plAll_plain xs (ba2 h).2, Bool.and_self]
end
mutual
theorem rcLt_lx : ∀ (da db : PyData) (A : Around) (s : Shared) (a b : Value) (as bs : List Addr), Reads s.heap a da as → Reads s.heap b db bs → lx da db = true → pl da = true → pl db = true → A.units + min da.depth db.depth < cLine → RcLt A s a b (dataLt da db)
  | .int x, db, A, s, a, b, as, bs, ra, rb, h, _, _, _ => by
    cases db with
    | int y =>
      cases ra
      cases rb
      intro prog w E Q hq
      rw [dataLt_int] at hq
      exact P.lt_int hq
    | _ => cases h
  | .str x, db, A, s, a, b, as, bs, ra, rb, h, _, _, _ => by
    cases db with
    | str y =>
      cases ra
      cases rb
      intro prog w E Q hq
      rw [dataLt_str] at hq
      exact P.lt_str hq
    | _ => cases h
  | .tuple xs, db, A, s, a, b, as, bs, ra, rb, h, hx, hy, hu => by
    cases db with
    | tuple ys =>
      have hal : lxAll xs ys = true := by simpa [lx] using h
      have hx' : plAll xs = true := by simpa [pl] using hx
      have hy' : plAll ys = true := by simpa [pl] using hy
      cases ra with
      | @tuple l o vs n _ as₁ h1 h2 h3 h4 =>
        cases rb with
        | @tuple l' o' vs' n' _ bs₁ k1 k2 k3 k4 =>
          have n1 : vs.size = xs.length := by simpa using ReadsAll.length _ _ _ h4
          have n2 : vs'.size = ys.length := by simpa using ReadsAll.length _ _ _ k4
          rw [dataLt_tuple, ← firstLt_lx xs ys hal hx' hy', ← n1, ← n2]
          refine rcLtF ⟨_, h1, h2, _, h3⟩ ⟨_, k1, k2, _, k3⟩ (room_here hu) (fun j j1 j2 => ?_) fun j j1 j2 hj hp => ?_
          · have := eqAt_plainAll xs ys A.in1 s vs.toList vs'.toList _ _ h4 k4 (plAll_plain _ hx') (plAll_plain _ hy') (room_in hu) j (by simpa using j1) (by simpa using j2)
            simpa using this
          · have := rcLt_lxAll xs ys A.in1 s vs.toList vs'.toList _ _ h4 k4 hal hx' hy' (room_in hu) j (by simpa using j1) (by simpa using j2) hj hp
            simpa using this
    | _ => cases h
  | .none, _, _, _, _, _, _, _, _, _, h, _, _, _ => by cases h
  | .bool _, _, _, _, _, _, _, _, _, _, h, _, _, _ => by cases h
  | .list _, _, _, _, _, _, _, _, _, _, h, _, _, _ => by cases h
  | .dict _, _, _, _, _, _, _, _, _, _, h, _, _, _ => by cases h
theorem rcLt_lxAll : ∀ (xs ys : List PyData) (A : Around) (s : Shared) (vs ws : List Value) (as bs : List Addr), ReadsAll s.heap vs xs as → ReadsAll s.heap ws ys bs → lxAll xs ys = true → plAll xs = true → plAll ys = true →
    A.units + min (PyData.depthAll xs) (PyData.depthAll ys) < cLine → ∀ j (h1 : j < vs.length) (h2 : j < ws.length), pairEq xs ys j = false → (∀ i, i < j → pairEq xs ys i = true) → RcLt A s vs[j] ws[j] (dataLt (xs.getD j .none) (ys.getD j .none))
  | [], _, _, _, _, _, _, _, ra, _, _, _, _, _, j, h1, _, _, _ => by cases ra; exact absurd h1 (Nat.not_lt_zero _)
  | _ :: _, [], _, _, _, _, _, _, _, rb, _, _, _, _, j, _, h2, _, _ => by cases rb; exact absurd h2 (Nat.not_lt_zero _)
  | x :: xs, y :: ys, A, s, _, _, _, _, ra, rb, h, hx, hy, hu, j, h1, h2, hj, hp => by
    unfold plAll at hx hy
    unfold lxAll at h
    cases ra with
    | cons r rs =>
      cases rb with
      | cons r' rs' =>
        cases j with
        | zero =>
          have hj' : PyData.eqv x y = false := hj
          rw [hj'] at h
          exact rcLt_lx x y A s _ _ _ _ r r' h (ba2 hx).1 (ba2 hy).1 (room_head hu)
        | succ j =>
          have h0 : PyData.eqv x y = true := hp 0 (Nat.succ_pos _)
          rw [h0] at h
          exact rcLt_lxAll xs ys A s _ _ _ _ rs rs' h (ba2 hx).2 (ba2 hy).2 (room_tail hu) j (Nat.lt_of_succ_lt_succ h1) (Nat.lt_of_succ_lt_succ h2) hj fun i hi => hp (i + 1) (Nat.succ_lt_succ hi)
end
end
section
variable {prog : Program} {w : World} {A : Around} {E : Value → Shared → Prop} {s : Shared}
theorem oneLt_lx {da db : PyData} {a b : Value} {as bs : List Addr} {Q : Bool → Shared → Prop} (ra : Reads s.heap a da as) (rb : Reads s.heap b db bs) (h : lx da db = true) (ha : pl da = true) (hb : pl db = true)
    (hu : A.units + min da.depth db.depth < cLine) (hq : Q (dataLt da db) s) : wpAny (model prog w) A (oneLt' false a b) Q E s := by
  rw [oneLt'_eq]
  simp only [Bool.false_eq_true, if_false]
  exact wpAny_bind (rcLt_lx da db A s a b as bs ra rb h ha hb hu prog w E _ (wpAny_truthy_bool hq))
theorem katLex_lx {b fin : Bool} {Q : Bool → Shared → Prop} : ∀ (xs ys : List PyData) (i : Nat) (vs ws : List Value) (as bs : List Addr), ReadsAll s.heap vs xs as → ReadsAll s.heap ws ys bs → lxAll xs ys = true → plAll xs = true → plAll ys = true →
    A.units + min (PyData.depthAll xs) (PyData.depthAll ys) < cLine → (b = true → i = 0 → ∀ x r, xs = x :: r → ∃ n, x = .int n) → fin = decide (xs.length < ys.length) → Q (lexLt itemOrd (keyToksAll xs) (keyToksAll ys)) s → KatLex prog w A b fin Q (vs.zip ws) i s
  | [], [], i, _, _, _, _, ra, rb, _, _, _, _, _, hf, hq => by
    cases ra
    cases rb
    have e : fin = false := by rw [hf]; rfl
    subst e
    rw [lex_irrefl] at hq
    exact kat_nil hq
  | [], y :: ys, i, _, _, _, _, ra, rb, _, _, _, _, _, hf, hq => by
    cases ra
    have e : fin = true := by rw [hf]; exact decide_eq_true (Nat.succ_pos _)
    subst e
    rw [toks_all_cons] at hq
    simp only [keyToksAll] at hq
    rw [lex_diff (O := itemOrd) (by simp)] at hq
    rw [List.zip_nil_left]
    exact kat_nil (by simpa [itemLt] using hq)
  | x :: xs, [], i, _, _, _, _, ra, rb, _, _, _, _, _, hf, hq => by
    cases rb
    have e : fin = false := by rw [hf]; exact decide_eq_false (Nat.not_lt_zero _)
    subst e
    rw [toks_all_cons] at hq
    simp only [keyToksAll] at hq
    rw [lex_diff (O := itemOrd) (by simp)] at hq
    rw [List.zip_nil_right]
    exact kat_nil (by simpa [itemLt] using hq)
  | x :: xs, y :: ys, i, _, _, _, _, ra, rb, h, hx, hy, hu, hb, hf, hq => by
    unfold plAll at hx hy
    unfold lxAll at h
    have hf' : fin = decide (xs.length < ys.length) := by
      rw [hf]
      simp only [List.length_cons, Nat.add_lt_add_iff_right]
    cases ra with
    | cons r rs =>
      cases rb with
      | cons r' rs' =>
        rw [List.zip_cons_cons]
        refine kat_cons (eqAt_plain x y A s _ _ _ _ r r' (pl_plain _ (ba2 hx).1) (pl_plain _ (ba2 hy).1) (room_head hu) prog w _ _ ?_)
        cases q : PyData.eqv x y with
        | true =>
          rw [q] at h
          rw [all_yes (ba2 hx).1 (ba2 hy).1 q] at hq
          exact kat_yes (katLex_lx xs ys (i + 1) _ _ _ _ rs rs' h (ba2 hx).2 (ba2 hy).2 (room_tail hu) (fun _ hi => absurd hi (Nat.succ_ne_zero i)) hf' hq)
        | false =>
          rw [q] at h
          rw [all_no h (ba2 hx).1 (ba2 hy).1 q] at hq
          refine kat_no ?_
          cases hbi : (b && i == 0) with
          | false => exact oneLt_lx r r' h (ba2 hx).1 (ba2 hy).1 (room_head hu) hq
          | true =>
            rw [Bool.and_eq_true] at hbi
            obtain ⟨n, rfl⟩ := hb hbi.1 (by simpa using hbi.2) x xs rfl
            cases y with
            | int k =>
              cases r
              cases r'
              rw [dataLt_int] at hq
              exact oneLt_int hq
            | _ => cases h
end
end FLs
end
section
set_option Elab.async false
set_option linter.all false
set_option maxRecDepth 100000
/-! FMV: sorted(rows), each row a tuple that begins with a number; xs != []. -/
namespace FLs
open PySem PySem.SeqAt PySem.W PyProof.Rows PySem.Calls
def AllLx (ds : List PyData) : Prop := ∀ d, d ∈ ds → (pl d = true ∧ (∃ n r, d = .tuple (.int n :: r))) ∧ ∀ d', d' ∈ ds → lx d d' = true
theorem lkind_some {h : Heap} {ds : List PyData} (hal : AllLx ds) {v : Value} {d : PyData} {as : List Addr} (hd : d ∈ ds) (r : Reads h v d as) : (dataKind h ds).keyOf v = some (keyToks d) := by
  have q : ∃ d, d ∈ ds ∧ ∃ as, Reads h v d as := ⟨d, hd, as, r⟩
  have e : (dataKind h ds).keyOf v = some (keyToks q.choose) := by
    show (open Classical in if q : ∃ d, d ∈ ds ∧ ∃ as, Reads h v d as then some (keyToks q.choose) else none) = _
    rw [dif_pos q]
  obtain ⟨h1, as', h2⟩ := q.choose_spec
  rw [e, plain_unique _ _ _ _ _ (pl_plain _ (hal _ h1).1.1) h2 r]
theorem lkeys {h : Heap} {ds : List PyData} (hal : AllLx ds) {vs : List Value} (e : EachIs (fun v d => ∃ as, Reads h v d as) vs ds) : EachIs (fun v d => (dataKind h ds).keyOf v = some (keyToks d)) vs ds :=
  (each_mem e).mono fun _ _ ⟨⟨_, r⟩, hd⟩ => lkind_some hal hd r
theorem sortVals_lx {β : Type} {h' : Heap} {R : Value → β → Prop} {enc : β → PyData} {vs : List Value} {bs : List β} (e : EachIs R vs bs) (er : EachIs (fun v b => ∃ as, Reads h' v (enc b) as) vs bs) (hal : AllLx (bs.map enc)) :
    EachIs R (sortVals (dataKind h' (bs.map enc)) false vs vs) (bs.mergeSort (dataLe false enc)) :=
  sortVals_each (κ := dataKind h' (bs.map enc)) (fun b => keyToks (enc b)) e (each_of_map enc (lkeys hal (each_map (R := fun v d => ∃ as, Reads h' v d as) enc er)))
section
variable {prog : Program} {w : World} {A : Around} {s : Shared}
theorem SortsAtL {vs : List Value} {ds : List PyData} (e : EachIs (fun v d => ∃ as, Reads s.heap v d as) vs ds) (hal : AllLx ds) (hu : ∀ d, d ∈ ds → A.units + d.depth < cLine) : SortsAt prog w A s (dataKind s.heap ds) vs := by
  have room : ∀ {d d' : PyData}, d ∈ ds → A.units + min d.depth d'.depth < cLine := fun {d d'} hd => Nat.lt_of_le_of_lt (Nat.add_le_add_left (Nat.min_le_left _ _) _) (hu d hd)
  have ht : ∀ d, d ∈ ds → ∃ x r, d = .tuple (x :: r) := fun d hd => by
    obtain ⟨n, r, e⟩ := (hal d hd).1.2
    exact ⟨_, r, e⟩
  refine ⟨fun v hv => ?_, ?_⟩
  · obtain ⟨d, hd, as, r⟩ := e.left v hv
    exact ⟨_, lkind_some hal hd r⟩
  · cases ds with
    | nil =>
      cases e
      exact ⟨general', fun E x y a b Q ha _ _ => (by
        obtain ⟨d, _, hd, _⟩ := dataKind_inv ha
        exact absurd hd (by simp)), fun h2 => absurd h2 (by simp)⟩
    | cons d₀ ds₀ =>
      refine ⟨tuples' (dataType (.int 0) != Value.type "tuple"), ?_, fun h2 E Q hq => ?_⟩
      · intro E x y a b Q ha hb hq
        obtain ⟨d, as, hd, ra, rfl⟩ := dataKind_inv ha
        obtain ⟨d', as', hd', rb, rfl⟩ := dataKind_inv hb
        have hdd := (hal d hd).2 d' hd'
        have hroom := room (d' := d') hd
        obtain ⟨⟨p1, n1', r1, rfl⟩, _⟩ := hal d hd
        obtain ⟨⟨p2, n2', r2, rfl⟩, _⟩ := hal d' hd'
        have hq' : Q (dataLt (.tuple (.int n1' :: r1)) (.tuple (.int n2' :: r2))) s := hq
        rw [dataLt_tuple] at hq'
        cases ra with
        | @tuple l o xs n _ _ h1 h2 h3 h4 =>
          cases rb with
          | @tuple l' o' xs' n' _ _ k1 k2 k3 k4 =>
            have n1 : xs.size = (PyData.int n1' :: r1).length := by simpa using SeqAt.ReadsAll.length _ _ _ h4
            have n2 : xs'.size = (PyData.int n2' :: r2).length := by simpa using SeqAt.ReadsAll.length _ _ _ k4
            exact kat_lt h1 h3 k1 k3 (katLex_lx (.int n1' :: r1) (.int n2' :: r2) 0 _ _ _ _ h4 k4 (by simpa [lx] using hdd) (by simpa [pl] using p1) (by simpa [pl] using p2) (by have q := SeqAt.room_in hroom; omega) (fun _ _ x r ex => ⟨n1', (List.cons.inj ex).1.symm⟩) (by rw [n1, n2]) hq')
      · obtain ⟨fs, t1, t2, t3⟩ := each_katTups e ht
        refine kat_kind (T := dataType (.int 0)) t1 (by omega) (fun f hf => ?_) (beq_self_eq_true _) hq
        obtain ⟨x, r, as, m1, m2⟩ := t3 f hf
        obtain ⟨n, r', ex⟩ := (hal _ m1).1.2
        injection ex with ex
        injection ex with ex1 ex2
        subst ex1
        have z := fun M => looks_reads (M := M) m2
        exact z _
theorem sorted_dataL {β : Type} {E : Value → Shared → Prop} {vs : List Value} {bs : List β} {enc : β → PyData} {R : Value → β → Prop} {l : Addr} {Q : Value → Shared → Prop} (hl : s.heap.IsList l vs.toArray) (e : EachIs R vs bs) (er : EachIs (fun v b => ∃ as, Reads s.heap v (enc b) as) vs bs) (hal : AllLx (bs.map enc)) (hL : bs.length ≤ sizeLine)
    (hu : ∀ b, b ∈ bs → A.units + 2 + (enc b).depth < cLine) (h : ∀ out, out.length = bs.length → EachIs R out (bs.mergeSort (dataLe false enc)) → Q (.ref (s.heap.objs.size + 1)) { s with heap := sortedAll s.heap vs (List.toArray out) }) :
    wpAny (model prog w) A (call (.builtin "sorted") [.ref l]) Q E s := by
  have er' : EachIs (fun v b => ∃ as, Reads (sortingHeap (copyHeap s.heap vs) (s.heap.objs.size + 1) vs) v (enc b) as) vs bs := er.mono fun _ _ ⟨as, r⟩ => ⟨as, PyProof.Rows.Reads.keeps (fun _ _ => sorting_copy_old) r⟩
  exact sorted_vals hl (SortsAtL (s := { s with heap := sortingHeap (copyHeap s.heap vs) (s.heap.objs.size + 1) vs }) (each_map (R := fun v d => ∃ as, Reads (sortingHeap (copyHeap s.heap vs) (s.heap.objs.size + 1) vs) v d as) enc er') hal (bound_map hu)) (by rw [e.length]; exact hL)
    (h _ (by rw [sortVals_length false rfl]; exact e.length) (sortVals_lx e er' hal))
end
end FLs
namespace FL
open PySem PySem.Spec PyProof.Rows L2
def rSortL (K : PySem.W.Frag) : List V → Hp → VK → Prop := fun xs H Q => ∃ (a : Addr) (vs : List V) (es : List PyData), xs = [V.ref a] ∧ SqL K H a vs ∧ vs.length = es.length ∧ (∀ (i : Nat) v e, vs[i]? = some v → es[i]? = some e → Dp K H v e) ∧ FLs.AllLx es ∧ (∀ e ∈ es, e.depth ≤ 40) ∧
  ∀ p, H p = none → Q (.ref p) (upd H p (.lst (((vs.zip es).mergeSort (PySem.W.dataLe false Prod.snd)).map Prod.fst)))
theorem cr_sortL {X : Cx} (hu : X.A.units + 65 < cLine) : CallR X (.builtin "sorted") (rSortL X.K) := by
  intro pins s σ H xs us Q I r h
  obtain ⟨a, vs, es, rfl, hs, hl, hd, hal, hdp, q⟩ := h
  obtain ⟨its, rv, hli, hz⟩ := I.list hs
  rw [Vals.ref1 r]
  have hlz : (vs.zip es).length = vs.length := by rw [List.length_zip, hl, Nat.min_self]
  have em : (vs.zip es).map Prod.snd = es := map_snd_zip hl
  refine FLs.sorted_dataL (β := V × PyData) (enc := Prod.snd) (R := fun u p => RelV p.1 u) hli.isList (each_zip rv hl fun _ _ _ _ _ _ _ h => h)
    (each_zip rv hl fun i v u e h1 h2 h3 h4 => Dp.reads I e v u (hd i v e h1 h3) h4) (by rw [em]; exact hal) (by rw [hlz]; exact hz)
    (fun p hp => by
      have := hdp p.2 (by rw [← em]; exact List.mem_map.mpr ⟨p, hp, rfl⟩)
      omega) (fun out h1 h2 => ?_)
  obtain ⟨ep, he'⟩ := PyProof.Rows.sortedAll_at s.heap its out.toArray
  have v2 := vals_of_each (out := out) h2
  have hlen : (((vs.zip es).mergeSort (PySem.W.dataLe false Prod.snd)).map Prod.fst).length ≤ sizeLine := by
    rw [List.length_map, List.length_mergeSort, hlz]; exact hz
  exact ⟨.ref _, upd H (s.heap.objs.size + 1) (.lst (((vs.zip es).mergeSort (PySem.W.dataLe false Prod.snd)).map Prod.fst)), I.laid (t' := s.toks) (fun _ _ => PyProof.Rows.sortedAll_old) (Nat.le_succ _) ⟨hlen, out, ep, v2, by simpa using he'⟩, rfl, q _ (I.hok.fresh (Nat.le_succ _))⟩
/-- rows of numbers and texts, each beginning with a number, comparable two by two -/
def lxB (xs : List D) : Bool := xs.all fun a => (match a with
  | .tup (.int _ :: _) => true
  | _ => false) && (FLs.pl (py a) && xs.all fun b => FLs.lx (py a) (py b))
def oSortL (d : D) (st : Store) : Res D := onLs d st fun xs => if (shL xs 40 && lxB xs) = true then .ok (.lst (sortD xs)) st else .no
theorem im_sortL {X : Cx} {Wx : WX} {σ : L2.St} {H : Hp} {Q : VK} {vs : List V} (h : fL (gc X) Wx (rD (gc X)) (on1 oSortL) vs σ H Q) : rSortL X.K vs H Q := by
  obtain ⟨x, rfl, W, d, rfl, s, hx, p⟩ := fL1 h
  dsimp only [oSortL, onLs] at p
  cases q : lsOf d W.st with
  | none => rw [q] at p; exact p.elim
  | some xs =>
    rw [q] at p
    dsimp only at p
    split at p
    · rename_i hk
      obtain ⟨h1, h2⟩ := ba2 hk
      obtain ⟨a, us, rfl, hH, l⟩ := lsOf_inv s hx q
      refine ⟨a, us, xs.map py, rfl, SqL.of hH, by rw [l.length, List.length_map], fun i v e a b => (den_dp l h1 i v e a b).1, fun e he => ?_, fun e he => ?_, fun p' hp => ?_⟩
      · obtain ⟨b, hb, rfl⟩ := List.mem_map.mp he
        have hb' := List.all_eq_true.mp h2 b hb
        obtain ⟨c1, c2⟩ := ba2 hb'
        obtain ⟨c2, c3⟩ := ba2 c2
        refine ⟨⟨c2, ?_⟩, fun e' he' => ?_⟩
        · cases b with
          | tup ys =>
            cases ys with
            | nil => cases c1
            | cons y ys =>
              cases y with
              | int n => exact ⟨n, pyL ys, by simp [py, pyL]⟩
              | _ => cases c1
          | _ => cases c1
        · obtain ⟨b', hb', rfl⟩ := List.mem_map.mp he'
          exact List.all_eq_true.mp c3 b' hb'
      · obtain ⟨i, hi⟩ := List.getElem?_of_mem he
        obtain ⟨v, hv⟩ : ∃ v, us[i]? = some v := by
          have hlt : i < us.length := by
            have := (List.getElem?_eq_some_iff.mp hi).1
            rw [List.length_map] at this
            rw [l.length]; exact this
          exact ⟨_, List.getElem?_eq_getElem hlt⟩
        exact (den_dp l h1 i v e hv hi).2
      · obtain ⟨e2, s2, n2⟩ := s.lay (o := .lst (((us.zip (xs.map py)).mergeSort (PySem.W.dataLe false Prod.snd)).map Prod.fst)) hp
        exact p _ e2 s2 rfl _ (.lstH upd_same n2 ((zip_sort_den l).mono e2))
    · exact p.elim
/-! xs != [] -/
def rNeE (K : PySem.W.Frag) : R2 := fun x y H Q => ∃ (a b : Addr) (vs : List V), x = .ref a ∧ y = .ref b ∧ SqL K H a vs ∧ SqL K H b [] ∧ Q (.bl (!vs.isEmpty)) H
theorem op_neE {X : Cx} (hu : X.A.units + 64 < cLine) : OpR X (compareOp .NotEq) (rNeE X.K) := by
  intro pins s σ H x y v u Q I rx ry h
  obtain ⟨a, b, vs, rfl, rfl, ha, hb, q⟩ := h
  obtain rfl : v = Value.ref a := rx
  obtain rfl : u = Value.ref b := ry
  obtain ⟨its, rv, hli, hz⟩ := I.list ha
  obtain ⟨its2, rv2, hli2, hz2⟩ := I.list hb
  cases rv2
  have l1 := hli.isList
  have l2 := hli2.isList
  cases vs with
  | nil =>
    cases rv
    have := SeqAt.RcNeAt.lists (A := X.A) (e := fun _ => true) l1 l2 rfl (by omega) (fun j h1 h2 => absurd h1 (by simp))
    exact this X.prog X.w _ _ ⟨.bl _, H, I, rfl, q⟩
  | cons v vs =>
    cases rv with
    | cons r rs =>
      have := SeqAt.RcNeAt.lists_lengths (A := X.A) l1 l2 (by simp) (by omega)
      exact this X.prog X.w _ _ ⟨.bl _, H, I, rfl, q⟩
def oNeE (x y : D) (st : Store) : Res D := match y with
  | .lst [] => onLs x st fun xs => .ok (.bl (!xs.isEmpty)) st
  | _ => .no
theorem im_neE {X : Cx} {Wx : WX} {σ : L2.St} {H : Hp} {Q : VK} {x y : V} (h : f2 (gc X) Wx (rD (gc X)) oNeE x y σ H Q) : rNeE X.K x y H Q := by
  obtain ⟨W, d, e, rfl, s, h1, h2, p⟩ := h
  cases e with
  | lst ys =>
    cases ys with
    | nil =>
      dsimp only [oNeE, onLs] at p
      cases q : lsOf d W.st with
      | none => rw [q] at p; exact p.elim
      | some xs =>
        rw [q] at p
        obtain ⟨a, us, rfl, hH, l⟩ := lsOf_inv s h1 q
        obtain ⟨b, us2, rfl, hH2, l2⟩ := lsOf_inv s h2 (show lsOf (.lst []) W.st = some [] from rfl)
        cases l2
        refine ⟨a, b, us, rfl, rfl, SqL.of hH, SqL.of hH2, ?_⟩
        have : us.isEmpty = xs.isEmpty := by cases l <;> rfl
        rw [this]
        exact p W (Ext.refl W) s rfl _ (.bl _)
    | cons _ _ => exact p.elim
  | _ => exact p.elim
end FL
end
section
set_option Elab.async false
set_option linter.all false
set_option maxRecDepth 100000
/-! FMW: cells frozen where nothing runs; dicts walked; keys in dicts. -/
namespace FL
open PySem PySem.Spec PyProof.Rows L2
/-! ### a name's cell is frozen -/
def mFz (i : Nat) : Ms := fun e st => match e[i]? with
  | some (some d) => (fz d st).fl e fun d' st' => .nx (e.set i (some d')) st'
  | _ => .no
theorem EnvR.setSame {g : Gc} {W : Wd} {σ : L2.St} {e : En} {i : Nat} {v : V} {d : D} (r : EnvR g W σ e) (hv : σ[i]? = some (some v)) (h : Den g W v d) : EnvR g W σ (e.set i (some d)) := by
  have q := r.set i h
  have hi : i < σ.length := (List.getElem?_eq_some_iff.mp hv).1
  have e1 : σ.set i (some v) = σ := by
    apply List.ext_getElem?
    intro j
    by_cases hj : i = j
    · subst hj; rw [List.getElem?_set_self hi, hv]
    · rw [List.getElem?_set_ne hj]
  rw [e1] at q
  exact q
section
variable {X : Cx} {Wx : WX} {sts : List Stmt} {ms : Ms}
theorem ss_fz (i : Nat) (h : PSs X sts (fS (gc X) Wx ms)) : PSs X sts (fS (gc X) Wx (mSeq (mFz i) ms)) :=
  PSs.imp h fun D σ H ⟨W, env, e, s, r, p⟩ => by
    dsimp only [mSeq, mFz] at p
    cases q : env[i]? with
    | none => rw [q] at p; exact p.elim
    | some o =>
      cases o with
      | none => rw [q] at p; exact p.elim
      | some d =>
        rw [q] at p
        obtain ⟨v, hv, hd⟩ := r.at_ i d q
        dsimp only at p
        cases q2 : fz d W.st with
        | no => rw [q2] at p; exact p.elim
        | exc x st => cases d <;> (try (simp [fz] at q2; done)); (simp only [fz] at q2; split at q2 <;> cases q2)
        | ok d' st' =>
          rw [q2] at p
          obtain ⟨W', e', s', hs, hH, hd'⟩ := fz_ok s hd q2
          refine ⟨W', env.set i (some d'), hH.trans e, s', (r.mono e').setSame hv hd', ?_⟩
          rw [hs]
          exact PostS.ext p e'
end
/-! ### a dict's entry is frozen -/
def dRep : List (D × D) → D → D → List (D × D)
  | [], _, _ => []
  | p :: r, k, v => if keyEq p.1 k = true then (p.1, v) :: r else p :: dRep r k v
theorem DKV.rep {g : Gc} {W : Wd} {k : Key} {vv : V} {d : D} (hd : Den g W vv d) : ∀ {kv : List (Key × V)} {kvs : List (D × D)}, DKV g W kv kvs → valV kv k = some vv → DKV g W kv (dRep kvs (kD k) d)
  | [], [], h, e => by simp [valV] at e
  | [], q :: kvs, h, _ => by have := h.len; simp at this
  | p :: kv, [], h, _ => by have := h.len; simp at this
  | p :: kv, q :: kvs, h, e => by
    obtain ⟨h1, h2, h3⟩ := h.cons_inv
    unfold dRep
    by_cases hk : p.1 = k
    · rw [valV_pos hk] at e
      cases e
      rw [if_pos (by rw [h1, keyEq_kD]; simp [hk])]
      exact DKV.cons (q := (q.1, d)) h1 hd h3
    · rw [valV_neg hk] at e
      rw [if_neg (by rw [h1, keyEq_kD]; simp [hk])]
      exact DKV.cons h1 h2 (DKV.rep hd h3 e)
def fzE (k : D) (d : D) (st : Store) : Res D := match d with
  | .ref n => match st[n]? with
    | some (.dic kvs) => if isKey k = true then (match dGet kvs k with
      | some v => (match fz v st with
        | .ok v' st' => (match st'[n]? with
          | some (.dic _) => .ok .non (st'.set n (.dic (dRep kvs k v')))
          | _ => .no)
        | _ => .no)
      | none => .no) else .no
    | _ => .no
  | _ => .no
def mFzE (i : Nat) (k : D) : Ms := fun e st => match e[i]? with
  | some (some d) => (fzE k d st).fl e fun _ st' => .nx e st'
  | _ => .no
theorem upd_id {H : Hp} {a : Addr} {o : HO} (h : H a = some o) : upd H a o = H := by
  funext b
  by_cases hb : b = a
  · subst hb; rw [upd_same, h]
  · rw [upd_ne hb]
theorem fz_st {d d' : D} {st st' : Store} (e : fz d st = .ok d' st') (n : Nat) (h : ∀ m, d = .ref m → m ≠ n) : st'[n]? = st[n]? := by
  unfold fz at e
  split at e
  · rename_i m
    have hm := h m rfl
    split at e <;> first | (cases e; exact List.getElem?_set_ne hm) | cases e
  · cases e; rfl
theorem fzE_ok {X : Cx} {W : Wd} {v : V} {d : D} {k r : D} {st' : Store} (s : SR (gc X) W) (h : Den (gc X) W v d) (e : fzE k d W.st = .ok r st') : ∃ W', Ext W W' ∧ SR (gc X) W' ∧ W'.st = st' ∧ W'.H = W.H := by
  cases d with
  | ref n =>
    cases h with
    | @ref a _ ha =>
    dsimp only [fzE] at e
    cases q : W.st[n]? with
    | none => rw [q] at e; cases e
    | some c =>
      rw [q] at e
      cases c with
      | dic kvs =>
        dsimp only at e
        split at e
        · rename_i hk
          cases q1 : dGet kvs k with
          | none => rw [q1] at e; cases e
          | some dv =>
            rw [q1] at e
            dsimp only at e
            cases q2 : fz dv W.st with
            | no => rw [q2] at e; cases e
            | exc x y => rw [q2] at e; cases e
            | ok v' st1 =>
              rw [q2] at e
              dsimp only at e
              obtain ⟨kv, hH, h2, h3⟩ := s.cell n a _ ha q
              have rr : DKV (gc X) W kv kvs := ⟨h2, h3⟩
              obtain ⟨key, rfl⟩ : ∃ key : Key, k = kD key := by
                cases k with
                | int i => exact ⟨.inl i, rfl⟩
                | str x => exact ⟨.inr (toS x), by simp [kD, toS]⟩
                | _ => cases hk
              obtain ⟨vv, hvv, hden⟩ := (rr.get (k := key)).1 _ q1
              obtain ⟨W1, e1, s1, hs1, hH1, hd1⟩ := fz_ok s hden q2
              cases q3 : st1[n]? with
              | none => rw [q3] at e; cases e
              | some c1 =>
                rw [q3] at e
                cases c1 with
                | dic kvs1 =>
                  dsimp only at e
                  cases e
                  have q3' : W1.st[n]? = some (.dic kvs1) := by rw [hs1]; exact q3
                  have r1 : DKV (gc X) W1 kv kvs := rr.mono e1.toExtW
                  obtain ⟨e2, s2⟩ := s1.cellSet (o := .dK kv) (c := .dic (dRep kvs (kD key) v')) (e1.cs n a ha) q3' rfl rfl fun W' e' h => by
                    have r2 := DKV.rep (hd1.mono e') (r1.mono e'.toExtW) hvv
                    exact ⟨kv, h, r2.1, r2.2⟩
                  refine ⟨_, e1.trans e2, s2, by rw [hs1], ?_⟩
                  show upd W1.H a (.dK kv) = W.H
                  rw [hH1]
                  exact upd_id hH
                | _ => cases e
        · cases e
      | _ => cases e
  | _ => cases e
section
variable {X : Cx} {Wx : WX} {sts : List Stmt} {ms : Ms}
theorem ss_fzE (i : Nat) (k : D) (h : PSs X sts (fS (gc X) Wx ms)) : PSs X sts (fS (gc X) Wx (mSeq (mFzE i k) ms)) :=
  PSs.imp h fun D σ H ⟨W, env, e, s, r, p⟩ => by
    dsimp only [mSeq, mFzE] at p
    cases q : env[i]? with
    | none => rw [q] at p; exact p.elim
    | some o =>
      cases o with
      | none => rw [q] at p; exact p.elim
      | some d =>
        rw [q] at p
        obtain ⟨v, hv, hd⟩ := r.at_ i d q
        dsimp only at p
        cases q2 : fzE k d W.st with
        | no => rw [q2] at p; exact p.elim
        | exc x st => 
          exfalso
          unfold fzE at q2
          repeat' (first | contradiction | split at q2)
        | ok d' st' =>
          rw [q2] at p
          obtain ⟨W', e', s', hs, hH⟩ := fzE_ok s hd q2
          refine ⟨W', env, hH.trans e, s', r.mono e', ?_⟩
          rw [hs]
          exact PostS.ext p e'
end
/-! ### a dict's keys walked -/
theorem ps_lockP {X : Cx} {st : Stmt} {t : TS} (h : PS X st t) : PS X st (fun D σ H => ∃ d u, H d = some u ∧ Mut (some u) ∧ ∀ od, t D σ (upd H d (.frz od u))) := by
  refine ⟨fun pins s σ H D I hw => ?_⟩
  obtain ⟨d, u, hd, mu, hw⟩ := hw
  obtain ⟨od, I1⟩ := I.lock hd mu
  exact h.run pins s σ _ _ I1 (hw od)
/-- the cell n, a dict, is locked for good -/
def Wd.lockD (W : Wd) (n : Nat) (a : Addr) (od : Obj) (kv : List (Key × V)) : Wd := { W with H := upd W.H a (.frz od (.dK kv)), st := W.st.set n .dead }
theorem SR.lockD {g : Gc} {W : Wd} (s : SR g W) {n : Nat} {a : Addr} {kvs : List (D × D)} {kv : List (Key × V)} (ha : W.cs[n]? = some a) (q : W.st[n]? = some (.dic kvs)) (od : Obj) :
    Ext W (W.lockD n a od kv) ∧ SR g (W.lockD n a od kv) ∧ ¬ Mu (W.lockD n a od kv) a := by
  have ma : Mu W a := .inr ⟨n, _, ha, q, rfl⟩
  have har : a ∉ W.rs := fun h => (s.rx a h).2 (List.mem_of_getElem? ha)
  have nm : ∀ b, Mu (W.lockD n a od kv) b → Mu (W.kill n) b := fun b m => m
  have e : Ext W (W.lockD n a od kv) := by
    refine ⟨⟨fun b u h hn => ?_, fun _ _ h => h⟩, rfl, fun b hb => upd_ne fun z => har (z ▸ hb)⟩
    have hb : b ≠ a := fun z => hn (z ▸ ma)
    exact ⟨by show upd W.H a _ b = _; rw [upd_ne hb]; exact h, fun m => hn (Mu.of_kill (nm b m))⟩
  refine ⟨e, ⟨by show W.cs.length = (W.st.set n .dead).length; rw [List.length_set]; exact s.len, s.nd, fun b hb => ?_, fun b hb => ⟨?_, (s.rx b hb).2⟩, fun m b c h1 h2 => ?_⟩, fun m => not_mu_kill s ha (nm a m)⟩
  · show ∃ u, upd W.H a _ b = some u
    by_cases hba : b = a
    · subst hba; exact ⟨_, upd_same⟩
    · rw [upd_ne hba]; exact s.ex b hb
  · show ∃ u, upd W.H a _ b = some u ∧ _
    rw [upd_ne (show b ≠ a from fun z => har (z ▸ hb))]; exact (s.rx b hb).1
  · have h2' : (W.st.set n .dead)[m]? = some c := h2
    by_cases hm : n = m
    · subst hm
      rw [List.getElem?_set_self (List.getElem?_eq_some_iff.mp q).1] at h2'
      cases h2'
      exact trivial
    · rw [List.getElem?_set_ne hm] at h2'
      refine (s.cell m b c h1 h2').mono e.toExtW fun _ => upd_ne fun z => hm ?_
      exact nodup_inj s.nd ha (z ▸ h1)
/-- the loop from its walk -/
theorem for_run {g : Gc} {Wx : WX} {Z : Ends} {k : Mg} {b : Ms} {ns : List Nat} {xs : List D} {J : It} {W1 : Wd} {env : En} {σ : L2.St} (ok : ItOk g J W1 xs) (s1 : SR g W1) (r : EnvR g W1 σ env) (p : PostS g W1 Wx (foL k b xs env W1.st) Z) :
    ∃ W : Nat → Nat → L2.St → Hp → Prop, (∃ m, W 0 m σ W1.H) ∧ ∀ i m σ H, W i m σ H →
      (J.stop i H ∧ Z.nx σ H) ∨ (J.go i H ∧ ∃ N : L2.St → Hp → Prop, (∀ σ' H', N σ' H' → ∃ m', m' < m ∧ W (i + 1) m' σ' H') ∧ ∀ x H', J.yld i H x H' → fTg g Wx ns k x σ H' fun σ2 H2 => fS g Wx b { Z with nx := N, ct := N, bk := Z.nx } σ2 H2) := by
  refine ⟨fun i m σ H => m = xs.length - i ∧ i ≤ xs.length ∧ ∃ (W2 : Wd) (env : En), W2.H = H ∧ Ext W1 W2 ∧ SR g W2 ∧ EnvR g W2 σ env ∧ PostS g W2 Wx (foL k b (xs.drop i) env W2.st) Z,
    ⟨xs.length, by simp, Nat.zero_le _, W1, env, rfl, Ext.refl _, s1, r, p⟩, ?_⟩
  rintro i m σ H ⟨rfl, hi, W2, env2, rfl, e2, s2, r2, p2⟩
  by_cases hlt : i < xs.length
  · obtain ⟨d, hd⟩ : ∃ d, xs[i]? = some d := ⟨xs[i], by simp [hlt]⟩
    obtain ⟨go, yld⟩ := ok.go W2 i d e2.toExtW s2 hd
    have hdrop : xs.drop i = d :: xs.drop (i + 1) := by
      rw [List.drop_eq_getElem_cons hlt]
      congr 1
      rw [List.getElem?_eq_getElem hlt] at hd
      exact Option.some.inj hd
    rw [hdrop] at p2
    refine .inr ⟨go, fun σ' H' => i + 1 ≤ xs.length ∧ ∃ (W2 : Wd) (env : En), W2.H = H' ∧ Ext W1 W2 ∧ SR g W2 ∧ EnvR g W2 σ' env ∧ PostS g W2 Wx (foL k b (xs.drop (i + 1)) env W2.st) Z, fun σ' H' ⟨h1, h2⟩ => ⟨xs.length - (i + 1), by omega, rfl, h1, h2⟩, fun x H' y => ?_⟩
    obtain ⟨W3, rfl, e3, s3, hs3, hv⟩ := yld x H' y
    refine ⟨W3, env2, d, rfl, s3, r2.mono e3, hv, ?_⟩
    rw [hs3]
    have p3 := PostS.ext p2 e3
    dsimp only [foL] at p3
    cases q3 : k d env2 W2.st with
    | exc x e st => rw [q3] at p3; exact p3
    | nx e4 st4 =>
      rw [q3] at p3
      refine fun W4 σ4 e4' s4 hs4 r4 _ => ⟨W4, e4, rfl, s4, r4, ?_⟩
      dsimp only [Fl.only] at p3
      have p4 := PostS.ext p3 e4'
      rw [hs4]
      cases q5 : b e4 st4 with
      | nx e5 st5 => rw [q5] at p4; exact fun W5 σ5 e5' s5 hs5 r5 => ⟨hlt, W5, e5, rfl, (((e2.trans e3).trans e4').trans e5'), s5, r5, by rw [hs5]; exact PostS.ext p4 e5'⟩
      | ct e5 st5 => rw [q5] at p4; exact fun W5 σ5 e5' s5 hs5 r5 => ⟨hlt, W5, e5, rfl, (((e2.trans e3).trans e4').trans e5'), s5, r5, by rw [hs5]; exact PostS.ext p4 e5'⟩
      | bk e5 st5 => rw [q5] at p4; exact p4
      | rt e5 st5 => rw [q5] at p4; exact p4
      | exc x e5 st5 => rw [q5] at p4; exact p4
      | no => rw [q5] at p4; exact p4
    | _ => rw [q3] at p3; exact p3.elim
  · have ei : i = xs.length := by omega
    subst ei
    refine .inl ⟨ok.stop W2 _ e2.toExtW s2 rfl, ?_⟩
    rw [List.drop_length] at p2
    exact p2 W2 σ (Ext.refl _) s2 rfl r2
def okK : D → Bool
  | .str s => okS s
  | .int _ => true
  | _ => false
theorem den_key {g : Gc} {W : Wd} {k : Key} (h : okK (kD k) = true) : Den g W (kV k) (kD k) := by
  cases k with
  | inl i => exact .int i
  | inr x => 
    have := Den.str (g := g) (W := W) x.cps.toList h
    rw [toS_of] at this
    exact this
theorem it_keys {g : Gc} {W : Wd} {a : Addr} {od : Obj} {kv : List (Key × V)} {ds : List D} (h : W.H a = some (.frz od (.dK kv))) (n : ¬ Mu W a) (hk : ds = kv.map (fun p => kD p.1)) (ho : ds.all okK = true) : ItOk g (Itk a od kv) W ds := by
  refine ⟨fun W' i d e sr hd => ?_, fun W' i e sr hi => ?_⟩
  · have hH := (e.fz _ _ h n).1
    have hl : i < kv.length := by have := (List.getElem?_eq_some_iff.mp hd).1; rw [hk] at this; simpa using this
    refine ⟨⟨hH, hl⟩, fun x H' ⟨e1, k, v, hkv, hx⟩ => ⟨W', e1.symm, Ext.refl _, sr, rfl, ?_⟩⟩
    subst hx
    have : d = kD k := by
      rw [hk, List.getElem?_map, hkv] at hd
      exact (Option.some.inj hd).symm
    subst this
    exact den_key (List.all_eq_true.mp ho _ (List.mem_of_getElem? hd))
  · exact ⟨(e.fz _ _ h n).1, by rw [hk, List.length_map] at hi; omega⟩
def mForDk (i : Nat) (k : Mg) (b : Ms) : Ms := fun e st => match e[i]? with
  | some (some (.ref n)) => match st[n]? with
    | some (.dic kvs) => if (kvs.map (·.1)).all okK = true then foL k b (kvs.map (·.1)) (e.set i (some (.dic kvs))) (st.set n .dead) else .no
    | _ => .no
  | _ => .no
section
variable {X : Cx} {Wx : WX} {pos p : Pos} {tg : Expr} {body : List Stmt} {k : Mg} {b : Ms} {ns : List Nat}
theorem s_forDk (i : Nat) {x : Str} (hp : PassesOwn (model X.prog X.w) X.A X.env X.xe) (hc : X.calm = true) (hg : PG X tg (fTg (gc X) Wx ns k)) (hb : PSs X body (fS (gc X) Wx b)) (hN : X.N[i]? = some x := by rfl)
    (hv : Vis X.env.scope x := by first | exact Or.inl rfl | exact Or.inr (Or.inl rfl) | exact Or.inr (Or.inr rfl)) (hd : (x == ("__debug__" : Str)) = false := by decide)
    (hcd : (x == ("__classdict__" : Str)) = false := by decide) (hs : ∀ x', foldedSetIterable (.Name x p) X.env x' = pure x' := by intro _; rfl) : PS X (.For tg (.Name x p) body [] pos) (fS (gc X) Wx (mForDk i k b)) :=
  PS.imp (ps_lockP (ps_for hp hc (pi_keys (pe_var hN hv hd hcd)) hg hb hs)) fun Z σ H ⟨W, env, e, s, r, pp⟩ => by
    subst e
    dsimp only [mForDk] at pp
    cases q : env[i]? with
    | none => rw [q] at pp; exact pp.elim
    | some o =>
      cases o with
      | none => rw [q] at pp; exact pp.elim
      | some d =>
        rw [q] at pp
        cases d with
        | ref n =>
          dsimp only at pp
          cases q2 : W.st[n]? with
          | none => rw [q2] at pp; exact pp.elim
          | some c =>
            rw [q2] at pp
            cases c with
            | dic kvs =>
              dsimp only at pp
              split at pp
              rotate_left
              · exact pp.elim
              rename_i hok
              obtain ⟨v, hv', hd'⟩ := r.at_ i _ q
              cases hd' with
              | @ref a _ ha =>
              obtain ⟨kv, hH, h2, h3⟩ := s.cell n a _ ha q2
              refine ⟨a, .dK kv, hH, trivial, fun od => ?_⟩
              obtain ⟨e1, s1, n1⟩ := s.lockD (kv := kv) ha q2 od
              have hH1 : (W.lockD n a od kv).H a = some (.frz od (.dK kv)) := upd_same
              refine ⟨.ref a, hv', a, od, rfl, .inl ⟨kv, hH1, ?_⟩⟩
              exact for_run (it_keys hH1 n1 h2 hok) s1 ((r.mono e1).setSame hv' (.dicF hH1 n1 h2 (h3.mono e1))) (PostS.ext pp e1)
            | _ => exact pp.elim
        | _ => exact pp.elim
end
end FL
end
section
set_option Elab.async false
set_option linter.all false
set_option maxRecDepth 100000
/-! FMX: dicts whose keys are nested tuples. -/
namespace FL
open PySem PySem.Spec PyProof.Rows L2
section
variable {X : Cx} {pins : List (Addr × Obj)} {σ : L2.St} {s : Shared} {W : Wd}
mutual
theorem nest_is (I : Inv X pins σ W.H s) : ∀ {v : V} {d : D} {k : NestedKey} {u : Value}, Den (gc X) W v d → nk d = some k → RelV v u → NestedIs s.heap k u
  | _, _, k, u, .non, e, r => by
    obtain rfl : u = Value.none := r
    simp only [nk, Option.some.injEq] at e; subst e; exact .none
  | _, _, k, u, .int i, e, r => by
    obtain ⟨t, rfl⟩ := (show ∃ t, u = Value.int i t from r)
    simp only [nk, Option.some.injEq] at e; subst e; exact .int i t
  | _, _, k, u, .str x h, e, r => by
    obtain ⟨t, rfl⟩ := (show ∃ t, u = Value.str (toS x) t from r)
    simp only [nk, Option.some.injEq] at e; subst e; exact .text _ t
  | _, _, k, u, @Den.tupH _ _ a vs ds h n l, e, r => by
    obtain rfl : u = Value.ref a := r
    simp only [nk, Option.map_eq_some_iff] at e
    obtain ⟨ks, e, rfl⟩ := e
    obtain ⟨_, its, rr, o, h1, h2, m, h3⟩ := (show ObjOk X.prog X.w W.H s.heap a (.tup vs) from I.hok a _ h)
    exact .tup h1 h2 h3 (by simpa using nest_all I l e rr)
  | _, _, k, u, @Den.tupK _ _ a vs ds h l, e, r => by
    obtain rfl : u = Value.ref a := r
    simp only [nk, Option.map_eq_some_iff] at e
    obtain ⟨ks, e, rfl⟩ := e
    obtain ⟨o, its, m, h1, h2, h3, _, rr⟩ := h
    exact .tup (I.kIn a o h1) h2 h3 (nest_all I l e rr)
  | _, _, _, _, .bl _, e, _ => by simp [nk] at e
  | _, _, _, _, .lstH _ _ _, e, _ => by simp [nk] at e
  | _, _, _, _, .scr _ _, e, _ => by simp [nk] at e
  | _, _, _, _, .scrK _, e, _ => by simp [nk] at e
  | _, _, _, _, .dic _ _ _ _, e, _ => by simp [nk] at e
  | _, _, _, _, .dicF _ _ _ _, e, _ => by simp [nk] at e
  | _, _, _, _, .ndic _ _ _ _ _, e, _ => by simp [nk] at e
  | _, _, _, _, .obj _ _ _ _, e, _ => by simp [nk] at e
  | _, _, _, _, .ref _, e, _ => by simp [nk] at e
  | _, _, _, _, .exn _ _ _ _ _ _ _, e, _ => by simp [nk] at e
theorem nest_all (I : Inv X pins σ W.H s) : ∀ {vs : List V} {ds : List D} {ks : List NestedKey} {us : List Value}, DenL (gc X) W vs ds → nkL ds = some ks → Vals vs us → NestedAll s.heap ks us
  | _, _, ks, us, .nil, e, r => by
    cases r
    simp only [nkL, Option.some.injEq] at e; subst e; exact .nil
  | _, _, ks, us, .cons h t, e, r => by
    cases r with
    | cons r1 r2 =>
      rename_i d ds u us'
      simp only [nkL] at e
      cases q1 : nk _ with
      | none => rw [q1] at e; cases e
      | some k =>
        cases q2 : nkL _ with
        | none => rw [q1, q2] at e; cases e
        | some kk =>
          rw [q1, q2] at e
          cases e
          exact .cons (nest_is I h q1 r1) (nest_all I t q2 r2)
end
end
/-! ### as data -/
def nkEq (a b : D) : Bool := decide (nk a = nk b)
def isNK (d : D) : Bool := match d with
  | .tup _ => (match nk d with
    | some k => decide (k.depth ≤ 8)
    | none => false)
  | _ => false
def ndGet (kvs : List (D × D)) (k : D) : Option D := (kvs.find? fun p => nkEq p.1 k).map (·.2)
def ndPut (kvs : List (D × D)) (k v : D) : List (D × D) := if (kvs.any fun p => nkEq p.1 k) = true then kvs.map (fun p => if nkEq p.1 k = true then (p.1, v) else p) else kvs ++ [(k, v)]
abbrev Ent3 := NestedKey × Addr × V
def valN (xs : List Ent3) (k : NestedKey) : Option V := (xs.find? fun x => decide (x.1 = k)).map (·.2.2)
def putN (xs : List Ent3) (k : NestedKey) (b : Addr) (v : V) : List Ent3 := if (xs.any fun x => decide (x.1 = k)) = true then xs.map (fun x => if x.1 = k then (x.1, x.2.1, v) else x) else xs ++ [(k, b, v)]
structure DNV (g : Gc) (W : Wd) (xs : List Ent3) (kvs : List (D × D)) : Prop where
  k : kvs.map (fun p => nk p.1) = xs.map (fun x => some x.1)
  d : DenL g W (xs.map fun x => V.ref x.2.1) (kvs.map (·.1))
  v : DenL g W (xs.map (·.2.2)) (kvs.map (·.2))
section
variable {g : Gc} {W W' : Wd}
theorem DNV.nil : DNV g W [] [] := ⟨rfl, .nil, .nil⟩
theorem DNV.inv {x : Ent3} {xs : List Ent3} {p : D × D} {kvs : List (D × D)} (h : DNV g W (x :: xs) (p :: kvs)) : nk p.1 = some x.1 ∧ Den g W (.ref x.2.1) p.1 ∧ Den g W x.2.2 p.2 ∧ DNV g W xs kvs := by
  obtain ⟨h1, h2, h3⟩ := h
  simp only [List.map_cons, List.cons.injEq] at h1
  simp only [List.map_cons] at h2 h3
  cases h2 with
  | cons a b => cases h3 with
    | cons c d => exact ⟨h1.1, a, c, h1.2, b, d⟩
theorem DNV.cons {x : Ent3} {xs : List Ent3} {p : D × D} {kvs : List (D × D)} (h1 : nk p.1 = some x.1) (h2 : Den g W (.ref x.2.1) p.1) (h3 : Den g W x.2.2 p.2) (h : DNV g W xs kvs) : DNV g W (x :: xs) (p :: kvs) :=
  ⟨by simp [h1, h.k], .cons h2 h.d, .cons h3 h.v⟩
theorem DNV.len {xs : List Ent3} {kvs : List (D × D)} (h : DNV g W xs kvs) : xs.length = kvs.length := by simpa using (congrArg List.length h.k).symm
theorem DNV.mono {xs : List Ent3} {kvs : List (D × D)} (e : ExtW W W') (h : DNV g W xs kvs) : DNV g W' xs kvs := ⟨h.k, h.d.monoW e, h.v.monoW e⟩
theorem nkEq_of {a b : D} {i j : NestedKey} (ha : nk a = some i) (hb : nk b = some j) : nkEq a b = decide (i = j) := by
  unfold nkEq; rw [ha, hb]; simp
theorem DNV.get {kd : D} {k : NestedKey} (hk : nk kd = some k) : ∀ {xs : List Ent3} {kvs : List (D × D)}, DNV g W xs kvs → (∀ d, ndGet kvs kd = some d → ∃ v, valN xs k = some v ∧ Den g W v d) ∧ (ndGet kvs kd = none → valN xs k = none)
  | [], [], _ => ⟨fun d e => by simp [ndGet] at e, fun _ => rfl⟩
  | [], p :: kvs, h => by have := h.len; simp at this
  | x :: xs, [], h => by have := h.len; simp at this
  | x :: xs, p :: kvs, h => by
    obtain ⟨h1, h2, h3, h4⟩ := h.inv
    have e := nkEq_of h1 hk
    by_cases hx : x.1 = k
    · have e1 : ndGet (p :: kvs) kd = some p.2 := by simp [ndGet, List.find?_cons, e, hx]
      have e2 : valN (x :: xs) k = some x.2.2 := by simp [valN, List.find?_cons, hx]
      rw [e1, e2]
      exact ⟨fun d q => by cases q; exact ⟨_, rfl, h3⟩, fun q => nomatch q⟩
    · have e1 : ndGet (p :: kvs) kd = ndGet kvs kd := by simp [ndGet, List.find?_cons, e, hx]
      have e2 : valN (x :: xs) k = valN xs k := by simp [valN, List.find?_cons, hx]
      rw [e1, e2]
      exact DNV.get hk h4
theorem DNV.any {kd : D} {k : NestedKey} (hk : nk kd = some k) : ∀ {xs : List Ent3} {kvs : List (D × D)}, DNV g W xs kvs → (kvs.any fun p => nkEq p.1 kd) = xs.any fun x => decide (x.1 = k)
  | [], [], _ => rfl
  | [], p :: kvs, h => by have := h.len; simp at this
  | x :: xs, [], h => by have := h.len; simp at this
  | x :: xs, p :: kvs, h => by
    obtain ⟨h1, h2, h3, h4⟩ := h.inv
    rw [List.any_cons, List.any_cons, nkEq_of h1 hk, DNV.any hk h4]
theorem DNV.app {xs : List Ent3} {kvs : List (D × D)} (h : DNV g W xs kvs) {kd d : D} {k : NestedKey} {b : Addr} {v : V} (hk : nk kd = some k) (hb : Den g W (.ref b) kd) (hv : Den g W v d) : DNV g W (xs ++ [(k, b, v)]) (kvs ++ [(kd, d)]) :=
  ⟨by simp [h.k, hk], by simpa using h.d.append (.cons hb .nil), by simpa using h.v.append (.cons hv .nil)⟩
theorem DNV.repl {kd d : D} {k : NestedKey} {v : V} (hk : nk kd = some k) (hv : Den g W v d) : ∀ {xs : List Ent3} {kvs : List (D × D)}, DNV g W xs kvs → DNV g W (xs.map fun x => if x.1 = k then (x.1, x.2.1, v) else x) (kvs.map fun p => if nkEq p.1 kd = true then (p.1, d) else p)
  | [], [], _ => .nil
  | [], p :: kvs, h => by have := h.len; simp at this
  | x :: xs, [], h => by have := h.len; simp at this
  | x :: xs, p :: kvs, h => by
    obtain ⟨h1, h2, h3, h4⟩ := h.inv
    have ih := DNV.repl hk hv h4
    rw [List.map_cons, List.map_cons]
    have e := nkEq_of h1 hk
    by_cases hx : x.1 = k
    · rw [if_pos hx, if_pos (by rw [e]; simp [hx])]
      exact DNV.cons h1 h2 hv ih
    · rw [if_neg hx, if_neg (by rw [e]; simp [hx])]
      exact DNV.cons h1 h2 h3 ih
theorem DNV.put {xs : List Ent3} {kvs : List (D × D)} (h : DNV g W xs kvs) {kd d : D} {k : NestedKey} {b : Addr} {v : V} (hk : nk kd = some k) (hb : Den g W (.ref b) kd) (hv : Den g W v d) : DNV g W (putN xs k b v) (ndPut kvs kd d) := by
  unfold putN ndPut
  rw [h.any hk]
  split
  · exact h.repl hk hv
  · exact h.app hk hb hv
end
/-! ### as they stand -/
abbrev Ent3V := NestedKey × Addr × Value
def P3 (p : Ent3) (q : Ent3V) : Prop := p.1 = q.1 ∧ p.2.1 = q.2.1 ∧ RelV p.2.2 q.2.2
theorem p3_at {k : NestedKey} : ∀ {xs : List Ent3} {ws : List Ent3V}, Paired P3 xs ws → RelO (valN xs k) ((atKey ws k).map (·.2))
  | _, _, .nil => by simp [valN, atKey, RelO]
  | _, _, @Paired.cons _ _ _ x q xs ws r t => by
    by_cases hx : x.1 = k
    · have e1 : valN (x :: xs) k = some x.2.2 := by simp [valN, List.find?_cons, hx]
      have e2 : atKey (q :: ws) k = some q.2 := by simp [atKey, List.find?_cons, ← r.1, hx]
      rw [e1, e2]; exact r.2.2
    · have e1 : valN (x :: xs) k = valN xs k := by simp [valN, List.find?_cons, hx]
      have e2 : atKey (q :: ws) k = atKey ws k := by simp [atKey, List.find?_cons, ← r.1, hx]
      rw [e1, e2]; exact p3_at t
theorem p3_app : ∀ {xs : List Ent3} {ws : List Ent3V} {x : Ent3} {q : Ent3V}, Paired P3 xs ws → P3 x q → Paired P3 (xs ++ [x]) (ws ++ [q])
  | _, _, _, _, .nil, r => .cons r .nil
  | _, _, _, _, .cons a t, r => .cons a (p3_app t r)
theorem p3_repl {k : NestedKey} {v : V} {u : Value} (rv : RelV v u) : ∀ {xs : List Ent3} {ws : List Ent3V}, Paired P3 xs ws → Paired P3 (xs.map fun x => if x.1 = k then (x.1, x.2.1, v) else x) (ws.map (putAt k u))
  | _, _, .nil => .nil
  | _, _, @Paired.cons _ _ _ x q xs ws r t => by
    refine .cons ?_ (p3_repl rv t)
    unfold putAt
    dsimp only
    by_cases hx : x.1 = k
    · rw [if_pos hx, if_pos (r.1 ▸ hx)]; exact ⟨r.1, r.2.1, rv⟩
    · rw [if_neg hx, if_neg (r.1 ▸ hx)]; exact r
theorem valN_any {k : NestedKey} : ∀ xs : List Ent3, (xs.any fun x => decide (x.1 = k)) = (valN xs k).isSome
  | [] => rfl
  | x :: xs => by
    by_cases hx : x.1 = k
    · simp [valN, List.find?_cons, hx]
    · have := valN_any (k := k) xs
      simp only [valN] at this
      simp [valN, List.find?_cons, hx, this]
theorem p3_put {k : NestedKey} {b : Addr} {v : V} {u : Value} {xs : List Ent3} {ws : List Ent3V} (r : Paired P3 xs ws) (rv : RelV v u) : Paired P3 (putN xs k b v) (storedH ws k b u) := by
  have q := (p3_at (k := k) r).isSome_eq
  rw [Option.isSome_map, ← valN_any] at q
  unfold putN storedH
  rw [q]
  split
  · exact p3_repl rv r
  · exact p3_app r ⟨rfl, rfl, rv⟩
/-- the dict at a, with keys that are there -/
structure NdAt (X : Cx) (W : Wd) (a : Addr) (xs : List Ent3) : Prop where
  raw : RawN (gc X) W.H a xs
  ks : ∃ ds, DenL (gc X) W (xs.map fun x => V.ref x.2.1) ds ∧ ds.map nk = xs.map fun x => some x.1
section
variable {X : Cx} {pins : List (Addr × Obj)} {σ : L2.St} {s : Shared} {W : Wd} {a : Addr} {xs : List Ent3}
theorem keys_are (I : Inv X pins σ W.H s) : ∀ {xs : List Ent3} {ws : List Ent3V} {ds : List D}, Paired P3 xs ws → DenL (gc X) W (xs.map fun x => V.ref x.2.1) ds → ds.map nk = xs.map (fun x => some x.1) → (∀ x ∈ ws, x.1.depth ≤ 8) → ∀ x ∈ ws, (nestedKind X.prog X.w).is s.heap x.1 x.2.1
  | _, _, _, .nil, _, _, _ => fun x hx => nomatch hx
  | _, _, ds, @Paired.cons _ _ _ x q xs ws r t, l, e, hd => by
    cases l with
    | @cons v d vs ds h l =>
      simp only [List.map_cons, List.cons.injEq] at e
      intro y hy
      rcases List.mem_cons.mp hy with rfl | hy
      · refine ⟨?_, hd _ List.mem_cons_self⟩
        rw [← r.1, ← r.2.1]
        exact nest_is I h e.1 rfl
      · exact keys_are I t l e.2 (fun z hz => hd z (List.mem_cons_of_mem _ hz)) y hy
theorem NdAt.dict (I : Inv X pins σ W.H s) (h : NdAt X W a xs) : (a == sysModules) = false ∧ xs.length ≤ sizeLine ∧ ∃ ws, Paired P3 xs ws ∧ s.heap.DictOfH (nestedKind X.prog X.w) a ws ∧ ∀ x ∈ ws, x.1.depth ≤ 8 := by
  obtain ⟨⟨h1, h2, o, es, ep, ws, pr, hH, hx, hd, he, hn, hdp⟩, ds, hl, hk⟩ := h
  exact ⟨h1, h2, ws, pr, ⟨o, es, ep, (I.hok a _ hH).1, hx, hd, he, keys_are I pr hl hk hdp, hn⟩, hdp⟩
theorem room9 (hu : X.A.units + 9 < cLine) : (nestedKind X.prog X.w).room X.A.in1 := by show X.A.units + 1 + 8 < cLine; omega
/-- a key at hand -/
structure KeyAt (X : Cx) (W : Wd) (b : Addr) (k : NestedKey) : Prop where
  at_ : ∃ d, Den (gc X) W (.ref b) d ∧ nk d = some k
  dep : k.depth ≤ 8
theorem KeyAt.is (I : Inv X pins σ W.H s) {b : Addr} {k : NestedKey} (h : KeyAt X W b k) : (nestedKind X.prog X.w).is s.heap k b := by
  obtain ⟨⟨d, h1, h2⟩, h3⟩ := h
  exact ⟨nest_is I h1 h2 rfl, h3⟩
/-! ### readings -/
def rGetN (X : Cx) (x y : V) (H : Hp) (R : Option V → Prop) : Prop := ∃ (W : Wd) (a b : Addr) (xs : List Ent3) (k : NestedKey), W.H = H ∧ x = .ref a ∧ y = .ref b ∧ NdAt X W a xs ∧ KeyAt X W b k ∧ R (valN xs k)
def rInN (X : Cx) (neg : Bool) : R2 := fun y x H Q => rGetN X x y H fun o => Q (.bl (neg != o.isSome)) H
theorem op_inN (hu : X.A.units + 9 < cLine) : OpR X (compareOp .In) (rInN X false) := by
  intro pins s σ H x y v u Q I rx ry ⟨W, a, b, xs, k, eH, ey, ex, hn, hk, q⟩
  subst eH ey ex
  obtain rfl : v = Value.ref b := rx
  obtain rfl : u = Value.ref a := ry
  obtain ⟨hd, hz, ws, pr, dd, hdp⟩ := hn.dict I
  refine wpAny_in_heap (room9 hu) (hk.is I) hd dd ⟨.bl (atKey ws k).isSome, _, I.tok _, rfl, ?_⟩
  have e := (p3_at (k := k) pr).isSome_eq
  rw [Option.isSome_map] at e
  rw [← e]
  simpa using q
theorem op_notInN (hu : X.A.units + 9 < cLine) : OpR X (compareOp .NotIn) (rInN X true) := by
  intro pins s σ H x y v u Q I rx ry ⟨W, a, b, xs, k, eH, ey, ex, hn, hk, q⟩
  subst eH ey ex
  obtain rfl : v = Value.ref b := rx
  obtain rfl : u = Value.ref a := ry
  obtain ⟨hd, hz, ws, pr, dd, hdp⟩ := hn.dict I
  refine wpAny_notIn_heap (room9 hu) (hk.is I) hd dd ⟨.bl (!(atKey ws k).isSome), _, I.tok _, rfl, ?_⟩
  have e := (p3_at (k := k) pr).isSome_eq
  rw [Option.isSome_map] at e
  rw [← e]
  simpa using q
def tNGet (X : Cx) (td ty : TE) : TE := fun σ H Q => td σ H fun x H1 => ty σ H1 fun y H2 => rGetN X x y H2 fun o => ∃ v, o = some v ∧ Q v H2
theorem pe_nget {o i : Expr} {pos : Pos} {td ty : TE} (hu : X.A.units + 9 < cLine) (ho : PE X o td) (hi : PE X i ty) (hs : NoSl i) : PE X (.Subscript o i pos) (tNGet X td ty) := by
  refine ⟨fun pins s σ H Q I h => ?_⟩
  refine subD_of PySem.F.slot_dict_getitem.lookup hs (thn (ho.run pins s σ H _ I h) fun u s1 ⟨x, H1, I1, rx, q1⟩ => thn (hi.run pins s1 σ H1 _ I1 q1) fun iv s2 ⟨y, H2, I2, ry, q⟩ => ?_)
  obtain ⟨W, a, b, xs, k, eH, ex, ey, hn, hk, v, ev, q⟩ := q
  subst eH ex ey
  obtain rfl : u = Value.ref a := rx
  obtain rfl : iv = Value.ref b := ry
  obtain ⟨hd, hz, ws, pr, dd, hdp⟩ := hn.dict I2
  have e := p3_at (k := k) pr
  rw [ev] at e
  obtain ⟨w', hw, rw'⟩ := RelO.some_of e
  obtain ⟨p, hp, hp2⟩ := Option.map_eq_some_iff.mp hw
  refine ⟨dd.typeIs, wpAny_getItem_heap (room9 hu) (hk.is I2) dd hp ?_⟩
  rw [hp2]
  exact ⟨v, _, I2.tok _, rw', q⟩
def extO (a : Addr) (o : Obj) : HO := .ext fun h => h.get? a = some o
def rSetN (X : Cx) : TSet := fun o i v H Q => ∃ (W : Wd) (a b : Addr) (xs : List Ent3) (k : NestedKey), W.H = H ∧ o = .ref a ∧ i = .ref b ∧ NdAt X W a xs ∧ KeyAt X W b k ∧ xs.length < sizeLine ∧
  ∀ ob, (∀ H', H' a = some (extO a ob) → RawN (gc X) H' a (putN xs k b v)) → Q (upd H a (extO a ob))
theorem p3_len {xs : List Ent3} {ws : List Ent3V} (p : Paired P3 xs ws) : xs.length = ws.length := Paired.length p
theorem putN_len {k : NestedKey} {b : Addr} {v : V} : (putN xs k b v).length ≤ xs.length + 1 := by
  unfold putN; split <;> simp
theorem storedH_dep {ws : List Ent3V} {k : NestedKey} {b : Addr} {u : Value} (h : ∀ x ∈ ws, x.1.depth ≤ 8) (hk : k.depth ≤ 8) : ∀ x ∈ storedH ws k b u, x.1.depth ≤ 8 := by
  unfold storedH
  split
  · intro x hx
    obtain ⟨y, hy, rfl⟩ := List.mem_map.mp hx
    unfold putAt; split <;> exact h y hy
  · intro x hx
    rcases List.mem_append.mp hx with hx | hx
    · exact h x hx
    · simp at hx; subst hx; exact hk
theorem raw_new {h' : Heap} {ws : List Ent3V} (hd : (a == sysModules) = false) (hl : xs.length ≤ sizeLine) (pr : Paired P3 xs ws) (dd : h'.DictOfH (nestedKind X.prog X.w) a ws) (hdp : ∀ x ∈ ws, x.1.depth ≤ 8) :
    ∃ ob, h'.get? a = some ob ∧ ∀ H', H' a = some (extO a ob) → RawN (gc X) H' a xs := by
  obtain ⟨o', es', ep', ho', hx', hdt', he', hi', hnd'⟩ := dd
  exact ⟨o', ho', fun H' e => ⟨hd, hl, o', es', ep', ws, pr, e, hx', hdt', he', hnd', hdp⟩⟩
theorem ext_ok {P : Program} {w : World} {H : Hp} {h : Heap} {o : Obj} (e : h.get? a = some o) : ObjOk P w H h a (extO a o) := ⟨e, ⟨o, e⟩, fun h1 h2 p k => k _ p⟩
theorem raw_mut {H : Hp} {g : Gc} (h : RawN g H a xs) : Mut (H a) := by
  obtain ⟨_, _, o, es, ep, ws, _, hH, _⟩ := h
  rw [hH]; exact trivial
theorem set_nd (hu : X.A.units + 9 < cLine) : PSet X (rSetN X) := by
  intro pins s σ H o i v ov iv u Q I ro ri rv ⟨W, a, b, xs, k, eH, eo, ei, hn, hk, hl, q⟩
  subst eH eo ei
  obtain rfl : ov = Value.ref a := ro
  obtain rfl : iv = Value.ref b := ri
  obtain ⟨hd, hz, ws, pr, dd, hdp⟩ := hn.dict I
  refine wpAny_setItem_heap (hsz := by rw [← p3_len pr]; exact hz) (room9 hu) (hk.is I) dd fun h' dd' hs => ?_
  obtain ⟨ob, ho, hr⟩ := raw_new (X := X) hd (by have := putN_len (xs := xs) (k := k) (b := b) (v := v); omega) (p3_put (k := k) (b := b) pr rv) dd' (storedH_dep hdp hk.dep)
  exact ⟨_, d_write I (raw_mut hn.raw) hs ⟨ob, ho⟩ (ext_ok ho), q ob hr⟩
end
end FL
end
section
set_option Elab.async false
set_option linter.all false
set_option maxRecDepth 100000
/-! FMY: dicts, as expressions and targets. -/
namespace FL
open PySem PySem.Spec PyProof.Rows L2
def ndOf : D → Store → Option (List (D × D))
  | .nd kvs, _ => some kvs
  | .ref n, st => match st[n]? with
    | some (.nd kvs) => some kvs
    | _ => none
  | _, _ => none
section
variable {X : Cx} {W : Wd}
theorem NdAt.of {a : Addr} {xs : List Ent3} {kvs : List (D × D)} (h : RawN (gc X) W.H a xs) (d : DNV (gc X) W xs kvs) : NdAt X W a xs := ⟨h, _, d.d, by rw [List.map_map]; exact d.k⟩
theorem ndOf_inv {v : V} {d : D} {kvs : List (D × D)} (s : SR (gc X) W) (h : Den (gc X) W v d) (e : ndOf d W.st = some kvs) : ∃ a xs, v = .ref a ∧ NdAt X W a xs ∧ DNV (gc X) W xs kvs := by
  cases d with
  | nd l =>
    cases e
    cases h with
    | @ndic a xs _ h1 _ h2 h3 h4 => exact ⟨a, xs, rfl, .of h1 ⟨h2, h3, h4⟩, h2, h3, h4⟩
  | ref n =>
    cases h with
    | @ref a _ ha =>
    dsimp only [ndOf] at e
    cases q : W.st[n]? with
    | none => rw [q] at e; cases e
    | some c =>
      rw [q] at e
      cases c with
      | nd l =>
        cases e
        obtain ⟨xs, h1, h2, h3, h4⟩ := s.cell n a _ ha q
        exact ⟨a, xs, rfl, .of h1 ⟨h2, h3, h4⟩, h2, h3, h4⟩
      | _ => cases e
  | _ => cases e
theorem nk_inv {v : V} {d : D} (h : Den (gc X) W v d) (k : isNK d = true) : ∃ b j, v = .ref b ∧ nk d = some j ∧ KeyAt X W b j := by
  cases d with
  | tup xs =>
    obtain ⟨b, vs, rfl, _, _⟩ := h.tup_inv
    unfold isNK at k
    dsimp only at k
    cases q : nk (.tup xs) with
    | none => rw [q] at k; cases k
    | some j =>
      rw [q] at k
      exact ⟨b, j, rfl, rfl, ⟨_, h, q⟩, of_decide_eq_true k⟩
  | _ => cases k
end
theorem KeyAt.mono {X : Cx} {W W' : Wd} {b : Addr} {k : NestedKey} (e : Ext W W') (h : KeyAt X W b k) : KeyAt X W' b k := let ⟨⟨d, h1, h2⟩, h3⟩ := h; ⟨⟨d, h1.mono e, h2⟩, h3⟩
/-! ### in -/
def oInK (neg : Bool) (x y : D) (st : Store) : Res D := if isKey x = true then (match dicOf y st with
  | some kvs => .ok (.bl (neg != (dGet kvs x).isSome)) st
  | none => .no) else .no
def oInN (neg : Bool) (x y : D) (st : Store) : Res D := if isNK x = true then (match ndOf y st with
  | some kvs => .ok (.bl (neg != (ndGet kvs x).isSome)) st
  | none => .no) else .no
def rInK (neg : Bool) : R2 := fun x y H Q => ∃ a o, y = .ref a ∧ DGet H a x o ∧ Q (.bl (neg != o.isSome)) H
section
variable {X : Cx} {Wx : WX} {σ : L2.St} {H : Hp} {Q : VK} {x y : V} {neg : Bool}
theorem op_inK (hu : X.A.units + 1 < cLine) : OpR X (compareOp .In) (rInK false) := by
  intro pins s σ H x y v u Q I rx ry ⟨a, o, ey, g, q⟩
  subst ey
  obtain rfl : u = Value.ref a := ry
  exact d_in hu I g rx fun s' I' => ⟨.bl o.isSome, H, I', rfl, by simpa using q⟩
theorem op_notInK (hu : X.A.units + 1 < cLine) : OpR X (compareOp .NotIn) (rInK true) := by
  intro pins s σ H x y v u Q I rx ry ⟨a, o, ey, g, q⟩
  subst ey
  obtain rfl : u = Value.ref a := ry
  exact d_notIn hu I g rx fun s' I' => ⟨.bl (!o.isSome), H, I', rfl, by simpa using q⟩
theorem im_inK (h : f2 (gc X) Wx (rD (gc X)) (oInK neg) x y σ H Q) : rInK neg x y H Q := by
  obtain ⟨W, k, d, e, s, hy, hx, p⟩ := h
  subst e
  dsimp only [oInK] at p
  split at p
  · rename_i hk
    obtain ⟨key, rfl, rfl⟩ := key_inv hy hk
    cases q : dicOf d W.st with
    | none => rw [q] at p; exact p.elim
    | some kvs =>
      rw [q] at p
      obtain ⟨a, kv, rfl, hH, r⟩ := dicOf_inv s hx q
      refine ⟨a, valV kv key, rfl, FL.DGet.kr hH, ?_⟩
      have e : (valV kv key).isSome = (dGet kvs (kD key)).isSome := by
        have g := r.get (k := key)
        cases q2 : dGet kvs (kD key) with
        | none => rw [g.2 q2]; rfl
        | some d' => obtain ⟨v, hv, _⟩ := g.1 _ q2; rw [hv]; rfl
      rw [e]
      exact p W (Ext.refl W) s rfl _ (.bl _)
  · exact p.elim
theorem im_inN (h : f2 (gc X) Wx (rD (gc X)) (oInN neg) x y σ H Q) : rInN X neg x y H Q := by
  obtain ⟨W, k, d, e, s, hy, hx, p⟩ := h
  subst e
  dsimp only [oInN] at p
  split at p
  · rename_i hk
    obtain ⟨b, j, rfl, hj, hka⟩ := nk_inv hy hk
    cases q : ndOf d W.st with
    | none => rw [q] at p; exact p.elim
    | some kvs =>
      rw [q] at p
      obtain ⟨a, xs, rfl, hn, r⟩ := ndOf_inv s hx q
      refine ⟨W, a, b, xs, j, rfl, rfl, rfl, hn, hka, ?_⟩
      have e : (valN xs j).isSome = (ndGet kvs k).isSome := by
        have g := r.get hj
        cases q2 : ndGet kvs k with
        | none => rw [g.2 q2]; rfl
        | some d' => obtain ⟨v, hv, _⟩ := g.1 _ q2; rw [hv]; rfl
      show Q (.bl (neg != (valN xs j).isSome)) W.H
      rw [e]
      exact p W (Ext.refl W) s rfl _ (.bl _)
  · exact p.elim
end
/-! ### d[k] -/
def oIxN (x k : D) (st : Store) : Res D := if isNK k = true then (match ndOf x st with
  | some kvs => match ndGet kvs k with
    | some d => .ok d st
    | none => .no
  | none => .no) else .no
section
variable {X : Cx} {Wx : WX} {o i : Expr} {pos : Pos} {mo mi : Me}
theorem e_ixN (hu : X.A.units + 9 < cLine) (ho : PE X o (fE (gc X) Wx mo)) (hi : PE X i (fE (gc X) Wx mi)) (hs : NoSl i := by exact fun _ _ => rfl) : PE X (.Subscript o i pos) (fE (gc X) Wx (a2 oIxN mo mi)) :=
  PE.imp (pe_nget hu ho hi hs) fun σ H Q h => by
    refine fG_mono (lift2 h) fun x H1 h1 => fG_mono h1 fun y H2 ⟨W, d, k, e, s, hx, hy, p⟩ => ?_
    subst e
    dsimp only [oIxN] at p
    split at p
    · rename_i hk
      obtain ⟨b, j, rfl, hj, hka⟩ := nk_inv hy hk
      cases q : ndOf d W.st with
      | none => rw [q] at p; exact p.elim
      | some kvs =>
        rw [q] at p
        obtain ⟨a, xs, rfl, hn, r⟩ := ndOf_inv s hx q
        dsimp only at p
        cases q2 : ndGet kvs k with
        | none => rw [q2] at p; exact p.elim
        | some d' =>
          rw [q2] at p
          obtain ⟨v, hv, hd⟩ := (r.get hj).1 _ q2
          exact ⟨W, a, b, xs, j, rfl, rfl, rfl, hn, hka, v, hv, p W (Ext.refl W) s rfl v hd⟩
    · exact p.elim
end
/-! ### d[k] = v -/
def stN (o k v : D) (e : En) (st : Store) : Fl := match o with
  | .ref n => match st[n]? with
    | some (.nd kvs) => if isNK k = true ∧ kvs.length < BIG then .nx e (st.set n (.nd (ndPut kvs k v))) else .no
    | _ => .no
  | _ => .no
def gIxN (mo mi : Me) : Mg := fun d e st => (mo e st).fl e fun o st1 => (mi e st1).fl e fun i st2 => stN o i d e st2
section
variable {X : Cx} {Wx : WX} {pos : Pos} {o i : Expr} {mo mi : Me} {ns : List Nat}
theorem g_ixN (hu : X.A.units + 9 < cLine) (ho : PE X o (fE (gc X) Wx mo)) (hi : PE X i (fE (gc X) Wx mi))
    (ha : ∀ v, assign (.Subscript o i pos) X.env v = (do
      let ov ← holding [v] (eval o X.env)
      let iv ← holding [v, ov] (eval i X.env)
      standAt pos
      holding [v, ov, iv] (setItem ov iv v)
      release [v, ov, iv] []) := by intro _; rfl) : PG X (.Subscript o i pos) (fTg (gc X) Wx ns (gIxN mo mi)) := PG.imp (pg_sub ho hi (set_nd hu) ha) fun v σ H Q h => by
  show fE (gc X) Wx mo σ H fun o H1 => fE (gc X) Wx mi σ H1 fun i H2 => rSetN X o i v H2 fun H3 => Q σ H3
  obtain ⟨W, env, d, rfl, s, r, hv, p⟩ := h
  refine ⟨W, env, rfl, s, r, ?_⟩
  dsimp only [gIxN] at p
  cases q1 : mo env W.st with
  | no => rw [q1] at p; exact p
  | exc x st1 => rw [q1] at p; exact fun W1 e1 s1 hs => p W1 σ e1 s1 hs (r.mono e1)
  | ok od st1 =>
    rw [q1] at p
    dsimp only [Res.fl] at p
    refine fun W1 e1 s1 hs1 ov hov => ⟨W1, env, rfl, s1, r.mono e1, ?_⟩
    rw [hs1]
    cases q2 : mi env st1 with
    | no => rw [q2] at p; exact p
    | exc x st2 => rw [q2] at p; exact fun W2 e2 s2 hs => p W2 σ (e1.trans e2) s2 hs ((r.mono e1).mono e2)
    | ok di st2 =>
      rw [q2] at p
      dsimp only at p
      refine fun W2 e2 s2 hs2 iv hiv => ?_
      cases od with
      | ref n =>
        dsimp only [stN] at p
        cases q3 : st2[n]? with
        | none => rw [q3] at p; exact p.elim
        | some c =>
          rw [q3] at p
          cases c with
          | nd kvs =>
            dsimp only at p
            split at p
            · rename_i hk
              obtain ⟨hk1, hk2⟩ := hk
              obtain ⟨b, j, rfl, hj, hka⟩ := nk_inv hiv hk1
              cases hov.mono e2 with
              | @ref a _ ha =>
              rw [← hs2] at q3
              obtain ⟨xs, h1, h2, h3, h4⟩ := s2.cell n a _ ha q3
              have r0 : DNV (gc X) W2 xs kvs := ⟨h2, h3, h4⟩
              refine ⟨W2, a, b, xs, j, rfl, rfl, rfl, .of h1 r0, hka, by rw [r0.len]; exact hk2, fun ob hraw => ?_⟩
              obtain ⟨e3, s3⟩ := s2.cellSet (o := extO a ob) (c := .nd (ndPut kvs di d)) ha q3 rfl rfl fun W' e' h => by
                have r1 := (r0.mono e'.toExtW).put hj (hiv.mono e') (((hv.mono e1).mono e2).mono e')
                exact ⟨_, hraw _ h, r1.k, r1.d, r1.v⟩
              exact p _ σ ((e1.trans e2).trans e3) s3 (by show W2.st.set n _ = _; rw [hs2]) (((r.mono e1).mono e2).mono e3) rfl
            · exact p.elim
          | _ => exact p.elim
      | _ => exact p.elim
end
/-- a kept object is written and becomes a cell -/
def Wd.keepC (W : Wd) (a : Addr) (o : HO) (c : Cell) : Wd := { W with H := upd W.H a o, rs := W.rs.tail, cs := W.cs ++ [a], st := W.st ++ [c] }
theorem mu_keepC {W : Wd} {a : Addr} {o : HO} {c : Cell} (stt : W.st.length = W.cs.length) {b : Addr} (m : Mu (W.keepC a o c) b) : b = a ∨ Mu (W.wrO a o) b := by
  rcases m with m | ⟨n, c', h1, h2, h3⟩
  · exact .inr (.inl m)
  have h1' : (W.cs ++ [a])[n]? = some b := h1
  have h2' : (W.st ++ [c])[n]? = some c' := h2
  by_cases hm : n < W.cs.length
  · rw [List.getElem?_append_left hm] at h1'
    rw [List.getElem?_append_left (by rw [stt]; exact hm)] at h2'
    exact .inr (.inr ⟨n, c', h1', h2', h3⟩)
  · rw [List.getElem?_append_right (by omega)] at h1'
    cases hq : n - W.cs.length with
    | zero => rw [hq] at h1'; simp at h1'; exact .inl h1'.symm
    | succ k => rw [hq] at h1'; simp at h1'
theorem SR.keepC {g : Gc} {W' : Wd} (s' : SR g W') {a : Addr} {o : HO} {c : Cell} (hin : a ∈ W'.rs) (htl : a ∉ W'.rs.tail) (hc : ∀ W2 : Wd, ExtW W' W2 → W2.H a = some o → CellOk g W2 a c) :
    ExtW W' (W'.keepC a o c) ∧ SR g (W'.keepC a o c) ∧ (∀ W : Wd, W.H a = none → Ext W (W'.wrO a o) → Ext W (W'.keepC a o c)) := by
  have hcs : a ∉ W'.cs := (s'.rx a hin).2
  have stt : W'.st.length = W'.cs.length := s'.len.symm
  obtain ⟨sw, nm⟩ := s'.wrO (o := o) hin htl
  have hmono : ExtW W' (W'.keepC a o c) := by
    refine ⟨fun b u hb nb => ?_, fun n b hb => ?_⟩
    · have hba : b ≠ a := fun e => nb (.inl (e ▸ hin))
      obtain ⟨h1, h2⟩ := (wrO_mono (o := o) hin).fz b u hb nb
      exact ⟨h1, fun m => (mu_keepC stt m).elim hba h2⟩
    · show (W'.cs ++ [a])[n]? = some b
      rw [List.getElem?_append_left (List.getElem?_eq_some_iff.mp hb).1]
      exact hb
  refine ⟨hmono, ⟨by show (W'.cs ++ [a]).length = (W'.st ++ [_]).length; simp [stt], List.nodup_append.mpr ⟨s'.nd, by simp, fun x hx y hy q => by simp at hy; subst hy; exact hcs (q ▸ hx)⟩, fun b hb => ?_, fun b hb => ?_, fun n b c' h1 h2 => ?_⟩, fun W ha eW => ?_⟩
  · show ∃ u, upd W'.H a _ b = some u
    rcases List.mem_append.mp hb with h | h
    · rw [upd_ne (fun e => hcs (by rw [← e]; exact h))]; exact s'.ex b h
    · simp at h; subst h; exact ⟨_, upd_same⟩
  · obtain ⟨q1, q2⟩ := sw.rx b hb
    refine ⟨q1, fun h => ?_⟩
    rcases List.mem_append.mp h with h | h
    · exact q2 h
    · simp at h
      subst h
      exact htl hb
  · have h1' : (W'.cs ++ [a])[n]? = some b := h1
    have h2' : (W'.st ++ [c])[n]? = some c' := h2
    by_cases hm : n < W'.cs.length
    · rw [List.getElem?_append_left hm] at h1'
      rw [List.getElem?_append_left (by rw [stt]; exact hm)] at h2'
      have hba : b ≠ a := fun e => hcs (e ▸ List.mem_of_getElem? h1')
      exact (s'.cell n b c' h1' h2').mono hmono fun _ => by show upd W'.H a _ b = _; rw [upd_ne hba]
    · rw [List.getElem?_append_right (by omega)] at h1'
      rw [List.getElem?_append_right (by omega)] at h2'
      cases hq : n - W'.cs.length with
      | zero =>
        rw [hq] at h1'
        rw [stt, hq] at h2'
        simp at h1' h2'
        subst h1' h2'
        exact hc _ hmono upd_same
      | succ k => rw [hq] at h1'; simp at h1'
  · refine ⟨⟨fun b u hb nb => ?_, fun n b hb => ?_⟩, eW.rs, eW.rk⟩
    · obtain ⟨h1, h2⟩ := eW.fz b u hb nb
      have hba : b ≠ a := fun e => by rw [e, ha] at hb; cases hb
      exact ⟨h1, fun m => (mu_keepC stt m).elim hba h2⟩
    · have h1 : W'.cs[n]? = some b := eW.cs n b hb
      show (W'.cs ++ [a])[n]? = some b
      rw [List.getElem?_append_left (List.getElem?_eq_some_iff.mp h1).1]
      exact h1
/-! ### {} as a cell -/
def oDicC : Me := fun _ st => .ok (.ref st.length) (st ++ [.dic []])
def oNdC : Me := fun _ st => .ok (.ref st.length) (st ++ [.nd []])
theorem raw_nil {X : Cx} {s : Shared} (hb : sysModules < s.heap.objs.size) : ∀ H', H' s.heap.objs.size = some (extO s.heap.objs.size { cls := .type "dict", data := .dict #[] }) → RawN (gc X) H' s.heap.objs.size [] := fun H' e =>
  ⟨beq_eq_false_iff_ne.mpr (Ne.symm (Nat.ne_of_lt hb)), Nat.zero_le _, _, #[], 0, [], .nil, e, ⟨rfl, rfl, rfl⟩, rfl, rfl, List.nodup_nil, fun x hx => nomatch hx⟩
def tNdNew (X : Cx) : TE := fun _ H Q => ∀ p ob, H p = none → (∀ H', H' p = some (extO p ob) → RawN (gc X) H' p []) → Q (.ref p) (upd H p (extO p ob))
section
variable {X : Cx} {Wx : WX} {pos : Pos}
theorem pe_ndnew : PE X (.Dict [] [] pos) (tNdNew X) := ⟨fun pins s σ H Q I h => by
  have ho : (s.heap.push { cls := .type "dict", data := .dict #[] }).get? s.heap.objs.size = some { cls := .type "dict", data := .dict #[] } := Heap.get?_push_size _ rfl
  exact wpAny_Dict_empty ⟨.ref s.heap.objs.size, _, I.laid (a := s.heap.objs.size) (o := extO s.heap.objs.size _) (t' := s.toks) (fun _ _ q => Heap.get?_push_of_some _ q) (Nat.le_refl _) (ext_ok ho), rfl, h _ _ (I.hok.fresh (Nat.le_refl _)) (raw_nil I.big)⟩⟩
theorem e_dicC : PE X (.Dict [] [] pos) (fE (gc X) Wx oDicC) := PE.imp pe_dnewK fun σ H Q ⟨W, env, e, s, r, p⟩ => by
  subst e
  intro q hq
  obtain ⟨e2, s2⟩ := s.cellNew (o := .dK []) (c := .dic []) hq fun W' e h => ⟨[], h, rfl, .nil⟩
  refine p _ e2 s2 rfl _ (.ref ?_)
  show (W.cs ++ [q])[W.st.length]? = some q
  rw [← s.len]; simp
theorem e_ndC : PE X (.Dict [] [] pos) (fE (gc X) Wx oNdC) := PE.imp pe_ndnew fun σ H Q ⟨W, env, e, s, r, p⟩ => by
  subst e
  intro q ob hq hraw
  obtain ⟨e2, s2⟩ := s.cellNew (o := extO q ob) (c := .nd []) hq fun W' e h => ⟨[], hraw _ h, rfl, .nil, .nil⟩
  refine p _ e2 s2 rfl _ (.ref ?_)
  show (W.cs ++ [q])[W.st.length]? = some q
  rw [← s.len]; simp
end
/-! ### {k: v} -/
theorem wpAny_Dict_rawH {prog : Program} {w : World} {K : Type} [DecidableEq K] {knd : HeapKind prog w K} {A : Around} {E : Value → Shared → Prop} {s : Shared} {env : Env} {keys : List (Option Expr)} {values : List Expr} {pos : Pos} {pairs : List (Sem Value × Sem Value)} {Q : Value → Shared → Prop} (hu : knd.room A)
    (hshape : (evalEachOpt keys env).zip ((evalEach values env).map fun v => do let x ← v; standAt pos; pure x) = pairs.map fun p => (some p.1, p.2)) (h0 : pairs ≠ []) (hlen : pairs.length ≤ 15)
    (h : wpAny (model prog w) A (evalPairs pairs) (fun vs s₁ => ∃ ps, CarriesH knd s₁.heap vs ps ∧ s₁.heap.DictOfH knd s.heap.objs.size [] ∧
      ∀ h' tk, h'.DictOfH knd s.heap.objs.size (storedAllH [] ps) → Heap.SameBut s.heap.objs.size s₁.heap h' → Q (.ref s.heap.objs.size) { s₁ with heap := h', toks := tk }) E
      { s with heap := s.heap.push { cls := .type "dict", data := .dict #[] } }) :
    wpAny (model prog w) A (eval (.Dict keys values pos) env) Q E s := by
  rw [arm_eval_Dict, hshape, dictDisplay_pairs pairs h0 (by omega)]
  exact wpAny_bind (wpAny_standAt (wpAny_bind (wpAny_subDictH (knd := knd) (Q := fun d s' => wpAny (model prog w) A (pure (Value.ref d)) Q E s') hu hlen
    (wpAny_mono h (fun vs s₁ h₁ => by obtain ⟨ps, hc, hm, hq⟩ := h₁; exact ⟨ps, hc, hm, fun h' tk a b => wpAny_pure (hq h' tk a b)⟩) fun _ _ e => e))))
def mNd1 (c : Bool) (mk mv : Me) : Me := fun e st => (mk e st).bind fun k st1 => (mv e st1).bind fun v st2 => if isNK k = true then (if c = true then .ok (.ref st2.length) (st2 ++ [.nd [(k, v)]]) else .ok (.nd [(k, v)]) st2) else .no
def tNd1 (X : Cx) (tk tv : TE) : TE := fun σ H Q => ∀ p o0, H p = none → tk σ (upd H p (extO p o0)) fun x H1 => tv σ H1 fun y H2 => H2 p = some (extO p o0) ∧ ∃ W b k, W.H = H2 ∧ x = .ref b ∧ KeyAt X W b k ∧
  ∀ ob, (∀ H', H' p = some (extO p ob) → RawN (gc X) H' p [(k, b, y)]) → Q (.ref p) (upd H2 p (extO p ob))
section
variable {X : Cx} {Wx : WX} {pos : Pos} {ke ve : Expr} {tk tv : TE} {mk mv : Me}
theorem pe_nd1 (hu : X.A.units + 9 < cLine) (hk : PE X ke tk) (hv : PE X ve tv) : PE X (.Dict [some ke] [ve] pos) (tNd1 X tk tv) := by
  refine ⟨fun pins s σ H Q I q => ?_⟩
  have hn := I.hok.fresh (Nat.le_refl s.heap.objs.size)
  have ho : (s.heap.push { cls := .type "dict", data := .dict #[] }).get? s.heap.objs.size = some { cls := .type "dict", data := .dict #[] } := Heap.get?_push_size _ rfl
  have I1 := I.laid (a := s.heap.objs.size) (o := extO s.heap.objs.size _) (h' := s.heap.push { cls := .type "dict", data := .dict #[] }) (t' := s.toks) (fun _ _ q => Heap.get?_push_of_some _ q) (Nat.le_refl _) (ext_ok ho)
  have hh := pairTrees_length [some ke] [ve] X.env pos rfl rfl
  have hroom : (nestedKind X.prog X.w).room X.A := by show X.A.units + 8 < cLine; omega
  refine wpAny_Dict_rawH (knd := nestedKind X.prog X.w) (pairs := pairTrees [some ke] [ve] X.env pos) hroom (zip_pairTrees _ _ X.env pos rfl rfl) (fun e => by rw [e] at hh; cases hh) (by rw [hh]; exact Nat.le_of_ble_eq_true rfl) ?_
  refine pairTrees_cons_walk (thn (hk.run pins _ σ _ _ I1 (q _ _ hn)) fun u s1 ⟨x, H1, I2, rx, q1⟩ => thn (hv.run pins s1 σ H1 _ I2 q1) fun w2 s2 ⟨y, H2, I3, ry, q2⟩ => pairTrees_nil_walk ?_)
  obtain ⟨hp, W, b, k, eW, ex, ka, q3⟩ := q2
  subst eW ex
  obtain rfl : u = Value.ref b := rx
  have dd0 : s2.heap.DictOfH (nestedKind X.prog X.w) s.heap.objs.size [] := ⟨_, #[], 0, (I3.hok _ _ hp).1, ⟨rfl, rfl, rfl⟩, rfl, rfl, (fun x hx => nomatch hx), List.nodup_nil⟩
  refine ⟨[(k, b, w2)], ⟨rfl, rfl, ka.is I3, trivial⟩, dd0, fun h' tk dd hs => ?_⟩
  have e1 : storedAllH [] [(k, b, w2)] = [(k, b, w2)] := rfl
  rw [e1] at dd
  obtain ⟨ob, ho2, hr⟩ := raw_new (X := X) (xs := [(k, b, y)]) (beq_eq_false_iff_ne.mpr (Ne.symm (Nat.ne_of_lt I.big))) (by rw [sizeLine_eq]; show 1 ≤ 16777216; decide) (.cons ⟨rfl, rfl, ry⟩ .nil) dd (fun z hz => by simp at hz; subst hz; exact ka.dep)
  exact ⟨.ref s.heap.objs.size, _, d_write I3 (by rw [hp]; exact True.intro) hs ⟨ob, ho2⟩ (ext_ok ho2), rfl, q3 ob hr⟩
theorem e_nd1 (c : Bool) (hu : X.A.units + 9 < cLine) (hk : PE X ke (fE (gc X) Wx mk)) (hv : PE X ve (fE (gc X) Wx mv)) : PE X (.Dict [some ke] [ve] pos) (fE (gc X) Wx (mNd1 c mk mv)) :=
  PE.imp (pe_nd1 hu hk hv) fun σ H Q ⟨W, env, e, s, r, p⟩ => by
    subst e
    intro a o0 ha
    have hma : ∀ xs, extO a o0 ≠ .tup xs := fun xs h => by unfold extO at h; cases h
    have anr : a ∉ W.rs := fun h => by obtain ⟨⟨o, h1, _⟩, _⟩ := s.rx a h; rw [ha] at h1; cases h1
    have em := pushO_mono (o := extO a o0) ha
    have s0 := s.pushO (o := extO a o0) ha hma
    dsimp only [mNd1] at p
    refine ⟨W.pushO a (extO a o0), env, rfl, s0, r.monoW em, ?_⟩
    show Post _ _ _ (mk env W.st) _
    cases q1 : mk env W.st with
    | no => rw [q1] at p; exact p
    | exc x st1 =>
      rw [q1] at p
      refine fun W1 e1 s1 hs cls dd hx => ?_
      have e2 := unpushO s ha e1
      have := p W1.pop e2 s1.pop hs cls dd (hx.monoW pop_mono)
      exact this
    | ok kd st1 =>
      rw [q1] at p
      dsimp only [Res.bind] at p
      intro W1 e1 s1 hs1 kv hkv
      refine ⟨W1, env, rfl, s1, (r.monoW em).mono e1, ?_⟩
      rw [hs1]
      cases q2 : mv env st1 with
      | no => rw [q2] at p; exact p
      | exc x st2 =>
        rw [q2] at p
        refine fun W2 e2 s2 hs cls dd hx => ?_
        have e3 := unpushO s ha (e1.trans e2)
        exact p W2.pop e3 s2.pop hs cls dd (hx.monoW pop_mono)
      | ok vd st2 =>
        rw [q2] at p
        dsimp only at p
        intro W' e2 s' hs' vv hvv
        have e' := e1.trans e2
        split at p
        rotate_left
        · exact p.elim
        rename_i hnk
        have er : W'.rs = a :: W.rs := e'.rs
        have hin : a ∈ W'.rs := by rw [er]; exact List.mem_cons_self
        have htl : a ∉ W'.rs.tail := by rw [er]; exact anr
        have hHa : W'.H a = some (extO a o0) := by
          have := e'.rk a (by show a ∈ a :: W.rs; exact List.mem_cons_self)
          rw [this]
          exact upd_same
        have hk' := hkv.mono e2
        obtain ⟨b, j, rfl, hj, hka⟩ := nk_inv hk' hnk
        refine ⟨hHa, W', b, j, rfl, rfl, hka, fun ob hraw => ?_⟩
        obtain ⟨sw, nm⟩ := s'.wrO (o := extO a ob) hin htl
        have eW : Ext W (W'.wrO a (extO a ob)) := by
          refine ⟨em.trans (e'.toExtW.trans (wrO_mono hin)), by show W'.rs.tail = W.rs; rw [er]; rfl, fun b hb => ?_⟩
          have hba : b ≠ a := fun e => anr (e ▸ hb)
          have h1 : W'.H b = (W.pushO a (extO a o0)).H b := e'.rk b (List.mem_cons_of_mem _ hb)
          show upd W'.H a _ b = W.H b
          rw [upd_ne hba, h1]
          exact upd_ne hba
        cases c with
        | false =>
          have d1 := hk'.monoW (wrO_mono (o := extO a ob) hin)
          have d2 := hvv.monoW (wrO_mono (o := extO a ob) hin)
          exact p _ eW sw hs' _ (.ndic (xs := [(j, b, vv)]) (hraw _ upd_same) nm (by simp [hj]) (.cons d1 .nil) (.cons d2 .nil))
        | true =>
          obtain ⟨m1, s2, m3⟩ := s'.keepC (o := extO a ob) (c := .nd [(kd, vd)]) hin htl fun W2 e2 h2 => ⟨[(j, b, vv)], hraw _ h2, by simp [hj], .cons (hk'.monoW e2) .nil, .cons (hvv.monoW e2) .nil⟩
          refine p _ (m3 W ha eW) s2 (by show W'.st ++ _ = st2 ++ _; rw [hs']) _ (.ref ?_)
          show (W'.cs ++ [a])[st2.length]? = some a
          rw [← hs', s'.len.symm]
          simp
end
end FL
end
section
set_option Elab.async false
set_option linter.all false
set_option maxRecDepth 100000
/-! FMZ: dicts sorted, listed, compared with {}; setdefault; nested keys walked. -/
namespace FL
open PySem PySem.Spec PyProof.Rows L2
/-! ### sorted(d), list(d) -/
def ksOf (kvs : List (D × D)) : Option (List S) := match ssOf (kvs.map (·.1)) with
  | some ss => if ss.all okS = true ∧ ss.Nodup ∧ ss.length ≤ 60 then some ss else none
  | none => none
theorem ssOf_map : ∀ {ds : List D} {ss : List S}, ssOf ds = some ss → ds = ss.map D.str
  | [], ss, e => by simp only [ssOf, Option.some.injEq] at e; subst e; rfl
  | d :: ds, ss, e => by
    cases d with
    | str s =>
      simp only [ssOf, Option.map_eq_some_iff] at e
      obtain ⟨r, hr, rfl⟩ := e
      rw [ssOf_map hr]; rfl
    | _ => simp [ssOf] at e
theorem ks_keys : ∀ {ss : List S} {kv : List (Key × V)}, ss.map D.str = kv.map (fun p => kD p.1) → kv.map (·.1) = (ss.map toS).map Sum.inr
  | [], [], _ => rfl
  | [], p :: kv, e => by cases e
  | x :: ss, [], e => by cases e
  | x :: ss, p :: kv, e => by
    simp only [List.map_cons, List.cons.injEq] at e
    obtain ⟨e1, e2⟩ := e
    obtain ⟨k, v⟩ := p
    have ih := ks_keys e2
    cases k with
    | inl i => cases e1
    | inr y =>
      simp only [kD, D.str.injEq] at e1
      simp only [List.map_cons, ih]
      rw [e1, toS_of]
def oSortK (d : D) (st : Store) : Res D := match dicOf d st with
  | some kvs => match ksOf kvs with
    | some ss => .ok (.lst ((sortU ss).map .str)) st
    | none => .no
  | none => .no
def oListK (d : D) (st : Store) : Res D := match dicOf d st with
  | some kvs => match ksOf kvs with
    | some ss => .ok (.lst (ss.map .str)) st
    | none => .no
  | none => .no
def rSortK : List V → Hp → VK → Prop := fun xs H Q => ∃ (a : Addr) (kvs : List (Key × V)) (ks : List Str), xs = [.ref a] ∧ Rd H a (.dK kvs) ∧ kvs.map (·.1) = ks.map Sum.inr ∧ ks.length < 64 ∧
    ∀ ys p, ys.Perm ks → sortedS ys = true → H p = none → Q (.ref p) (upd H p (.lst (ys.map V.str)))
def rListK : List V → Hp → VK → Prop := fun xs H Q => ∃ (a : Addr) (kvs : List (Key × V)) (ks : List Str), xs = [.ref a] ∧ Rd H a (.dK kvs) ∧ kvs.map (·.1) = ks.map Sum.inr ∧ ks.length < 64 ∧
    ∀ p, H p = none → Q (.ref p) (upd H p (.lst (ks.map V.str)))
section
variable {X : Cx} {Wx : WX} {σ : L2.St} {H : Hp} {Q : VK} {vs : List V}
theorem ksOf_inv {W : Wd} {d : D} {x : V} {kvs : List (D × D)} {ss : List S} (s : SR (gc X) W) (hx : Den (gc X) W x d) (q : dicOf d W.st = some kvs) (q2 : ksOf kvs = some ss) :
    ∃ (a : Addr) (kv : List (Key × V)), x = .ref a ∧ Rd W.H a (.dK kv) ∧ kv.map (·.1) = (ss.map toS).map Sum.inr ∧ (∀ z ∈ ss, okS z = true) ∧ ss.Nodup ∧ ss.length ≤ 60 := by
  unfold ksOf at q2
  cases q3 : ssOf (kvs.map (·.1)) with
  | none => rw [q3] at q2; cases q2
  | some s2 =>
    rw [q3] at q2
    dsimp only at q2
    split at q2
    · rename_i hk
      cases q2
      obtain ⟨a, kv, rfl, hH, r⟩ := dicOf_inv s hx q
      exact ⟨a, kv, rfl, hH, ks_keys (by rw [← ssOf_map q3]; exact r.1), fun z hz => List.all_eq_true.mp hk.1 z hz, hk.2.1, hk.2.2⟩
    · cases q2
theorem nodup_toS {ss : List S} (h : ss.Nodup) : (ss.map toS).Nodup := by
  induction ss with
  | nil => exact List.nodup_nil
  | cons x ss ih =>
    obtain ⟨h1, h2⟩ := List.nodup_cons.mp h
    refine List.nodup_cons.mpr ⟨fun hm => ?_, ih h2⟩
    obtain ⟨y, hy, e⟩ := List.mem_map.mp hm
    exact h1 (toS_inj e ▸ hy)
theorem im_sortK (h : fL (gc X) Wx (rD (gc X)) (on1 oSortK) vs σ H Q) : rSortK vs H Q := by
  obtain ⟨x, rfl, W, d, rfl, s, hx, p⟩ := fL1 h
  dsimp only [oSortK] at p
  cases q : dicOf d W.st with
  | none => rw [q] at p; exact p.elim
  | some kvs =>
    rw [q] at p
    dsimp only at p
    cases q2 : ksOf kvs with
    | none => rw [q2] at p; exact p.elim
    | some ss =>
      rw [q2] at p
      obtain ⟨a, kv, rfl, hH, hk, hok, hnd, h60⟩ := ksOf_inv s hx q q2
      refine ⟨a, kv, ss.map toS, rfl, hH, hk, by simp; omega, fun ys b hp hs hb => ?_⟩
      have nd : ys.Nodup := hp.nodup_iff.mpr (nodup_toS hnd)
      obtain ⟨u1, u2⟩ := sortU_ok ss
      have en : ys.map (fun z => z.cps.toList) = sortU ss := pw_uniq (sortedS_pw hs nd) u1 fun k => by
        rw [u2 k, List.mem_map]
        constructor
        · rintro ⟨z, hz, rfl⟩
          obtain ⟨y, hy, rfl⟩ := List.mem_map.mp (hp.mem_iff.mp hz)
          simpa [toS] using hy
        · intro hk
          exact ⟨toS k, hp.mem_iff.mpr (List.mem_map.mpr ⟨k, hk, rfl⟩), by simp [toS]⟩
      have en2 : ys = (sortU ss).map toS := by
        rw [← en, List.map_map]
        conv => lhs; rw [← List.map_id ys]
        exact List.map_congr_left fun x _ => (toS_of x).symm
      rw [en2]
      exact Post.newL (g := gc X) (Wx := Wx) (σ := σ) s (den_strs fun z hz => hok z ((u2 z).mp hz)) p b hb
theorem im_listK (h : fL (gc X) Wx (rD (gc X)) (on1 oListK) vs σ H Q) : rListK vs H Q := by
  obtain ⟨x, rfl, W, d, rfl, s, hx, p⟩ := fL1 h
  dsimp only [oListK] at p
  cases q : dicOf d W.st with
  | none => rw [q] at p; exact p.elim
  | some kvs =>
    rw [q] at p
    dsimp only at p
    cases q2 : ksOf kvs with
    | none => rw [q2] at p; exact p.elim
    | some ss =>
      rw [q2] at p
      obtain ⟨a, kv, rfl, hH, hk, hok, hnd, h60⟩ := ksOf_inv s hx q q2
      exact ⟨a, kv, ss.map toS, rfl, hH, hk, by simp; omega, fun b hb => Post.newL (g := gc X) (Wx := Wx) (σ := σ) s (den_strs hok) p b hb⟩
theorem cr_sortK (hc : X.calm = true) : CallR X (.builtin "sorted") rSortK := call_sortedD hc
theorem cr_listK (hc : X.calm = true) : CallR X (.type "list") rListK := by
  intro pins s σ H xs us Q I r q
  obtain ⟨a, kvs, ks, ex, hd, hks, h64, q⟩ := q
  subst ex
  obtain ⟨u, eu, rx⟩ := vals1 r
  subst eu
  cases rx
  obtain ⟨z, lo, vs, rel, dd⟩ := dk_rd I.hok hd
  obtain ⟨ep, hat⟩ := dd.dictAt
  have hkeys : vs.map (·.1) = ks.map Sum.inr := rel.keys.symm.trans hks
  have hl : vs.length = ks.length := by
    have e := congrArg List.length hkeys
    rw [List.length_map, List.length_map] at e
    exact e
  have h16 : vs.length ≤ sizeLine := by rw [hl, sizeLine_eq]; omega
  refine PySem.W.kdl_call (PySem.W.kdl_dict (knd := mixKind X.prog X.w) (kvs := vs) (ep := ep) lo) (I.ok.hd hc) hat h16 fun h' tk acc c hk hS hacc => ?_
  have hal : acc.toList.length = ks.length := by rw [Array.length_toList, hacc.1, hl]
  have hvals : Vals (ks.map V.str) acc.toList := by
    have hS : StrsAre acc.toList ks := strs_at hal fun j v e => by
      obtain ⟨k, x, e1, e2⟩ := hacc.2 j v (by rw [← Array.getElem?_toList]; exact e)
      have e3 : (vs.map (·.1))[j]? = some k := by rw [List.getElem?_map, e1]; all_goals rfl
      rw [hkeys, List.getElem?_map] at e3
      cases e4 : ks[j]? with
      | none => rw [e4] at e3; cases e3
      | some y =>
        rw [e4] at e3
        have e5 : Sum.inr y = k := Option.some.inj e3
        subst e5
        obtain ⟨t, ev⟩ := Value.isStrOf_shape (x := y) (v := v) e2
        exact ⟨y, t, rfl, ev⟩
    exact vals_of_strs hS
  refine ⟨.ref s.heap.objs.size, upd H s.heap.objs.size (.lst (ks.map V.str)), I.laid (t' := tk) hk (Nat.le_refl _)
    (show ObjOk X.prog X.w _ _ _ (.lst (ks.map V.str)) from ⟨by rw [List.length_map, sizeLine_eq]; omega, acc.toList, c, hvals, by rw [Array.toArray_toList]; exact hS⟩), rfl, q _ (I.hok.fresh (Nat.le_refl _))⟩
end
/-! ### d.setdefault(k, x) -/
def mSetd (md mk mx : Me) : Me := fun e st => (md e st).bind fun d st1 => if (dicOf d st1).isSome = true then (mk e st1).bind fun k st2 => (mx e st2).bind fun x st3 => if isKey k = true then (match d with
  | .ref n => (match st3[n]? with
    | some (.dic kvs) => if kvs.length < BIG then (match dGet kvs k with
      | some v => .ok v st3
      | none => .ok x (st3.set n (.dic (dPut kvs k x)))) else .no
    | _ => .no)
  | _ => .no) else .no else .no
theorem e_setd {X : Cx} {Wx : WX} {o e f : Expr} {apos cpos : Pos} {md mk mx : Me} (ho : PE X o (fE (gc X) Wx md)) (he : PE X e (fE (gc X) Wx mk)) (hf : PE X f (fE (gc X) Wx mx)) (m : M2 X o "setdefault" apos e f cpos) :
    PE X (.Call (.Attribute o "setdefault" apos) [e, f] [] cpos) (fE (gc X) Wx (mSetd md mk mx)) := PE.imp (pe_dsetd ho he hf m) fun σ H Q h => by
  obtain ⟨W, env, rfl, s, r, p⟩ := h
  unfold L2.tDSetd
  refine ⟨W, env, rfl, s, r, ?_⟩
  dsimp only [mSetd] at p
  cases q1 : md env W.st with
  | no => rw [q1] at p; exact p
  | exc x st1 => rw [q1] at p; exact p
  | ok d st1 =>
    rw [q1] at p
    dsimp only [Res.bind] at p
    intro W1 e1 s1 hs1 x hx
    split at p
    rotate_left
    · exact p.elim
    rename_i hd
    obtain ⟨kvs0, hk0⟩ := Option.isSome_iff_exists.mp hd
    rw [← hs1] at hk0
    obtain ⟨a, kv0, rfl, hH0, _⟩ := dicOf_inv s1 hx hk0
    refine ⟨a, rfl, .inl ⟨kv0, hH0⟩, W1, env, rfl, s1, r.mono e1, ?_⟩
    rw [hs1]
    cases q2 : mk env st1 with
    | no => rw [q2] at p; exact p
    | exc x st2 => rw [q2] at p; exact Post.ext p e1
    | ok k st2 =>
      rw [q2] at p
      dsimp only at p
      intro W2 e2 s2 hs2 y hy
      refine ⟨W2, env, rfl, s2, (r.mono e1).mono e2, ?_⟩
      rw [hs2]
      cases q3 : mx env st2 with
      | no => rw [q3] at p; exact p
      | exc x st3 => rw [q3] at p; exact Post.ext (Post.ext p e1) e2
      | ok z st3 =>
        rw [q3] at p
        dsimp only at p
        intro W3 e3 s3 hs3 zv hz
        split at p
        rotate_left
        · exact p.elim
        rename_i hk
        have hy' := hy.mono e3
        obtain ⟨key, rfl, rfl⟩ := key_inv hy' hk
        have hx3 := (hx.mono e2).mono e3
        cases d with
        | ref n =>
          dsimp only at p
          rw [← hs3] at p
          cases q4 : W3.st[n]? with
          | none => rw [q4] at p; exact p.elim
          | some c =>
            rw [q4] at p
            cases c with
            | dic kvs =>
              dsimp only at p
              cases hx3 with
              | @ref a' _ ha =>
              obtain ⟨kv, h1, h2, h3⟩ := s3.cell n a _ ha q4
              have rr : DKV (gc X) W3 kv kvs := ⟨h2, h3⟩
              have g := rr.get (k := key)
              split at p
              rotate_left
              · exact p.elim
              rename_i hl
              cases q5 : dGet kvs (kD key) with
              | some d' =>
                rw [q5] at p
                obtain ⟨v, hv, hvd⟩ := g.1 _ q5
                refine ⟨kv, key, h1, rfl, by rw [rr.len]; exact hl, fun v' hv' => ?_, fun hn => by rw [hv] at hn; cases hn⟩
                rw [hv] at hv'
                cases hv'
                exact p W3 ((e1.trans e2).trans e3) s3 rfl _ hvd
              | none =>
                rw [q5] at p
                refine ⟨kv, key, h1, rfl, by rw [rr.len]; exact hl, fun v' hv' => (by rw [g.2 q5] at hv'; cases hv'), fun _ => ?_⟩
                obtain ⟨e4, s4⟩ := s3.cellSet (o := .dK (putK kv key zv)) (c := .dic (dPut kvs (kD key) z)) ha q4 rfl rfl fun W' e' h => ⟨_, h, (rr.mono e'.toExtW).put (hz.mono e')⟩
                exact p _ (((e1.trans e2).trans e3).trans e4) s4 rfl _ (hz.mono e4)
            | _ => exact p.elim
        | _ => exact p.elim
/-! ### list(d.values()) -/
def viewN (p d : Addr) : HO := .ext fun h => h.IsValuesView p d
section
variable {X : Cx} {pins : List (Addr × Obj)} {σ : L2.St} {s : Shared} {W : Wd} {a : Addr} {xs : List Ent3}
theorem NdAt.rawAt (I : Inv X pins σ W.H s) (h : NdAt X W a xs) : (a == sysModules) = false ∧ xs.length ≤ sizeLine ∧ ∃ es ep ws, Paired P3 xs ws ∧ s.heap.DictRaw a es ep ∧ es.toList = ws.map (entryOfKey (nestedKind X.prog X.w)) := by
  obtain ⟨⟨h1, h2, o, es, ep, ws, pr, hH, hx, hd, he, hn, hdp⟩, ds, hl, hk⟩ := h
  exact ⟨h1, h2, es, ep, ws, pr, ⟨o, (I.hok a _ hH).1, hx, hd⟩, he⟩
def tValsN (X : Cx) (td : TE) : TE := fun σ H Q => td σ H fun x H1 => ∃ (W : Wd) (a : Addr) (xs : List Ent3), W.H = H1 ∧ x = .ref a ∧ NdAt X W a xs ∧ ∀ p, H1 p = none → Q (.ref p) (upd H1 p (viewN p a))
theorem pe_valsN {e : Expr} {td : TE} {apos cpos : Pos} (he : PE X e td) (hbase : attributeBase e "values" X.env (eval e X.env) = eval e X.env := by rfl) (hline : (apos.endLine == cpos.line) = true := by rfl) :
    PE X (.Call (.Attribute e "values" apos) [] [] cpos) (tValsN X td) := by
  refine ⟨fun pins s σ H Q I h => ?_⟩
  refine wpAny_Call_method (T := "dict") (id := "dict.values") hbase rfl hline PySem.F.plainAttrs_dict PySem.F.slot_dict_values PySem.F.type_dict_values (thn (he.run pins s σ H _ I h) fun u s1 ⟨x, H1, I1, rx, W, a, xs, eW, ex, hn, q⟩ => ?_)
  subst eW ex
  obtain rfl : u = Value.ref a := rx
  obtain ⟨lo, hz, es, ep, ws, pr, raw, hes⟩ := hn.rawAt I1
  refine ⟨raw.typeIs, fun b e => by cases e; obtain ⟨o, ho, hx, _⟩ := raw; exact ⟨o, ho, hx.2.1⟩, ?_⟩
  show wpAny _ _ (callWith cpos (.builtin "dict.values") [.ref a] [] []) _ X.xe s1
  refine Calls.callWith_builtin rfl (PySem.evalArgs_none ?_)
  refine call_meetsIn PySem.F.slot_dict_values raw.typeIs PySem.F.entry_dict_values (PySem.F.args_dict_values_1 _) (meets_dict_values_raw a lo) ⟨⟨es, ep, raw⟩, ?_⟩
  exact ⟨.ref s1.heap.objs.size, upd W.H s1.heap.objs.size (viewN s1.heap.objs.size a), I1.laid (t' := s1.toks) (fun b u e => Heap.get?_push_of_some _ e) (Nat.le_refl _)
    ⟨⟨_, Heap.get?_push_size _ rfl, rfl, rfl⟩, ⟨_, Heap.get?_push_size _ rfl⟩, fun h1 h2 p k => let ⟨o, ho, x⟩ := p; ⟨o, k o ho, x⟩⟩, rfl, q _ (I1.hok.fresh (Nat.le_refl _))⟩
theorem p3_vals : ∀ {xs : List Ent3} {ws : List Ent3V}, Paired P3 xs ws → Vals (xs.map (·.2.2)) (ws.map (·.2.2))
  | _, _, .nil => .nil
  | _, _, .cons r t => .cons r.2.2 (p3_vals t)
def rListV (X : Cx) : List V → Hp → VK → Prop := fun vs H Q => ∃ (W : Wd) (p a : Addr) (xs : List Ent3), W.H = H ∧ vs = [.ref p] ∧ H p = some (viewN p a) ∧ NdAt X W a xs ∧ ∀ l, H l = none → Q (.ref l) (upd H l (.lst (xs.map (·.2.2))))
theorem cr_listV (hc : X.calm = true) : CallR X (.type "list") (rListV X) := by
  intro pins s σ H vs us Q I r ⟨W, p, a, xs, eW, ev, hp, hn, q⟩
  subst eW ev
  obtain ⟨u, eu, rx⟩ := vals1 r
  subst eu
  cases rx
  obtain ⟨lo, hz, es, ep, ws, pr, raw, hes⟩ := hn.rawAt I
  have hv : s.heap.IsValuesView p a := (I.hok p _ hp).1
  have hsz : es.size = ws.length := by rw [← Array.length_toList, hes, List.length_map]
  have hl : xs.length = ws.length := p3_len pr
  refine PySem.W.kdl_call (KdlSrc.rawValues (r := p) (d := a) (es := es) (ep := ep)) (I.ok.hd hc) ⟨hv, raw⟩ (by omega) fun h' tk acc c hk hS hacc => ?_
  have hvals : Vals (xs.map (·.2.2)) acc.toList := by
    have e1 : acc.toList = es.toList.map (·.val) := by
      apply List.ext_getElem?
      intro j
      cases q : acc.toList[j]? with
      | none =>
        have : acc.size ≤ j := by simpa using q
        symm
        rw [List.getElem?_eq_none_iff, List.length_map, Array.length_toList]
        have := hacc.1
        omega
      | some v =>
        obtain ⟨hi, rfl⟩ := hacc.2 j v (by rw [← Array.getElem?_toList]; exact q)
        rw [List.getElem?_map, Array.getElem?_toList, Array.getElem?_eq_getElem hi]
        rfl
    have e2 : es.toList.map (·.val) = ws.map (·.2.2) := by rw [hes, List.map_map]; rfl
    rw [e1, e2]
    exact p3_vals pr
  refine ⟨.ref s.heap.objs.size, upd W.H s.heap.objs.size (.lst (xs.map (·.2.2))), I.laid (t' := tk) hk (Nat.le_refl _)
    (show ObjOk X.prog X.w _ _ _ (.lst (xs.map (·.2.2))) from ⟨by rw [List.length_map]; exact hz, acc.toList, c, hvals, by rw [Array.toArray_toList]; exact hS⟩), rfl, q _ (I.hok.fresh (Nat.le_refl _))⟩
end
def oVals (d : D) (st : Store) : Res D := match ndOf d st with
  | some kvs => .ok (.lst (kvs.map (·.2))) st
  | none => .no
theorem NdAt.mono {X : Cx} {W W' : Wd} {a : Addr} {xs : List Ent3} (e : ExtW W W') (h : NdAt X W a xs) (hH : W'.H a = W.H a) : NdAt X W' a xs := by
  obtain ⟨⟨h1, h2, o, es, ep, ws, pr, hh, hr⟩, ds, hl, hk⟩ := h
  exact ⟨⟨h1, h2, o, es, ep, ws, pr, hH.trans hh, hr⟩, ds, hl.monoW e, hk⟩
section
variable {X : Cx} {Wx : WX} {pos p p2 apos cpos : Pos} {e : Expr} {m : Me}
theorem e_vals (hc : X.calm = true) (hg : Gl X "list") (hm : X.mg "list" = none) (he : PE X e (fE (gc X) Wx m)) (hbase : attributeBase e "values" X.env (eval e X.env) = eval e X.env := by rfl) (hline : (apos.endLine == cpos.line) = true := by rfl)
    (na2 : starEach [.Call (.Attribute e "values" apos) [] [] cpos] X.env = (false, eval (.Call (.Attribute e "values" apos) [] [] cpos) X.env) :: starEach [] X.env := by rfl) :
    PE X (.Call (.Name "list" p) [.Call (.Attribute e "values" apos) [] [] cpos] [] pos) (fE (gc X) Wx (a1 oVals m)) :=
  PE.imp (pe_callTy (cr_listV hc) hg hm boot_list (pa_cons (pe_valsN he hbase hline) pa_nil na2) (he := na2)) fun σ H Q h => by
    show fE (gc X) Wx m σ H fun x H1 => ∃ (W : Wd) (a : Addr) (xs : List Ent3), W.H = H1 ∧ x = .ref a ∧ NdAt X W a xs ∧ ∀ p, H1 p = none → rListV X [.ref p] (upd H1 p (viewN p a)) Q
    refine fG_mono (lift1 h) fun v H' ⟨W, d, e0, s, hd, p⟩ => ?_
    subst e0
    dsimp only [oVals] at p
    cases q : ndOf d W.st with
    | none => rw [q] at p; exact p.elim
    | some kvs =>
      rw [q] at p
      obtain ⟨a, xs, rfl, hn, r⟩ := ndOf_inv s hd q
      refine ⟨W, a, xs, rfl, rfl, hn, fun b hb => ?_⟩
      obtain ⟨e1, s1, n1⟩ := s.lay (o := viewN b a) hb
      have hab : a ≠ b := fun z => by
        obtain ⟨_, _, o, es, ep, ws, pr, hh, _⟩ := hn.raw
        rw [z, hb] at hh; cases hh
      refine ⟨_, b, a, xs, rfl, rfl, upd_same, hn.mono e1.toExtW (upd_ne hab), fun l hl => ?_⟩
      exact Post.newL (g := gc X) (Wx := Wx) (σ := σ) s1 (r.v.mono e1) (Post.ext p e1) l hl
end
/-! ### d != {} -/
theorem ne_empty {prog : Program} {w : World} {A : Around} {E : Value → Shared → Prop} {s : Shared} {a b : Addr} {es : Array DictEntry} {ep ep' : Nat} {Q : Value → Shared → Prop} (ha : (a == sysModules) = false) (hb : (b == sysModules) = false)
    (da : s.heap.DictRaw a es ep) (db : s.heap.DictRaw b #[] ep') (hu : A.units < cLine) (h : Q (.bool (!(es.size == 0))) s) : wpAny (model prog w) A (compareOp .NotEq (.ref a) (.ref b)) Q E s := by
  refine wpAny_richCompare_same_room (op := .NotEq) da.typeIs db.typeIs PySem.F.slot_dict_ne (wpAny_call_entry PySem.F.slot_dict_ne da.typeIs PySem.F.entry_dict_ne ?_ (PySem.F.args_dict_ne_2 _ _)) hu
  show wpAny _ _ (Builtin.Dict.dictSlotArgs "__ne__" ⟨[.ref a, .ref b], []⟩ >>= _) _ _ s
  refine wpAny_bind ?_
  unfold Builtin.Dict.dictSlotArgs
  refine wpAny_bind (wpAny_notOrdered_dict da.typeIs ?_)
  show wpAny _ _ (pure (Value.ref a, Value.ref b)) _ _ s
  refine wpAny_pure ?_
  refine wpAny_bind (wpAny_isInstance (T := "dict") db.typeIs PySem.F.sub_dict_dict ?_)
  simp only [Bool.not_true, Bool.false_eq_true, if_false]
  refine wpAny_bind (wpAny_pure (wpAny_bind (wpAny_pure ?_)))
  have fin : ∀ nm : String, wpAny (model prog w) A.in1 (Builtin.Dict.samePairs nm a b) (fun r s' => r = (es.size == 0) ∧ s' = s) E s := fun nm => by
    obtain ⟨oa, hoa, _, hda⟩ := da
    obtain ⟨ob, hob, _, hdb⟩ := db
    unfold Builtin.Dict.samePairs Builtin.Dict.showsAll
    rw [if_neg (show ¬ (a == sysModules) = true by rw [ha]; exact Bool.false_ne_true), if_neg (show ¬ (b == sysModules) = true by rw [hb]; exact Bool.false_ne_true)]
    refine wpAny_bind (wpAny_pure (wpAny_bind (wpAny_pure ?_)))
    refine wpAny_bind (wpAny_dictEntries hoa hda ?_)
    dsimp only
    refine wpAny_bind (wpAny_dictEntries hob hdb ?_)
    by_cases hsz : es.size = 0
    · rw [if_neg (by rw [hsz]; simp)]
      refine wpAny_bind (wpAny_dictEpoch hoa hda ?_)
      refine wpAny_bind ?_
      rw [Std.Legacy.Range.forIn_eq_forIn_range']
      simp only [Std.Legacy.Range.size, Nat.sub_zero, Nat.add_sub_cancel, Nat.div_one, hsz, List.range'_zero, List.forIn_nil]
      exact wpAny_pure (wpAny_pure ⟨rfl, rfl⟩)
    · rw [if_pos (by simpa using hsz)]
      exact wpAny_bind (wpAny_rule (wpAny_pure ⟨by simp [hsz], rfl⟩))
  refine wpAny_bind (wpAny_mono (fin _) (fun r s' ⟨er, es'⟩ => ?_) fun _ _ e => e)
  subst er es'
  refine wpAny_pure ⟨_, rfl, ?_, ?_⟩
  · exact fun x => nomatch x
  · simpa using h
def rNeD (X : Cx) : R2 := fun x y H Q => ∃ (a b : Addr) (n : Nat), x = .ref a ∧ y = .ref b ∧ Rd H b (.dK []) ∧ ((∃ W xs, W.H = H ∧ NdAt X W a xs ∧ n = xs.length) ∨ ∃ kv, Rd H a (.dK kv) ∧ n = kv.length) ∧ Q (.bl (!(n == 0))) H
section
variable {X : Cx}
theorem dk_raw {pins : List (Addr × Obj)} {σ : L2.St} {H : Hp} {s : Shared} {a : Addr} {kv : List (Key × V)} (I : Inv X pins σ H s) (h : Rd H a (.dK kv)) : (a == sysModules) = false ∧ ∃ es ep, s.heap.DictRaw a es ep ∧ es.size = kv.length := by
  obtain ⟨z, lo, vs, rel, dd⟩ := dk_rd I.hok h
  obtain ⟨es, ep, raw, hsz, _⟩ := dd.raw
  exact ⟨lo, es, ep, raw, by rw [hsz, rel.length]⟩
theorem op_neD (hu : X.A.units < cLine) : OpR X (compareOp .NotEq) (rNeD X) := by
  intro pins s σ H x y v u Q I rx ry ⟨a, b, n, ex, ey, hb, ha, q⟩
  subst ex ey
  obtain rfl : v = Value.ref a := rx
  obtain rfl : u = Value.ref b := ry
  obtain ⟨lo2, es2, ep2, raw2, hsz2⟩ := dk_raw I hb
  obtain rfl : es2 = #[] := Array.eq_empty_of_size_eq_zero hsz2
  obtain ⟨lo1, es1, ep1, raw1, hsz1⟩ : (a == sysModules) = false ∧ ∃ es ep, s.heap.DictRaw a es ep ∧ es.size = n := by
    rcases ha with ⟨W, xs, eW, hn, en⟩ | ⟨kv, hk, en⟩
    · subst eW en
      obtain ⟨lo, _, es, ep, ws, pr, raw, hes⟩ := hn.rawAt I
      exact ⟨lo, es, ep, raw, by rw [← Array.length_toList, hes, List.length_map, p3_len pr]⟩
    · subst en
      exact dk_raw I hk
  exact ne_empty lo1 lo2 raw1 raw2 hu ⟨.bl _, H, I, rfl, by rw [hsz1]; exact q⟩
end
def oNeD (x y : D) (st : Store) : Res D := match y with
  | .dic [] => (match ndOf x st with
    | some kvs => .ok (.bl (!kvs.isEmpty)) st
    | none => match dicOf x st with
      | some kvs => .ok (.bl (!kvs.isEmpty)) st
      | none => .no)
  | _ => .no
theorem isE0 {α : Type} (l : List α) : (l.length == 0) = l.isEmpty := by cases l <;> rfl
theorem im_neD {X : Cx} {Wx : WX} {σ : L2.St} {H : Hp} {Q : VK} {x y : V} (h : f2 (gc X) Wx (rD (gc X)) oNeD x y σ H Q) : rNeD X x y H Q := by
  obtain ⟨W, d, e, rfl, s, h1, h2, p⟩ := h
  cases e with
  | dic ys =>
    cases ys with
    | nil =>
      dsimp only [oNeD] at p
      obtain ⟨b, kv2, rfl, hH2, r2⟩ := dicOf_inv s h2 (show dicOf (.dic []) W.st = some [] from rfl)
      have e2 : kv2 = [] := List.length_eq_zero_iff.mp r2.len
      subst e2
      cases q : ndOf d W.st with
      | some kvs =>
        rw [q] at p
        obtain ⟨a, xs, rfl, hn, r⟩ := ndOf_inv s h1 q
        refine ⟨a, b, xs.length, rfl, rfl, hH2, .inl ⟨W, xs, rfl, hn, rfl⟩, ?_⟩
        rw [r.len, isE0]
        exact p W (Ext.refl W) s rfl _ (.bl _)
      | none =>
        rw [q] at p
        dsimp only at p
        cases q3 : dicOf d W.st with
        | none => rw [q3] at p; exact p.elim
        | some kvs =>
          rw [q3] at p
          obtain ⟨a, kv, rfl, hH, r⟩ := dicOf_inv s h1 q3
          refine ⟨a, b, kv.length, rfl, rfl, hH2, .inr ⟨kv, hH, rfl⟩, ?_⟩
          rw [r.len, isE0]
          exact p W (Ext.refl W) s rfl _ (.bl _)
    | cons _ _ => exact p.elim
  | _ => exact p.elim
/-! ### nested keys walked -/
def Itnd (a : Addr) (o : Obj) (xs : List Ent3) : It :=
  ⟨fun i H => H a = some (extO a o) ∧ i < xs.length, fun i H x H' => H' = H ∧ ∃ y, xs[i]? = some y ∧ x = .ref y.2.1, fun i H => H a = some (extO a o) ∧ xs.length ≤ i⟩
section
variable {P : Program} {w : World} {K : PySem.W.Frag} {tg : Expr} {a : Addr} {o : Obj} {es : Array DictEntry} {ep : Nat}
theorem turn_nd {xs : List Ent3} (it : Addr) (hx : o.ExactDict) (hod : o.data = .dict es ep) (hsz : es.size = xs.length) (hk : ∀ i y (hi : i < es.size), xs[i]? = some y → es[i].key = .ref y.2.1) : Turn P w K tg (Itnd a o xs) [it] it (fun i h => h.IsKeyIter it a i es.size ep) where
  mem := by simp
  obj := fun i h st b hb => by
    have e : b = it := by simpa using hb
    subst e
    obtain ⟨oi, e, c, dd⟩ := st
    exact ⟨oi, e, fun v z => by rw [dd] at z; cases z⟩
  keep := fun i h h' st k => st.at fun oi e => k it (by simp) oi e
  item := by
    intro X hP hw hK hc i pins s σ H E I hf st hg
    subst hP hw hK
    obtain ⟨hd, hi⟩ := hg
    obtain ⟨f0, f1, f2, f3, f4, f5⟩ := hf it (by simp)
    have raw : s.heap.DictRaw a es ep := ⟨o, (I.hok a _ hd).1, hx, hod⟩
    refine wpAny_pyNext_keys_item_raw st raw (by omega) fun h' st' sb => ?_
    have I1 : Inv X pins σ H { s with heap := h' } := I.turned (t' := s.toks) (fun b ob hb e => (sb.2 b hb).trans e) f0 f1 f3 f4 f5
    obtain ⟨oi, e, c, dd⟩ := id st'
    have e1 : xs[i]? = some xs[i] := List.getElem?_eq_getElem hi
    exact ⟨_, rfl, go_of (s := { s with heap := h' }) e c dd (by decide) ⟨.ref xs[i].2.1, H, I1, hk i _ _ e1, ⟨rfl, _, e1, rfl⟩, st', fun b hb => (hf b hb).1⟩⟩
  done := by
    intro X hP hw hK hc i pins s σ H E I hf st hg
    subst hP hw hK
    obtain ⟨hd, hi⟩ := hg
    obtain ⟨f0, f1, f2, f3, f4, f5⟩ := hf it (by simp)
    have raw : s.heap.DictRaw a es ep := ⟨o, (I.hok a _ hd).1, hx, hod⟩
    exact wpAny_pyNext_keys_end_raw (I.ok.hd hc) st raw (by omega) fun h' eb => ⟨rfl, I.turned (t' := s.toks) (fun b ob hb e => eb b ob hb e) f0 f1 f3 f4 f5⟩
  self := fun A i s Q E st h => wpAny_pyIter_keyiter st h
end
section
variable {X : Cx} {Wx : WX} {tg e : Expr} {m : Me} {td : TE}
def iKeysN (X : Cx) (td : TE) : TI := fun σ H R => td σ H fun x H1 => ∃ (W : Wd) (a : Addr) (xs : List Ent3), W.H = H1 ∧ x = .ref a ∧ NdAt X W a xs ∧ ∀ o, H1 a = some (extO a o) → R (Itnd a o xs) H1
theorem pi_keysN (he : PE X e td) : PI X tg e (iKeysN X td) := by
  refine ⟨fun pins s σ H R I h => ?_⟩
  refine thn (he.run pins s σ H _ I h) fun u s1 ⟨x, H1, I1, rx, W, a, xs, eW, ex, hn, q⟩ => ?_
  subst eW ex
  obtain rfl : u = Value.ref a := rx
  obtain ⟨⟨lo, _, o, es, ep, ws, pr, hH, hx, hod, hes, _⟩, _⟩ := hn
  have hsz : es.size = xs.length := by rw [← Array.length_toList, hes, List.length_map, p3_len pr]
  have hgd := (I1.hok a _ hH).1
  refine iter_keys lo hgd hx hod (pi_one (tk := s1.toks) I1 _ (turn_nd _ hx hod hsz ?_) ⟨_, Heap.get?_push_size _ rfl, rfl, rfl⟩ (q o hH))
  intro i y hi hy
  have e1 : es.toList[i]? = some es[i] := by rw [Array.getElem?_toList, Array.getElem?_eq_getElem hi]
  rw [hes, List.getElem?_map] at e1
  obtain ⟨z, hz, hz2⟩ := Option.map_eq_some_iff.mp e1
  have : z.2.1 = y.2.1 := by
    obtain ⟨b, hb, r⟩ := L2.paired_get pr hy
    rw [hz] at hb
    cases hb
    exact r.2.1.symm
  rw [← hz2]
  show Value.ref z.2.1 = _
  rw [this]
theorem it_nd {g : Gc} {W : Wd} {a : Addr} {o : Obj} {xs : List Ent3} {ds : List D} (h : W.H a = some (extO a o)) (n : ¬ Mu W a) (l : DenL g W (xs.map fun x => V.ref x.2.1) ds) : ItOk g (Itnd a o xs) W ds := by
  have hl : ds.length = xs.length := by simpa using l.length.symm
  refine ⟨fun W' i d e sr hd => ?_, fun W' i e sr hi => ?_⟩
  · have hi : i < xs.length := by have := (List.getElem?_eq_some_iff.mp hd).1; omega
    refine ⟨⟨(e.fz _ _ h n).1, hi⟩, fun x H' ⟨e1, y, hy, hx⟩ => ⟨W', e1.symm, Ext.refl _, sr, rfl, ?_⟩⟩
    subst hx
    obtain ⟨d', hd', hden⟩ := l.get (i := i) (v := .ref y.2.1) (by rw [List.getElem?_map, hy]; rfl)
    rw [hd] at hd'
    cases hd'
    exact hden.monoW e
  · exact ⟨(e.fz _ _ h n).1, by omega⟩
/-- the keys of a frozen dict with nested keys -/
def iNdk (m : Me) : Mi := fun e st => (m e st).bind fun d st1 => match d with
  | .nd kvs => .ok (kvs.map (·.1)) st1
  | _ => .no
theorem i_ndk (h : PE X e (fE (gc X) Wx m)) : PI X tg e (fI (gc X) Wx (iNdk m)) := PI.imp (pi_keysN h) fun σ H R h1 => by
  obtain ⟨W, env, rfl, s, r, p⟩ := h1
  refine ⟨W, env, rfl, s, r, ?_⟩
  dsimp only [iNdk] at p
  cases q : m env W.st with
  | no => rw [q] at p; exact p
  | exc x st1 => rw [q] at p; exact p
  | ok d st1 =>
    rw [q] at p
    dsimp only [Res.bind] at p
    cases d with
    | nd kvs =>
      refine fun W1 e1 s1 hs1 v hv => ?_
      cases hv with
      | @ndic a xs _ h1 nm h2 h3 h4 =>
      refine ⟨W1, a, xs, rfl, rfl, .of h1 ⟨h2, h3, h4⟩, fun o hH => ?_⟩
      exact p W1 e1 s1 hs1 _ (it_nd hH nm h3)
    | _ => exact p.elim
end
end FL
end
section
set_option Elab.async false
set_option linter.all false
set_option maxRecDepth 100000
/-! FNA: rows compared; min. -/
namespace FLs
open PySem PySem.SeqAt PySem.W PyProof.Rows PySem.Spec
def AllLp (ds : List PyData) : Prop := ∀ d ∈ ds, pl d = true ∧ ∀ d' ∈ ds, lx d d' = true
section
variable {prog : Program} {w : World} {A : Around} {E : Value → Shared → Prop} {s : Shared}
theorem cmpIn_lx {vs : Array Value} {xs : List PyData} {as : List Addr} (hr : ReadsAll s.heap vs.toList xs as) (ha : AllLp xs) (hu : A.units + PyData.depthAll xs < cLine) :
    CmpIn prog w A .Lt s.heap (fun i v => vs[i]? = some v) (fun i j => dataLt (xs.getD i .none) (xs.getD j .none)) := fun i j vi vj s' Q E hk hi hj hq => by
  obtain ⟨as1, r1, _, m1, d1⟩ := readsAll_atA hr i vi hi
  obtain ⟨as2, r2, _, m2, d2⟩ := readsAll_atA hr j vj hj
  refine rcLt_lx _ _ A s' vi vj _ _ (reads_keeps hk r1) (reads_keeps hk r2) ((ha _ m1).2 _ m2) (ha _ m1).1 (ha _ m2).1 ?_ prog w E Q hq
  have := Nat.min_le_left (xs.getD i .none).depth (xs.getD j .none).depth
  omega
abbrev btOf (xs : List PyData) (i j : Nat) : Bool := dataLt (xs.getD i .none) (xs.getD j .none)
theorem min_list_lx {l : Addr} {vs : Array Value} {x : PyData} {xs : List PyData} {as : List Addr} {Q : Value → Shared → Prop} (hh : A.handled = none) (hl : s.heap.IsList l vs) (hr : ReadsAll s.heap vs.toList (x :: xs) as) (ha : AllLp (x :: xs)) (hu : A.units + 1 + PyData.depthAll (x :: xs) < cLine)
    (h : ∀ v h' tk, vs[argBest (btOf (x :: xs)) xs.length]? = some v → (∀ b o, s.heap.get? b = some o → h'.get? b = some o) → Q v { s with heap := h', toks := tk }) :
    wpAny (model prog w) A (call (.builtin "min") [.ref l]) Q E s := by
  have hn : vs.size = xs.length + 1 := readsAll_len hr
  refine call_min_walkH (iter_listW (A := A.in1) hh hl fun s₂ e W st hfp hw hk => ?_)
  refine ⟨_, _, _, _, _, _, _, s.heap, _, rfl, W, st, hfp, by omega, hw, hk, cmpIn_lx (A := A.in1) hr ha (by show A.units + 1 + _ < _; exact hu), fun v s' hP m => ?_⟩
  obtain ⟨h', tk, rfl, hk'⟩ := moved_old e rfl m
  have e1 : vs.size - 1 = xs.length := by omega
  rw [e1] at hP
  exact h v h' tk hP hk'
theorem min_two_lx {a b : Value} {da db : PyData} {as bs : List Addr} {Q : Value → Shared → Prop} (hh : A.handled = none) (ra : Reads s.heap a da as) (rb : Reads s.heap b db bs) (ha : AllLp [da, db]) (hu : A.units + 1 + PyData.depthAll [da, db] < cLine)
    (h : ∀ h' tk, (∀ b o, s.heap.get? b = some o → h'.get? b = some o) → Q (if dataLt db da = true then b else a) { s with heap := h', toks := tk }) :
    wpAny (model prog w) A (call (.builtin "min") [a, b]) Q E s := by
  have hname : (toString "min" ++ toString ".loop" : String) = "min.loop" := by decide
  refine call_function_tree F.kind_min F.plain_min F.entry_min (F.args_min2 _ _) ?_
  show wpAny _ A.in1 (Builtin.Builtins.bindParams "min" ["key", "default"] 0 ⟨[], []⟩ >>= _) _ _ s
  refine wpAny_bind (wpAny_of_eq (show Builtin.Builtins.bindParams "min" ["key", "default"] 0 ⟨[], []⟩ = pure [none, none] from rfl) ?_)
  show wpAny _ A.in1 (newTuple [a, b] >>= _) _ _ s
  refine wpAny_bind (wpAny_newObj_type ?_)
  let s1 : Shared := { s with heap := s.heap.push { cls := .type "tuple", data := .seq #[a, b] } }
  have hl : s1.heap.IsTuple s.heap.objs.size #[a, b] := ⟨_, Heap.get?_push_size _ rfl, rfl, _, rfl⟩
  have keep1 : ∀ b o, s.heap.get? b = some o → s1.heap.get? b = some o := fun b o e => Heap.get?_push_of_some _ e
  have r2 : ReadsAll s1.heap [a, b] [da, db] _ := .cons (reads_keeps keep1 ra) (.cons (reads_keeps keep1 rb) .nil)
  refine wpAny_bind (iter_tupleW (s := s1) (A := A.in1) hh hl fun s₂ e W st hfp hw hk => ?_)
  refine wpAny_bind (wpAny_newObj_type ?_)
  have hSf : s₂.heap.objs.size ∉ [s1.heap.objs.size, s.heap.objs.size] := fun hm => Nat.lt_irrefl _ (hfp _ hm)
  rw [hname]
  refine wpAny_pure ⟨plainId_quiet F.plain_min_loop _, codeAny_min_loop_firstH W s1.heap hw _ (cmpIn_lx (s := s1) (A := A.in1) (vs := #[a, b]) r2 ha (by show A.units + 1 + _ < _; exact hu)) s₂.heap.objs.size hSf (fresh_in hk) _ (Nat.succ_pos _) (fun b o e => Heap.get?_push_of_some _ (hk b o e)) (W.frame 0 s₂ _ s₂.toks st (Nat.le_refl _) fun b _ o e => Heap.get?_push_of_some _ e) (Heap.get?_push_size _ rfl) fun v s' hP hm => ?_⟩
  have m := Moved.drop_new (tk := s₂.toks) hm (Nat.le_refl _)
  obtain ⟨h', tk, rfl, hk'⟩ := moved_old (s := s1) e rfl m
  have ev : v = if dataLt db da = true then b else a := by
    have e1 : (#[a, b] : Array Value).size - 1 = 1 := rfl
    rw [e1] at hP
    unfold argBest at hP
    unfold argBest at hP
    by_cases hb : dataLt db da = true
    · have : dataLt (([da, db] : List PyData).getD (0 + 1) .none) (([da, db] : List PyData).getD 0 .none) = true := hb
      rw [if_pos this] at hP
      rw [if_pos hb]
      exact (Option.some.inj hP).symm
    · have : ¬ dataLt (([da, db] : List PyData).getD (0 + 1) .none) (([da, db] : List PyData).getD 0 .none) = true := hb
      rw [if_neg this] at hP
      rw [if_neg hb]
      exact (Option.some.inj hP).symm
  rw [ev]
  exact h h' tk fun b o e => hk' b o (keep1 b o e)
end
end FLs

namespace FL
open PySem PySem.Spec PyProof.Rows L2
def ltD (a b : D) : Bool := PySem.W.dataLt (py a) (py b)
/-- rows of numbers and texts, comparable two by two -/
def lpB (xs : List D) : Bool := xs.all fun a => FLs.pl (py a) && xs.all fun b => FLs.lx (py a) (py b)
theorem lpB_ok {xs : List D} (h : lpB xs = true) : FLs.AllLp (xs.map py) := by
  intro d hd
  obtain ⟨a, ha, rfl⟩ := List.mem_map.mp hd
  obtain ⟨h1, h2⟩ := ba2 (List.all_eq_true.mp h a ha)
  refine ⟨h1, fun d' hd' => ?_⟩
  obtain ⟨b, hb, rfl⟩ := List.mem_map.mp hd'
  exact List.all_eq_true.mp h2 b hb
theorem pyL_map : ∀ xs : List D, pyL xs = xs.map py
  | [] => rfl
  | x :: xs => by rw [pyL, pyL_map xs]; rfl
/-! ### a < b -/
def rLtL (K : PySem.W.Frag) : R2 := fun x y H Q => ∃ da db, Dp K H x da ∧ Dp K H y db ∧ FLs.lx da db = true ∧ FLs.pl da = true ∧ FLs.pl db = true ∧ da.depth ≤ 40 ∧ Q (.bl (PySem.W.dataLt da db)) H
theorem op_ltL {X : Cx} (hu : X.A.units + 64 < cLine) : OpR X (compareOp .Lt) (rLtL X.K) := by
  intro pins s σ H x y v u Q I rx ry ⟨da, db, h1, h2, h3, h4, h5, h6, q⟩
  obtain ⟨as, ra⟩ := Dp.reads I da x v h1 rx
  obtain ⟨bs, rb⟩ := Dp.reads I db y u h2 ry
  refine FLs.rcLt_lx da db X.A s v u as bs ra rb h3 h4 h5 ?_ X.prog X.w _ _ ⟨.bl _, H, I, rfl, q⟩
  have := Nat.min_le_left da.depth db.depth
  omega
def oLtL (x y : D) (st : Store) : Res D := if (x.sh 40 && (y.sh 40 && lpB [x, y])) = true then .ok (.bl (ltD x y)) st else .no
theorem im_ltL {X : Cx} {Wx : WX} {σ : L2.St} {H : Hp} {Q : VK} {x y : V} (h : f2 (gc X) Wx (rD (gc X)) oLtL x y σ H Q) : rLtL X.K x y H Q := by
  obtain ⟨W, d, e, rfl, s, h1, h2, p⟩ := h
  dsimp only [oLtL] at p
  split at p
  · rename_i hk
    obtain ⟨k1, hk⟩ := ba2 hk
    obtain ⟨k2, k3⟩ := ba2 hk
    have L := lpB_ok k3
    obtain ⟨p1, _, p2⟩ := h1.py k1
    obtain ⟨q1, _, q2⟩ := h2.py k2
    have L1 := L (py d) (by simp)
    have L2 := L (py e) (by simp)
    exact ⟨py d, py e, p1, q1, L1.2 _ (by simp), L1.1, L2.1, p2, p W (Ext.refl W) s rfl _ (.bl _)⟩
  · exact p.elim
/-! ### min(a, b) -/
def rMin2 (K : PySem.W.Frag) : List V → Hp → VK → Prop := fun vs H Q => ∃ x y da db, vs = [x, y] ∧ Dp K H x da ∧ Dp K H y db ∧ FLs.AllLp [da, db] ∧ da.depth ≤ 40 ∧ db.depth ≤ 40 ∧ Q (if PySem.W.dataLt db da = true then y else x) H
theorem cr_min2 {X : Cx} (hc : X.calm = true) (hu : X.A.units + 64 < cLine) : CallR X (.builtin "min") (rMin2 X.K) := by
  intro pins s σ H vs us Q I r ⟨x, y, da, db, ev, h1, h2, h3, h4, h5, q⟩
  subst ev
  obtain ⟨u, u2, eu, rx, ry⟩ := vals2 r
  subst eu
  obtain ⟨as, ra⟩ := Dp.reads I da x u h1 rx
  obtain ⟨bs, rb⟩ := Dp.reads I db y u2 h2 ry
  refine FLs.min_two_lx (I.ok.hd hc) ra rb h3 (by simp only [PyData.depthAll]; omega) fun h' tk hk => ?_
  by_cases hb : PySem.W.dataLt db da = true
  · rw [if_pos hb] at q ⊢
    exact ⟨y, H, I.kept hk, ry, q⟩
  · rw [if_neg hb] at q ⊢
    exact ⟨x, H, I.kept hk, rx, q⟩
def oMin2 (x y : D) (st : Store) : Res D := if (x.sh 40 && (y.sh 40 && lpB [x, y])) = true then .ok (if ltD y x = true then y else x) st else .no
theorem im_min2 {X : Cx} {Wx : WX} {σ : L2.St} {H : Hp} {Q : VK} {vs : List V} (h : fL (gc X) Wx (rD (gc X)) (on2 oMin2) vs σ H Q) : rMin2 X.K vs H Q := by
  obtain ⟨x, y, rfl, W, d, e, rfl, s, h1, h2, p⟩ := fL2 h
  dsimp only [oMin2] at p
  split at p
  · rename_i hk
    obtain ⟨k1, hk⟩ := ba2 hk
    obtain ⟨k2, k3⟩ := ba2 hk
    obtain ⟨p1, _, p2⟩ := h1.py k1
    obtain ⟨q1, _, q2⟩ := h2.py k2
    refine ⟨x, y, py d, py e, rfl, p1, q1, lpB_ok k3, p2, q2, ?_⟩
    by_cases hb : PySem.W.dataLt (py e) (py d) = true
    · have : ltD e d = true := hb
      rw [if_pos this] at p
      rw [if_pos hb]
      exact p W (Ext.refl W) s rfl _ h2
    · have : ¬ ltD e d = true := hb
      rw [if_neg this] at p
      rw [if_neg hb]
      exact p W (Ext.refl W) s rfl _ h1
  · exact p.elim
/-! ### min(xs) -/
def rMinL (K : PySem.W.Frag) : List V → Hp → VK → Prop := fun vs H Q => ∃ (a : Addr) (ys : List V) (x : PyData) (xs : List PyData), vs = [.ref a] ∧ SqL K H a ys ∧ DpAll K H ys (x :: xs) ∧ FLs.AllLp (x :: xs) ∧ PyData.depthAll (x :: xs) ≤ 40 ∧
  ∀ v, ys[argBest (FLs.btOf (x :: xs)) xs.length]? = some v → Q v H
theorem cr_minL {X : Cx} (hc : X.calm = true) (hu : X.A.units + 64 < cLine) : CallR X (.builtin "min") (rMinL X.K) := by
  intro pins s σ H vs us Q I r ⟨a, ys, x, xs, ev, hs, hd, ha, hdp, q⟩
  subst ev
  rw [Vals.ref1 r]
  obtain ⟨its, rv, hli, hz⟩ := I.list hs
  obtain ⟨as, ra⟩ := Dp.readsAll I (x :: xs) ys its hd rv
  refine FLs.min_list_lx (vs := its.toArray) (I.ok.hd hc) hli.isList (by simpa using ra) ha (by omega) fun v h' tk hv hk => ?_
  have hv' : its[argBest (FLs.btOf (x :: xs)) xs.length]? = some v := by simpa using hv
  obtain ⟨y, hy, ry⟩ : ∃ y, ys[argBest (FLs.btOf (x :: xs)) xs.length]? = some y ∧ RelV y v := by
    cases q2 : ys[argBest (FLs.btOf (x :: xs)) xs.length]? with
    | none =>
      have h1 := List.getElem?_eq_none_iff.mp q2
      have h2 := (List.getElem?_eq_some_iff.mp hv').1
      have := rv.length
      omega
    | some y =>
      obtain ⟨u, hu, ru⟩ := rv.get q2
      rw [hv'] at hu
      cases hu
      exact ⟨y, rfl, ru⟩
  exact ⟨y, H, I.kept hk, ry, q y hy⟩
def minL (x : D) (xs : List D) : D := xs.foldl (fun a y => if ltD y a = true then y else a) x
def oMinL (d : D) (st : Store) : Res D := onLs d st fun xs => match xs with
  | [] => .no
  | x :: r => if (shL (x :: r) 40 && lpB (x :: r)) = true then .ok (minL x r) st else .no
theorem argBest_map {f g : Nat → Nat → Bool} (h : ∀ i j, f i j = g i j) : ∀ k, argBest f k = argBest g k := fun k => by
  have : f = g := funext fun i => funext fun j => h i j
  rw [this]
theorem im_minL {X : Cx} {Wx : WX} {σ : L2.St} {H : Hp} {Q : VK} {vs : List V} (h : fL (gc X) Wx (rD (gc X)) (on1 oMinL) vs σ H Q) : rMinL X.K vs H Q := by
  obtain ⟨v, rfl, W, d, rfl, s, hx, p⟩ := fL1 h
  dsimp only [oMinL, onLs] at p
  cases q : lsOf d W.st with
  | none => rw [q] at p; exact p.elim
  | some xs =>
    rw [q] at p
    cases xs with
    | nil => exact p.elim
    | cons x r =>
      dsimp only at p
      split at p
      · rename_i hk
        obtain ⟨k1, k2⟩ := ba2 hk
        obtain ⟨a, us, rfl, hH, l⟩ := lsOf_inv s hx q
        obtain ⟨p1, _, p3⟩ := l.py k1
        have L := lpB_ok k2
        simp only [pyL_map, List.map_cons] at p1 p3
        refine ⟨a, us, py x, r.map py, rfl, SqL.of hH, p1, by simpa using L, p3, fun v hv => ?_⟩
        obtain ⟨d', hd', hden⟩ := l.get hv
        refine p W (Ext.refl W) s rfl _ ?_
        have e2 := (PySem.W.argBest_fold ltD D.non x r r.length (Nat.le_refl _)).2
        rw [List.take_length] at e2
        have e3 : argBest (FLs.btOf (py x :: r.map py)) (r.map py).length = argBest (fun i j => ltD ((x :: r).getD i .non) ((x :: r).getD j .non)) r.length := by
          rw [List.length_map]
          refine argBest_map (fun i j => ?_) _
          have e4 : ∀ i, (py x :: r.map py).getD i .none = py ((x :: r).getD i .non) := fun i => by
            have : (py x :: r.map py) = (x :: r).map py := rfl
            rw [this, List.getD_eq_getElem?_getD, List.getD_eq_getElem?_getD, List.getElem?_map]
            cases (x :: r)[i]? <;> rfl
          unfold FLs.btOf ltD
          rw [e4, e4]
        rw [e3] at hd'
        unfold minL
        rw [← e2, List.getD_eq_getElem?_getD, hd']
        exact hden
      · exact p.elim
end FL
end
section
set_option Elab.async false
set_option linter.all false
set_option maxRecDepth 100000
/-! FNB: list.count of data, list.index of data. -/
namespace FL
open PySem PySem.Spec PyProof.Rows L2
def rCntD (K : PySem.W.Frag) : V → List V → Hp → VK → Prop := fun x xs H Q => ∃ (a : Addr) (y : V) (d : PyData) (ds : List PyData), x = V.ref a ∧ xs = [y] ∧ Dp K H (V.ref a) (.list ds) ∧ Dp K H y d ∧
  SeqAt.shaped (.list ds) = true ∧ SeqAt.shaped d = true ∧ Q (.int (ds.countP fun z => PyData.eqv z d : Nat)) H
theorem mt_cntD {X : Cx} (hu : X.A.units + 65 < cLine) : MtR X "list.count" (rCntD X.K) := by
  intro pins s σ H x xs v us Q I rx rxs h
  obtain ⟨a, y, d, ds, rfl, rfl, hl, hy, sl, sd, q⟩ := h
  cases rx
  cases rxs with
  | cons ry rt =>
    rename_i uy ut
    cases rt
    obtain ⟨bs, r1⟩ := Dp.reads I d y uy hy ry
    have hxs : PyData.canLayAll0 ds = true := SeqAt.canLay_of_shaped sl
    have hroom : X.A.units + 1 + min (PyData.depthAll ds) d.depth < cLine := room_in_shaped sd hu
    cases hl with
    | lst hs ha =>
      obtain ⟨its, rv, ⟨⟨cls, dd, data, sls⟩, n, ho, hc, hdn, hdt⟩, hlen⟩ := I.list hs
      simp only at hc hdt
      subst hc hdt
      obtain ⟨as, h4⟩ := Dp.readsAll I ds _ its ha rv
      have hmap : its.map (SeqAt.readOf s.heap) = ds := SeqAt.readsAll_map ds its as hxs h4
      refine call_meets PySem.F.slot_list_count ⟨_, ho, rfl⟩ PySem.F.entry_list_count (PySem.F.args_list_count_2 _ _)
        (SeqAt.list_countAt a its.toArray n dd sls uy (fun u => PyData.eqv (SeqAt.readOf s.heap u) d)) ⟨ho, SeqAt.items_eqAt (vs := its.toArray) (show ReadsAll s.heap its.toArray.toList ds as from h4) r1 hxs (SeqAt.canLay_of_shaped sd) hroom, ?_⟩
      have e : its.toArray.toList.countP (fun u => PyData.eqv (SeqAt.readOf s.heap u) d) = ds.countP fun z => PyData.eqv z d := by
        rw [← hmap, List.countP_map]
        rfl
      rw [e]
      exact ⟨.int _, H, I.tok _, ⟨_, rfl⟩, q⟩
def lCntD (d : D) (ds : List D) (st : Store) : Res D := match ds with
  | [x] => onLs d st fun ys => if (x.sh 39 && shL ys 39) = true then .ok (.int ((ys.countP fun z => z.eqv x : Nat) : Int)) st else .no
  | _ => .no
theorem cnt_py {x : D} {n m : Nat} (hx : x.sh n = true) : ∀ {ys : List D}, shL ys m = true → ((pyL ys).countP fun z => PyData.eqv z (py x)) = ys.countP fun z => z.eqv x
  | [], _ => by simp [pyL]
  | y :: ys, h => by
    unfold shL at h
    obtain ⟨h1, h2⟩ := ba2 h
    rw [pyL, List.countP_cons, List.countP_cons, cnt_py hx h2, eqv_py y x m n h1 hx]
theorem im_cntD {X : Cx} {Wx : WX} {σ : L2.St} {H : Hp} {Q : VK} {x : V} {vs : List V} (h : fM (gc X) Wx lCntD x vs σ H Q) : rCntD X.K x vs H Q := by
  obtain ⟨W, d, ds, rfl, s, hx, l, p⟩ := h
  cases l with
  | nil => exact p.elim
  | cons hv l =>
    cases l with
    | cons _ _ => exact p.elim
    | nil =>
      rename_i v y
      dsimp only [lCntD, onLs] at p
      cases q : lsOf d W.st with
      | none => rw [q] at p; exact p.elim
      | some ys =>
        rw [q] at p
        dsimp only at p
        split at p
        · rename_i hk
          obtain ⟨k1, k2⟩ := ba2 hk
          obtain ⟨a, us, rfl, hH, l⟩ := lsOf_inv s hx q
          obtain ⟨p1, p2, p3⟩ := hv.py k1
          obtain ⟨q1, q2, q3⟩ := l.py k2
          refine ⟨a, v, py y, pyL ys, rfl, rfl, .lst (SqL.of hH) q1, p1, shaped_of (by simp only [PyData.canLay0]; exact q2) (by simp only [PyData.depth]; omega), shaped_of p2 (by omega), ?_⟩
          rw [cnt_py k1 k2]
          exact p W (Ext.refl W) s rfl _ (.int _)
        · exact p.elim
/-! ### xs.index(y), texts -/
def lIdx (d : D) (ds : List D) (st : Store) : Res D := match ds with
  | [.str x] => onLs d st fun ys => match ssOf ys with
    | some ss => match ixS x ss with
      | some j => .ok (.int j) st
      | none => .no
    | none => .no
  | _ => .no
theorem im_lIdx {X : Cx} {Wx : WX} {σ : L2.St} {H : Hp} {Q : VK} {x : V} {vs : List V} (h : fM (gc X) Wx lIdx x vs σ H Q) : rIndex X.K x vs H Q := by
  obtain ⟨W, d, ds, rfl, s, hx, l, p⟩ := h
  cases l with
  | nil => exact p.elim
  | cons hv l =>
    cases l with
    | cons _ _ => dsimp only [lIdx] at p; split at p <;> first | (rename_i h; cases h) | exact p.elim
    | nil =>
      rename_i v y
      cases y with
      | str y =>
        dsimp only [lIdx, onLs] at p
        cases q : lsOf d W.st with
        | none => rw [q] at p; exact p.elim
        | some ys =>
          rw [q] at p
          dsimp only at p
          cases q2 : ssOf ys with
          | none => rw [q2] at p; exact p.elim
          | some ss =>
            rw [q2] at p
            dsimp only at p
            cases q3 : ixS y ss with
            | none => rw [q3] at p; exact p.elim
            | some j =>
              rw [q3] at p
              obtain ⟨a, us, rfl, hH, l⟩ := lsOf_inv s hx q
              obtain ⟨rfl, os⟩ := ssOf_inv l q2
              obtain ⟨rfl, oy⟩ := hv.str_inv
              obtain ⟨i1, i2⟩ := ixS_ok q3
              refine ⟨a, _, .str (toS y), j, .str (toS y), rfl, rfl, SqL.of hH, rfl, ?_, ?_, ?_, ?_, p W (Ext.refl W) s rfl _ (.int _)⟩
              · rw [List.all_map, List.all_map]; exact List.all_eq_true.mpr fun z hz => rfl
              · rw [List.getElem?_map, List.getElem?_map, i1]; rfl
              · simp [eqV]
              · intro m z' hm hz'
                rw [List.getElem?_map, List.getElem?_map] at hz'
                cases q4 : ss[m]? with
                | none => rw [q4] at hz'; cases hz'
                | some w =>
                  rw [q4] at hz'
                  cases hz'
                  have hne : w ≠ y := fun e => i2 m hm (e ▸ q4)
                  show (toS w == toS y) = false
                  rw [toS_beq]
                  simp [hne]
      | _ => exact p.elim
theorem hu9 {k : Nat} {A : Around} (r : Room k A) : A.units + 9 < cLine := by have := r.un; omega
theorem hu64 {k : Nat} {A : Around} (r : Room k A) : A.units + 64 < cLine := by have := r.un; omega
theorem hu0 {k : Nat} {A : Around} (r : Room k A) : A.units < cLine := by have := r.un; omega
end FL
end
section
set_option Elab.async false
set_option linter.all false
set_option maxRecDepth 100000
/-! FNC: plain: rows of deeds, dicts of rows, a search layer by layer. -/
namespace FL
open PySem PySem.Spec PyProof.Rows L2
/-! ### nested keys -/
mutual
/-- data without truth values, lists or dicts, nested n deep at most -/
def nsh : D → Nat → Bool
  | .non, _ | .int _, _ | .str _, _ => true
  | .tup xs, n => match n with
    | 0 => false
    | n + 1 => nshL xs n
  | _, _ => false
def nshL : List D → Nat → Bool
  | [], _ => true
  | x :: xs, n => nsh x n && nshL xs n
end
mutual
theorem nsh_nk : ∀ (d : D) (n : Nat), nsh d n = true → ∃ k, nk d = some k ∧ k.depth ≤ n
  | .non, n, _ => ⟨_, rfl, Nat.zero_le _⟩
  | .int _, n, _ => ⟨_, rfl, Nat.zero_le _⟩
  | .str _, n, _ => ⟨_, rfl, Nat.zero_le _⟩
  | .tup xs, n, h => by
    cases n with
    | zero => simp [nsh] at h
    | succ n =>
      have h' : nshL xs n = true := by simpa [nsh] using h
      obtain ⟨ks, e, hd⟩ := nshL_nk xs n h'
      refine ⟨.tup ks, by simp [nk, e], ?_⟩
      simp only [NestedKey.depth]
      omega
  | .bl _, n, h => by simp [nsh] at h
  | .lst _, n, h => by simp [nsh] at h
  | .dic _, n, h => by simp [nsh] at h
  | .nd _, n, h => by simp [nsh] at h
  | .obj _ _, n, h => by simp [nsh] at h
  | .ref _, n, h => by simp [nsh] at h
  | .scr _, n, h => by simp [nsh] at h
theorem nshL_nk : ∀ (xs : List D) (n : Nat), nshL xs n = true → ∃ ks, nkL xs = some ks ∧ NestedKey.depthAll ks ≤ n
  | [], n, _ => ⟨[], rfl, Nat.zero_le _⟩
  | x :: xs, n, h => by
    unfold nshL at h
    obtain ⟨h1, h2⟩ := ba2 h
    obtain ⟨k, e1, d1⟩ := nsh_nk x n h1
    obtain ⟨ks, e2, d2⟩ := nshL_nk xs n h2
    refine ⟨k :: ks, by simp [nkL, e1, e2], ?_⟩
    simp only [NestedKey.depthAll]
    exact Nat.max_le.mpr ⟨d1, d2⟩
end
theorem isNK_of {xs : List D} (h : nsh (.tup xs) 8 = true) : isNK (.tup xs) = true := by
  obtain ⟨k, e, hd⟩ := nsh_nk _ _ h
  unfold isNK
  dsimp only
  rw [e]
  exact decide_eq_true hd
mutual
theorem nk_inj : ∀ (a b : D) (n m : Nat), nsh a n = true → nsh b m = true → nk a = nk b → a = b
  | .non, b, n, m, _, hb, e => by
    cases b <;> first | rfl | (simp [nsh] at hb; done) | (simp [nk] at e; done) | (exfalso; simp only [nk] at e; have e := e.symm; simp at e)
  | .int i, b, n, m, _, hb, e => by
    cases b <;> first | (simp [nsh] at hb; done) | (simp [nk] at e; done) | (simp [nk] at e; rw [e]) | (exfalso; simp only [nk] at e; have e := e.symm; simp at e)
  | .str s, b, n, m, _, hb, e => by
    cases b with
    | str t => simp [nk] at e; rw [toS_inj e]
    | _ => first | (simp [nsh] at hb; done) | (simp [nk] at e; done) | (exfalso; simp only [nk] at e; have e := e.symm; simp at e)
  | .tup xs, b, n, m, ha, hb, e => by
    cases b with
    | tup ys =>
      cases n with
      | zero => simp [nsh] at ha
      | succ n =>
        cases m with
        | zero => simp [nsh] at hb
        | succ m =>
          have ha' : nshL xs n = true := by simpa [nsh] using ha
          have hb' : nshL ys m = true := by simpa [nsh] using hb
          obtain ⟨ks, e1, _⟩ := nshL_nk xs n ha'
          obtain ⟨ls, e2, _⟩ := nshL_nk ys m hb'
          have e3 : nkL xs = nkL ys := by
            simp only [nk, e1, e2, Option.map_some, Option.some.injEq, NestedKey.tup.injEq] at e
            rw [e1, e2, e]
          rw [nkL_inj xs ys n m ha' hb' e3]
    | _ => first | (simp [nsh] at hb; done) | (simp [nk] at e; done) | (exfalso; simp only [nk] at e; simp at e)
  | .bl _, _, _, _, h, _, _ => by simp [nsh] at h
  | .lst _, _, _, _, h, _, _ => by simp [nsh] at h
  | .dic _, _, _, _, h, _, _ => by simp [nsh] at h
  | .nd _, _, _, _, h, _, _ => by simp [nsh] at h
  | .obj _ _, _, _, _, h, _, _ => by simp [nsh] at h
  | .ref _, _, _, _, h, _, _ => by simp [nsh] at h
  | .scr _, _, _, _, h, _, _ => by simp [nsh] at h
theorem nkL_inj : ∀ (xs ys : List D) (n m : Nat), nshL xs n = true → nshL ys m = true → nkL xs = nkL ys → xs = ys
  | [], [], _, _, _, _, _ => rfl
  | [], y :: ys, n, m, _, hb, e => by
    obtain ⟨ls, e2, _⟩ := nshL_nk (y :: ys) m hb
    rw [e2] at e
    simp [nkL] at e
    subst e
    unfold nkL at e2
    cases h1 : nk y <;> cases h2 : nkL ys <;> rw [h1, h2] at e2 <;> simp at e2
  | x :: xs, [], n, m, ha, _, e => by
    obtain ⟨ls, e2, _⟩ := nshL_nk (x :: xs) n ha
    rw [e2] at e
    simp [nkL] at e
    subst e
    unfold nkL at e2
    cases h1 : nk x <;> cases h2 : nkL xs <;> rw [h1, h2] at e2 <;> simp at e2
  | x :: xs, y :: ys, n, m, ha, hb, e => by
    unfold nshL at ha hb
    obtain ⟨a1, a2⟩ := ba2 ha
    obtain ⟨b1, b2⟩ := ba2 hb
    obtain ⟨k, e1, _⟩ := nsh_nk x n a1
    obtain ⟨ks, e2, _⟩ := nshL_nk xs n a2
    obtain ⟨l, e3, _⟩ := nsh_nk y m b1
    obtain ⟨ls, e4, _⟩ := nshL_nk ys m b2
    simp only [nkL, e1, e2, e3, e4, Option.some.injEq, List.cons.injEq] at e
    rw [nk_inj x y n m a1 b1 (by rw [e1, e3, e.1]), nkL_inj xs ys n m a2 b2 (by rw [e2, e4, e.2])]
end
theorem nkEq_plain {a b : D} {n m : Nat} {p : Prop} [Decidable p] (ha : nsh a n = true) (hb : nsh b m = true) (h : a = b ↔ p) : nkEq a b = decide p := by
  unfold nkEq
  by_cases hp : p
  · have := h.mpr hp
    subst this
    simp [hp]
  · have : nk a ≠ nk b := fun e => hp (h.mp (nk_inj a b n m ha hb e))
    simp [hp, this]
/-! ### rows -/
theorem lx_rows {dl : List D} (h : lpB dl = true) : ∀ {r q : List D}, (∀ d ∈ r, d ∈ dl) → (∀ d ∈ q, d ∈ dl) → FLs.lxAll (pyL r) (pyL q) = true
  | [], q, _, _ => by cases q <;> rfl
  | _ :: _, [], _, _ => rfl
  | a :: r, b :: q, hr, hq => by
    have ih := lx_rows h (r := r) (q := q) (fun d hd => hr d (List.mem_cons_of_mem _ hd)) fun d hd => hq d (List.mem_cons_of_mem _ hd)
    have h1 := (ba2 (List.all_eq_true.mp h a (hr a List.mem_cons_self))).2
    have h2 := List.all_eq_true.mp h1 b (hq b List.mem_cons_self)
    simp only [pyL, FLs.lxAll]
    cases PyData.eqv (py a) (py b)
    · exact h2
    · exact ih
theorem pl_rows {dl : List D} (h : lpB dl = true) : ∀ {r : List D}, (∀ d ∈ r, d ∈ dl) → FLs.plAll (pyL r) = true
  | [], _ => rfl
  | a :: r, hr => by
    have ih := pl_rows h (r := r) fun d hd => hr d (List.mem_cons_of_mem _ hd)
    have h1 := (ba2 (List.all_eq_true.mp h a (hr a List.mem_cons_self))).1
    simp only [pyL, FLs.plAll, h1, ih]
    rfl
theorem lpB_rows {dl r q : List D} (h : lpB dl = true) (hr : ∀ d ∈ r, d ∈ dl) (hq : ∀ d ∈ q, d ∈ dl) : lpB [.tup r, .tup q] = true := by
  have e1 : FLs.lx (py (.tup r)) (py (.tup r)) = true := by simp only [py, FLs.lx]; exact lx_rows h hr hr
  have e2 : FLs.lx (py (.tup r)) (py (.tup q)) = true := by simp only [py, FLs.lx]; exact lx_rows h hr hq
  have e3 : FLs.lx (py (.tup q)) (py (.tup r)) = true := by simp only [py, FLs.lx]; exact lx_rows h hq hr
  have e4 : FLs.lx (py (.tup q)) (py (.tup q)) = true := by simp only [py, FLs.lx]; exact lx_rows h hq hq
  have p1 : FLs.pl (py (.tup r)) = true := by simp only [py, FLs.pl]; exact pl_rows h hr
  have p2 : FLs.pl (py (.tup q)) = true := by simp only [py, FLs.pl]; exact pl_rows h hq
  unfold lpB
  simp only [List.all_cons, List.all_nil, e1, e2, e3, e4, p1, p2]
  rfl
theorem sh_rows {dl : List D} {n : Nat} (h : ∀ d ∈ dl, d.sh n = true) : ∀ {r : List D}, (∀ d ∈ r, d ∈ dl) → shL r n = true
  | [], _ => rfl
  | a :: r, hr => by
    unfold shL
    rw [h a (hr a List.mem_cons_self), sh_rows h fun d hd => hr d (List.mem_cons_of_mem _ hd)]
    rfl
mutual
theorem sh_up : ∀ (d : D) (n m : Nat), n ≤ m → d.sh n = true → d.sh m = true
  | .tup xs, n, m, h, e => by
    cases n with
    | zero => simp [D.sh] at e
    | succ n =>
      cases m with
      | zero => omega
      | succ m =>
        have e' : shL xs n = true := by simpa [D.sh] using e
        have := shL_up xs n m (by omega) e'
        simpa [D.sh] using this
  | .lst xs, n, m, h, e => by
    cases n with
    | zero => simp [D.sh] at e
    | succ n =>
      cases m with
      | zero => omega
      | succ m =>
        have e' : shL xs n = true := by simpa [D.sh] using e
        have := shL_up xs n m (by omega) e'
        simpa [D.sh] using this
  | .non, _, _, _, _ => by simp [D.sh]
  | .bl _, _, _, _, _ => by simp [D.sh]
  | .int _, _, _, _, _ => by simp [D.sh]
  | .str _, _, _, _, _ => by simp [D.sh]
  | .dic _, _, _, _, e => by simp [D.sh] at e
  | .nd _, _, _, _, e => by simp [D.sh] at e
  | .obj _ _, _, _, _, e => by simp [D.sh] at e
  | .ref _, _, _, _, e => by simp [D.sh] at e
  | .scr _, _, _, _, e => by simp [D.sh] at e
theorem shL_up : ∀ (xs : List D) (n m : Nat), n ≤ m → shL xs n = true → shL xs m = true
  | [], _, _, _, _ => by simp [shL]
  | x :: xs, n, m, h, e => by
    unfold shL at e ⊢
    obtain ⟨e1, e2⟩ := ba2 e
    rw [sh_up x n m h e1, shL_up xs n m h e2]
    rfl
end
/-- deeds that can stand in rows -/
structure DlOk (dl : List D) : Prop where
  lp : lpB dl = true
  sh : ∀ d ∈ dl, d.sh 38 = true
  low : ∀ d ∈ dl, ∀ L, d.low L = true
abbrev RwOk (dl r : List D) : Prop := ∀ d ∈ r, d ∈ dl
section
variable {dl r q : List D} {st : Store}
theorem DlOk.lt (h : DlOk dl) (hr : RwOk dl r) (hq : RwOk dl q) : oLtL (.tup r) (.tup q) st = .ok (.bl (ltD (.tup r) (.tup q))) st := by
  have s1 := sh_rows h.sh hr
  have s2 := sh_rows h.sh hq
  have e : ∀ x : List D, (D.tup x).sh 39 = shL x 38 := fun x => by simp [D.sh]
  have s3 : (D.tup r).sh 40 = true := by simp only [D.sh]; exact sh_rows (n := 39) (fun d hd => sh_up d 38 39 (by omega) (h.sh d hd)) hr
  have s4 : (D.tup q).sh 40 = true := by simp only [D.sh]; exact sh_rows (n := 39) (fun d hd => sh_up d 38 39 (by omega) (h.sh d hd)) hq
  unfold oLtL
  rw [s3, s4, lpB_rows h.lp hr hq]
  rfl
theorem DlOk.min (h : DlOk dl) (hr : RwOk dl r) (hq : RwOk dl q) : oMin2 (.tup r) (.tup q) st = .ok (if ltD (.tup q) (.tup r) = true then .tup q else .tup r) st := by
  have s3 : (D.tup r).sh 40 = true := by simp only [D.sh]; exact sh_rows (n := 39) (fun d hd => sh_up d 38 39 (by omega) (h.sh d hd)) hr
  have s4 : (D.tup q).sh 40 = true := by simp only [D.sh]; exact sh_rows (n := 39) (fun d hd => sh_up d 38 39 (by omega) (h.sh d hd)) hq
  unfold oMin2
  rw [s3, s4, lpB_rows h.lp hr hq]
  rfl
theorem DlOk.lowr (h : DlOk dl) (hr : RwOk dl r) (L : Nat) : (D.tup r).low L = true := by
  have : ∀ {r : List D}, RwOk dl r → lowL L r = true := by
    intro r
    induction r with
    | nil => intro _; rfl
    | cons a r ih =>
      intro hr
      unfold lowL
      rw [h.low a (hr a List.mem_cons_self), ih fun d hd => hr d (List.mem_cons_of_mem _ hd)]
      rfl
  unfold D.low
  exact this hr
theorem RwOk.snoc (hr : RwOk dl r) {d : D} (hd : d ∈ dl) : RwOk dl (r ++ [d]) := fun x hx => by
  rcases List.mem_append.mp hx with h | h
  · exact hr x h
  · simp at h; subst h; exact hd
end
def minR (o : Option (List D)) (r : List D) : List D := match o with
  | none => r
  | some q => if ltD (.tup r) (.tup q) = true then r else q
theorem minR_id (o : Option (List D)) (r : List D) : minR (some (minR o r)) r = minR o r := by
  cases o with
  | none => unfold minR; dsimp only; split <;> rfl
  | some q =>
    unfold minR
    dsimp only
    by_cases h : ltD (.tup r) (.tup q) = true
    · rw [if_pos h]; split <;> rfl
    · rw [if_neg h, if_neg h]
theorem minR_ok {dl : List D} {o : Option (List D)} {r : List D} (ho : ∀ q, o = some q → RwOk dl q) (hr : RwOk dl r) : RwOk dl (minR o r) := by
  unfold minR
  split
  · exact hr
  · split
    · exact hr
    · exact ho _ rfl
/-! ### tables of words -/
abbrev TmF := S → Option (List D)
def putT (tm : TmF) (f : S → Bool) (r : List D) : TmF := fun v => if f v = true then some (minR (tm v) r) else tm v
def putW (tm : TmF) (r : List D) : List S → TmF
  | [] => tm
  | w :: ws => putW (fun v => if v = w then some (minR (tm v) r) else tm v) r ws
theorem putW_eq {r : List D} : ∀ (ws : List S) (tm : TmF), putW tm r ws = putT tm (fun v => decide (v ∈ ws)) r
  | [], tm => by funext v; simp [putW, putT]
  | w :: ws, tm => by
    rw [putW, putW_eq ws]
    funext v
    unfold putT
    by_cases h1 : v = w
    · subst h1
      by_cases h2 : v ∈ ws
      · simp [h2, minR_id]
      · simp [h2]
    · by_cases h2 : v ∈ ws
      · simp [h1, h2]
      · simp [h1, h2]
theorem putT_congr {tm : TmF} {f g : S → Bool} {r : List D} (h : ∀ v, f v = g v) : putT tm f r = putT tm g r := by
  rw [show f = g from funext h]
structure Mp (fs : List S) (kvs : List (D × D)) (tm : TmF) : Prop where
  ks : ∃ ks : List S, kvs.map (·.1) = ks.map .str ∧ ks.Nodup ∧ (∀ w ∈ ks, w ∈ fs) ∧ ∀ w, w ∈ ks ↔ (tm w).isSome = true
  get : ∀ w, dGet kvs (.str w) = (tm w).map .tup
section
variable {fs : List S} {kvs : List (D × D)} {tm : TmF} {w : S} {r dl : List D}
theorem Mp.nil : Mp fs [] fun _ => none := ⟨⟨[], rfl, List.nodup_nil, fun _ h => (by cases h), fun w => by simp⟩, fun _ => rfl⟩
theorem keyEq_str {v : S} : keyEq (.str v) (.str w) = decide (v = w) := rfl
theorem dGet_str : ∀ {kvs : List (D × D)} {ks : List S}, kvs.map (·.1) = ks.map .str → ((kvs.any fun p => keyEq p.1 (.str w)) = decide (w ∈ ks)) ∧ ((dGet kvs (.str w)).isSome = decide (w ∈ ks))
  | [], ks, e => by
    have : ks = [] := by simpa using e.symm
    subst this
    exact ⟨rfl, rfl⟩
  | p :: kvs, [], e => by simp at e
  | p :: kvs, k :: ks, e => by
    simp only [List.map_cons, List.cons.injEq] at e
    obtain ⟨h1, h2⟩ := dGet_str e.2
    have e1 : keyEq p.1 (.str w) = decide (k = w) := by rw [e.1]; rfl
    by_cases h : k = w
    · subst h
      refine ⟨by simp [e1], ?_⟩
      simp [dGet, List.find?_cons, e1]
    · have h' : ¬ w = k := fun e => h e.symm
      refine ⟨by rw [List.any_cons, e1, h1]; simp [h, h'], ?_⟩
      have : dGet (p :: kvs) (.str w) = dGet kvs (.str w) := by simp [dGet, List.find?_cons, e1, h]
      rw [this, h2]
      simp [h']
theorem dGet_str' (w : S) {kvs : List (D × D)} {ks : List S} (e : kvs.map (·.1) = ks.map .str) : ((kvs.any fun p => keyEq p.1 (.str w)) = decide (w ∈ ks)) ∧ ((dGet kvs (.str w)).isSome = decide (w ∈ ks)) := dGet_str e
theorem dGet_put : ∀ {kvs : List (D × D)} {ks : List S} {d : D} {v : S}, kvs.map (·.1) = ks.map .str → dGet (dPut kvs (.str w) d) (.str v) = if v = w then some d else dGet kvs (.str v) := by
  intro kvs ks d v e
  have map_case : ∀ {kvs : List (D × D)} {ks : List S}, kvs.map (·.1) = ks.map .str → dGet (kvs.map fun p => if keyEq p.1 (.str w) = true then (p.1, d) else p) (.str v) = if v = w ∧ w ∈ ks then some d else dGet kvs (.str v) := by
    intro kvs
    induction kvs with
    | nil =>
      intro ks e
      have : ks = [] := by simpa using e.symm
      subst this
      simp [dGet]
    | cons p kvs ih =>
      intro ks e
      cases ks with
      | nil => simp at e
      | cons k ks =>
        simp only [List.map_cons, List.cons.injEq] at e
        have e1 : ∀ w, keyEq p.1 (.str w) = decide (k = w) := fun w => by rw [e.1]; rfl
        have ih := ih e.2
        have cons_get : ∀ (q : D × D) (l : List (D × D)), q.1 = .str k → dGet (q :: l) (.str v) = if k = v then some q.2 else dGet l (.str v) := by
          intro q l hq
          have : keyEq q.1 (.str v) = decide (k = v) := by rw [hq]; rfl
          by_cases h : k = v
          · simp [dGet, List.find?_cons, this, h]
          · simp [dGet, List.find?_cons, this, h]
        rw [List.map_cons, cons_get _ _ (by split <;> exact e.1), cons_get _ _ e.1, ih]
        by_cases hk : k = v
        · by_cases hw : v = w
          · subst hk hw; simp [e1]
          · have : ¬ k = w := fun h => hw (hk ▸ h)
            simp [hk, hw, e1, this]
        · by_cases hw : v = w
          · have h1 : ¬ w = k := fun h => hk (by rw [hw, h])
            have h2 : ¬ k = w := fun h => h1 h.symm
            subst hw
            simp [h1, h2]
          · simp [hk, hw]
  unfold dPut
  have an := (dGet_str' w e).1
  rw [an]
  by_cases hm : w ∈ ks
  · rw [if_pos (decide_eq_true hm), map_case e]
    simp [hm]
  · rw [if_neg (by simpa using hm)]
    have go : dGet (kvs ++ [(.str w, d)]) (.str v) = (dGet kvs (.str v)).or (if w = v then some d else none) := by
      unfold dGet
      rw [List.find?_append]
      cases kvs.find? fun p => keyEq p.1 (.str v) with
      | some p => simp
      | none => simp [List.find?_cons, keyEq]; split <;> simp_all
    rw [go]
    by_cases hw : v = w
    · subst hw
      have : dGet kvs (.str v) = none := by
        have := (dGet_str' v e).2
        cases h : dGet kvs (.str v) with
        | none => rfl
        | some d => rw [h] at this; simp [hm] at this
      simp [this]
    · have : ¬ w = v := fun e => hw e.symm
      simp [hw, this]
theorem dPut_keys {ks : List S} {d : D} (e : kvs.map (·.1) = ks.map .str) : (dPut kvs (.str w) d).map (·.1) = (if w ∈ ks then ks else ks ++ [w]).map .str := by
  unfold dPut
  rw [(dGet_str' w e).1]
  by_cases hm : w ∈ ks
  · rw [if_pos (decide_eq_true hm), if_pos hm, ← e, List.map_map]
    refine List.map_congr_left fun p _ => ?_
    show (if keyEq p.1 (.str w) = true then (p.1, d) else p).1 = p.1
    split <;> rfl
  · rw [if_neg (by simpa using hm), if_neg hm]
    simp [e]
theorem Mp.put (m : Mp fs kvs tm) (hw : w ∈ fs) : Mp fs (dPut kvs (.str w) (.tup r)) fun v => if v = w then some r else tm v := by
  obtain ⟨ks, h1, h2, h3, h4⟩ := m.ks
  refine ⟨⟨_, dPut_keys h1, ?_, ?_, fun v => ?_⟩, fun v => ?_⟩
  · split
    · exact h2
    · rename_i h
      rw [List.nodup_append]
      refine ⟨h2, by simp, fun a ha b hb e => ?_⟩
      simp at hb
      subst hb e
      exact h ha
  · intro v hv
    split at hv
    · exact h3 v hv
    · rcases List.mem_append.mp hv with h | h
      · exact h3 v h
      · simp at h; subst h; exact hw
  · by_cases hv : v = w
    · subst hv
      split <;> simp_all
    · split <;> simp [h4, hv]
  · rw [dGet_put h1, m.get]
    split <;> simp_all
theorem Mp.put_at (m : Mp fs kvs tm) (hw : w ∈ fs) : Mp fs (dPut kvs (.str w) (.tup (minR (tm w) r))) fun v => if v = w then some (minR (tm v) r) else tm v := by
  have := m.put (r := minR (tm w) r) hw
  refine Eq.mp ?_ this
  congr 1
  funext v
  by_cases h : v = w
  · subst h; simp
  · simp [h]
theorem Mp.skip (m : Mp fs kvs tm) {q : List D} (h : tm w = some q) (hl : ltD (.tup r) (.tup q) = false) : Mp fs kvs fun v => if v = w then some (minR (tm v) r) else tm v := by
  refine Eq.mp ?_ m
  congr 1
  funext v
  by_cases e : v = w
  · subst e
    simp [h, minR, hl]
  · simp [e]
theorem Mp.ksOf (m : Mp fs kvs tm) (hf : ∀ w ∈ fs, okS w = true) (hl : fs.length ≤ 60) : ∃ ks : List S, ksOf kvs = some ks ∧ kvs.map (·.1) = ks.map .str ∧ ks.Nodup ∧ (∀ w, w ∈ ks ↔ (tm w).isSome = true) ∧ ∀ w ∈ ks, w ∈ fs := by
  obtain ⟨ks, h1, h2, h3, h4⟩ := m.ks
  refine ⟨ks, ?_, h1, h2, h4, h3⟩
  have hs : ssOf (kvs.map (·.1)) = some ks := by
    rw [h1]
    have : ∀ l : List S, ssOf (l.map .str) = some l := fun l => by
      induction l with
      | nil => rfl
      | cons x l ih => simp [ssOf, ih]
    exact this ks
  have len : ∀ {a b : List S}, a.Nodup → (∀ x ∈ a, x ∈ b) → a.length ≤ b.length := by
    intro a
    induction a with
    | nil => intro b _ _; exact Nat.zero_le _
    | cons x a ih =>
      intro b hn hs
      obtain ⟨n1, n2⟩ := List.nodup_cons.mp hn
      have hx := hs x List.mem_cons_self
      have := ih (b := b.erase x) n2 fun y hy => (List.mem_erase_of_ne (show y ≠ x from fun e => n1 (e ▸ hy))).mpr (hs y (List.mem_cons_of_mem _ hy))
      rw [List.length_erase_of_mem hx] at this
      have : 0 < b.length := List.length_pos_iff.mpr fun e => by rw [e] at hx; cases hx
      rw [List.length_cons]
      omega
  unfold FL.ksOf
  rw [hs]
  dsimp only
  rw [if_pos ⟨List.all_eq_true.mpr fun w hw => hf w (h3 w hw), h2, by have := len h2 h3; omega⟩]
theorem Mp.len (m : Mp fs kvs tm) (hl : fs.length ≤ 60) (hf : ∀ w ∈ fs, okS w = true) : kvs.length ≤ 60 := by
  obtain ⟨ks, h1, h2, h3, h4, h5⟩ := m.ksOf hf hl
  unfold FL.ksOf at h1
  split at h1
  · split at h1
    · rename_i h
      cases h1
      have := congrArg List.length h2
      simp at this
      omega
    · cases h1
  · cases h1
theorem Mp.or_ {kvs2 : List (D × D)} {tm2 : TmF} : True := trivial
end
/-! ### the search -/
section
variable {α : Type} [DecidableEq α]
abbrev Ly (α : Type) := List (α × List D)
def lyGet (l : Ly α) (y : α) : Option (List D) := (l.find? fun p => decide (p.1 = y)).map (·.2)
def setLy (l : Ly α) (y : α) (r : List D) : Ly α := if (l.any fun p => decide (p.1 = y)) = true then l.map (fun p => if p.1 = y then (p.1, r) else p) else l ++ [(y, r)]
def putL (kn : List α) (l : Ly α) (y : α) (r : List D) : Ly α := if y ∈ kn then l else match lyGet l y with
  | none => setLy l y r
  | some q => if ltD (.tup r) (.tup q) = true then setLy l y r else l
abbrev Nxf (α : Type) := α → List (D × α)
abbrev Fdf (α : Type) := α → α → S → Bool
def edge (fd : Fdf α) (kn : List α) (x : α) (row : List D) (t : Ly α × TmF) (p : D × α) : Ly α × TmF := (putL kn t.1 p.2 (row ++ [p.1]), putT t.2 (fd x p.2) (row ++ [p.1]))
def edges (fd : Fdf α) (kn : List α) (x : α) (row : List D) (t : Ly α × TmF) (ps : List (D × α)) : Ly α × TmF := ps.foldl (edge fd kn x row) t
def level (nf : Nxf α) (fd : Fdf α) (kn : List α) (t : Ly α × TmF) (l : Ly α) : Ly α × TmF := l.foldl (fun t p => edges fd kn p.1 p.2 t (nf p.1)) t
def lev (nf : Nxf α) (fd : Fdf α) (kn : List α) (l : Ly α) : Ly α × TmF := level nf fd kn ([], fun _ => none) l
def orT (a b : TmF) : TmF := fun w => (a w).or (b w)
def allIn (ws : List S) (tm : TmF) : Bool := ws.all fun w => (tm w).isSome
def sweepT (nf : Nxf α) (fd : Fdf α) (ws : List S) : Nat → Ly α → List α → TmF → TmF
  | 0, _, _, tm => tm
  | n + 1, l, kn, tm => if l = [] ∨ allIn ws tm = true then tm else sweepT nf fd ws n (lev nf fd kn l).1 (kn ++ (lev nf fd kn l).1.map (·.1)) (orT tm (lev nf fd kn l).2)
/-- what holds of a layer -/
structure LyOk (P : α → Prop) (dl : List D) (N : Nat) (kn : List α) (l : Ly α) : Prop where
  nd : (l.map (·.1)).Nodup
  new : ∀ p ∈ l, p.1 ∉ kn
  p : ∀ p ∈ l, P p.1 ∧ RwOk dl p.2 ∧ p.2.length ≤ N
structure TmOk (dl : List D) (fs : List S) (N : Nat) (tm : TmF) : Prop where
  r : ∀ w q, tm w = some q → RwOk dl q ∧ q.length ≤ N
  f : ∀ w, (tm w).isSome = true → w ∈ fs
variable {P : α → Prop} {dl : List D} {fs ws : List S} {N : Nat} {kn : List α} {l : Ly α} {x y : α} {r : List D} {tm : TmF} {nf : Nxf α} {fd : Fdf α}
theorem any_iff : ∀ {l : Ly α}, (l.any fun p => decide (p.1 = y)) = decide (y ∈ l.map (·.1))
  | [] => rfl
  | p :: l => by
    rw [List.any_cons, any_iff (l := l)]
    by_cases h : p.1 = y
    · simp [h]
    · have : ¬ y = p.1 := fun e => h e.symm
      simp [h, this]
theorem lyGet_mem {l : Ly α} {q : List D} (h : lyGet l y = some q) : (y, q) ∈ l := by
  obtain ⟨p, h1, h2⟩ := Option.map_eq_some_iff.mp h
  have h3 := List.mem_of_find?_eq_some h1
  have h4 := List.find?_some h1
  have h5 : p.1 = y := of_decide_eq_true h4
  subst h5 h2
  exact h3
theorem lyGet_none {l : Ly α} : (lyGet l y).isSome = decide (y ∈ l.map (·.1)) := by
  rw [← any_iff]
  unfold lyGet
  rw [Option.isSome_map]
  induction l with
  | nil => rfl
  | cons p l ih => by_cases h : p.1 = y <;> simp [List.find?_cons, h, ih]
theorem LyOk.nil : LyOk P dl N kn ([] : Ly α) := ⟨List.nodup_nil, fun _ h => (by cases h), fun _ h => (by cases h)⟩
theorem LyOk.set (h : LyOk P dl N kn l) (hy : y ∉ kn) (hp : P y) (hr : RwOk dl r) (hl : r.length ≤ N) : LyOk P dl N kn (setLy l y r) := by
  unfold setLy
  rw [any_iff]
  by_cases hm : y ∈ l.map (·.1)
  · rw [if_pos (decide_eq_true hm)]
    have e : (l.map fun p => if p.1 = y then (p.1, r) else p).map (·.1) = l.map (·.1) := by
      rw [List.map_map]
      refine List.map_congr_left fun p _ => ?_
      show (if p.1 = y then (p.1, r) else p).1 = p.1
      split <;> rfl
    refine ⟨by rw [e]; exact h.nd, fun p hp => ?_, fun p hp' => ?_⟩
    · obtain ⟨q, hq, rfl⟩ := List.mem_map.mp hp
      split
      · exact h.new q hq
      · exact h.new q hq
    · obtain ⟨q, hq, rfl⟩ := List.mem_map.mp hp'
      split
      · exact ⟨(h.p q hq).1, hr, hl⟩
      · exact h.p q hq
  · rw [if_neg (by simpa using hm)]
    refine ⟨?_, fun p hp' => ?_, fun p hp' => ?_⟩
    · rw [List.map_append, List.nodup_append]
      refine ⟨h.nd, by simp, fun a ha b hb e => ?_⟩
      simp at hb
      subst hb e
      exact hm ha
    · rcases List.mem_append.mp hp' with h' | h'
      · exact h.new p h'
      · simp at h'; subst h'; exact hy
    · rcases List.mem_append.mp hp' with h' | h'
      · exact h.p p h'
      · simp at h'; subst h'; exact ⟨hp, hr, hl⟩
theorem LyOk.put (h : LyOk P dl N kn l) (hp : P y) (hr : RwOk dl r) (hl : r.length ≤ N) : LyOk P dl N kn (putL kn l y r) := by
  unfold putL
  split
  · exact h
  · rename_i hy
    split
    · exact h.set hy hp hr hl
    · split
      · exact h.set hy hp hr hl
      · exact h
theorem minR_len {o : Option (List D)} (ho : ∀ q, o = some q → q.length ≤ N) (hr : r.length ≤ N) : (minR o r).length ≤ N := by
  unfold minR
  split
  · exact hr
  · split
    · exact hr
    · exact ho _ rfl
theorem TmOk.put (h : TmOk dl fs N tm) (hr : RwOk dl r) (hl : r.length ≤ N) {f : S → Bool} (hf : ∀ w, f w = true → w ∈ fs) : TmOk dl fs N (putT tm f r) := by
  refine ⟨fun w q e => ?_, fun w e => ?_⟩
  · unfold putT at e
    split at e
    · cases e
      exact ⟨minR_ok (fun q e => (h.r w q e).1) hr, minR_len (fun q e => (h.r w q e).2) hl⟩
    · exact h.r w q e
  · unfold putT at e
    split at e
    · rename_i hw; exact hf w hw
    · exact h.f w e
/-- what a search walks on -/
structure SrOk (P : α → Prop) (dl : List D) (fs : List S) (nf : Nxf α) (fd : Fdf α) : Prop where
  nx : ∀ x, P x → ∀ p ∈ nf x, P p.2 ∧ p.1 ∈ dl
  fd : ∀ x y w, fd x y w = true → w ∈ fs
theorem edges_ok (s : SrOk P dl fs nf fd) (hr : RwOk dl r) (hl : r.length < N) : ∀ (ps : List (D × α)) (t : Ly α × TmF), (∀ p ∈ ps, P p.2 ∧ p.1 ∈ dl) → LyOk P dl N kn t.1 → TmOk dl fs N t.2 → LyOk P dl N kn (edges fd kn x r t ps).1 ∧ TmOk dl fs N (edges fd kn x r t ps).2
  | [], t, _, h1, h2 => ⟨h1, h2⟩
  | p :: ps, t, hp, h1, h2 => by
    obtain ⟨a, b⟩ := hp p List.mem_cons_self
    exact edges_ok s hr hl ps (edge fd kn x r t p) (fun q hq => hp q (List.mem_cons_of_mem _ hq)) (h1.put a (hr.snoc b) (by simp; omega)) (h2.put (hr.snoc b) (by simp; omega) (s.fd x p.2))
theorem level_ok (s : SrOk P dl fs nf fd) {kn0 : List α} : ∀ (l : Ly α) (t : Ly α × TmF), (∀ p ∈ l, P p.1 ∧ RwOk dl p.2 ∧ p.2.length ≤ N) → LyOk P dl (N + 1) kn t.1 → TmOk dl fs (N + 1) t.2 → LyOk P dl (N + 1) kn (level nf fd kn t l).1 ∧ TmOk dl fs (N + 1) (level nf fd kn t l).2
  | [], t, _, h1, h2 => ⟨h1, h2⟩
  | p :: l, t, hl, h1, h2 => by
    obtain ⟨a, b, c⟩ := hl p List.mem_cons_self
    obtain ⟨e1, e2⟩ := edges_ok (x := p.1) (kn := kn) (N := N + 1) s b (by omega) (nf p.1) t (s.nx p.1 a) h1 h2
    exact level_ok s (kn0 := kn0) l _ (fun q hq => hl q (List.mem_cons_of_mem _ hq)) e1 e2
theorem lev_ok (s : SrOk P dl fs nf fd) {kn0 : List α} (h : LyOk P dl N kn0 l) : LyOk P dl (N + 1) kn (lev nf fd kn l).1 ∧ TmOk dl fs (N + 1) (lev nf fd kn l).2 :=
  level_ok s (kn0 := kn0) l _ h.p .nil ⟨fun w q e => (by cases e), fun w e => (by cases e)⟩
theorem orT_ok {M : Nat} {a b : TmF} (ha : TmOk dl fs N a) (hb : TmOk dl fs M b) (hM : N ≤ M) : TmOk dl fs M (orT a b) := by
  refine ⟨fun w q e => ?_, fun w e => ?_⟩
  · unfold orT at e
    cases h : a w with
    | some q' => rw [h] at e; cases e; exact ⟨(ha.r w _ h).1, Nat.le_trans (ha.r w _ h).2 hM⟩
    | none => rw [h] at e; exact hb.r w q e
  · unfold orT at e
    cases h : a w with
    | some q' => exact ha.f w (by rw [h]; rfl)
    | none => rw [h] at e; exact hb.f w (by simpa using e)
/-! ### as dicts of nested keys -/
def ndK (K : α → D) (V : α × List D → D) (l : Ly α) : List (D × D) := l.map fun p => (K p.1, V p)
def knK (K : α → D) (kn : List α) : List (D × D) := kn.map fun a => (K a, .bl true)
variable {K : α → D} {V : α × List D → D}
theorem ndK_get (hK : ∀ p ∈ l, nkEq (K p.1) (K y) = decide (p.1 = y)) : ndGet (ndK K V l) (K y) = (l.find? fun p => decide (p.1 = y)).map V := by
  unfold ndGet ndK
  rw [List.find?_map, Option.map_map]
  congr 1
  have : ∀ l : Ly α, (∀ p ∈ l, nkEq (K p.1) (K y) = decide (p.1 = y)) → l.find? ((fun p => nkEq p.1 (K y)) ∘ fun p => (K p.1, V p)) = l.find? fun p => decide (p.1 = y) := by
    intro l
    induction l with
    | nil => intro _; rfl
    | cons p l ih =>
      intro h
      have h1 := h p List.mem_cons_self
      rw [List.find?_cons, List.find?_cons, ih fun q hq => h q (List.mem_cons_of_mem _ hq)]
      have h2 : ((fun p => nkEq p.1 (K y)) ∘ fun p => (K p.1, V p)) p = decide (p.1 = y) := h1
      rw [h2]
  exact this l hK
theorem ndK_get' (hK : ∀ p ∈ l, nkEq (K p.1) (K y) = decide (p.1 = y)) : ndGet (ndK K V l) (K y) = (lyGet l y).map fun q => V (y, q) := by
  rw [ndK_get hK]
  unfold lyGet
  cases h : l.find? fun p => decide (p.1 = y) with
  | none => rfl
  | some p =>
    have h4 := List.find?_some h
    have h5 : p.1 = y := of_decide_eq_true h4
    subst h5
    rfl
theorem ndK_any (hK : ∀ p ∈ l, nkEq (K p.1) (K y) = decide (p.1 = y)) : ((ndK K V l).any fun p => nkEq p.1 (K y)) = l.any fun p => decide (p.1 = y) := by
  unfold ndK
  rw [List.any_map]
  have : ∀ l : Ly α, (∀ p ∈ l, nkEq (K p.1) (K y) = decide (p.1 = y)) → l.any ((fun p => nkEq p.1 (K y)) ∘ fun p => (K p.1, V p)) = l.any fun p => decide (p.1 = y) := by
    intro l
    induction l with
    | nil => intro _; rfl
    | cons p l ih =>
      intro h
      have h1 := h p List.mem_cons_self
      rw [List.any_cons, List.any_cons, ih fun q hq => h q (List.mem_cons_of_mem _ hq)]
      show (nkEq (K p.1) (K y) || _) = _
      rw [h1]
  exact this l hK
theorem ndK_put (hK : ∀ p ∈ l, nkEq (K p.1) (K y) = decide (p.1 = y)) : ndPut (ndK K V l) (K y) (V (y, r)) = ndK K V (setLy l y r) := by
  unfold ndPut setLy
  rw [ndK_any hK]
  split
  · unfold ndK
    rw [List.map_map, List.map_map]
    refine List.map_congr_left fun p hp => ?_
    show (if nkEq (K p.1) (K y) = true then (K p.1, V (y, r)) else (K p.1, V p)) = (K (if p.1 = y then (p.1, r) else p).1, V (if p.1 = y then (p.1, r) else p))
    rw [hK p hp]
    by_cases h : p.1 = y
    · subst h; simp
    · simp [h]
  · simp [ndK]
theorem knK_get {kn : List α} (hK : ∀ a ∈ kn, nkEq (K a) (K y) = decide (a = y)) : (ndGet (knK K kn) (K y)).isSome = decide (y ∈ kn) := by
  have e : knK K kn = ndK K (fun _ => .bl true) (kn.map fun a => (a, [])) := by unfold knK ndK; rw [List.map_map]; rfl
  rw [e, ndK_get' (fun p hp => by obtain ⟨a, ha, rfl⟩ := List.mem_map.mp hp; exact hK a ha), Option.isSome_map, lyGet_none, List.map_map]
  have : kn.map ((fun p : α × List D => p.1) ∘ fun a => (a, [])) = kn := by
    rw [show ((fun p : α × List D => p.1) ∘ fun a => (a, [])) = id from rfl, List.map_id]
  rw [this]
theorem knK_put {kn : List α} (hK : ∀ a ∈ kn, nkEq (K a) (K y) = decide (a = y)) (hy : y ∉ kn) : ndPut (knK K kn) (K y) (.bl true) = knK K (kn ++ [y]) := by
  unfold ndPut
  have : ((knK K kn).any fun p => nkEq p.1 (K y)) = false := by
    unfold knK
    rw [List.any_map, List.any_eq_false]
    intro a ha
    show ¬ nkEq (K a) (K y) = true
    rw [hK a ha]
    simp
    exact fun e => hy (e ▸ ha)
  rw [if_neg (by rw [this]; simp)]
  simp [knK]
end
end FL
end
section
set_option Elab.async false
set_option linter.all false
set_option maxRecDepth 100000
/-! FNF: plain: a search that ends with the first layer that tells rows. -/
namespace FL
open PySem PySem.Spec PyProof.Rows L2
section
variable {α : Type} [DecidableEq α]
/-- one edge: a row is told where pf holds of what is behind -/
def edgeP (pf : α → Bool) (kn : List α) (row : List D) (t : Ly α × List (List D)) (p : D × α) : Ly α × List (List D) := (putL kn t.1 p.2 (row ++ [p.1]), if pf p.2 = true then t.2 ++ [row ++ [p.1]] else t.2)
def edgesP (pf : α → Bool) (kn : List α) (row : List D) (t : Ly α × List (List D)) (ps : List (D × α)) : Ly α × List (List D) := ps.foldl (edgeP pf kn row) t
def levelP (nf : Nxf α) (pf : α → Bool) (kn : List α) (t : Ly α × List (List D)) (l : Ly α) : Ly α × List (List D) := l.foldl (fun t p => edgesP pf kn p.2 t (nf p.1)) t
def levP (nf : Nxf α) (pf : α → Bool) (kn : List α) (l : Ly α) : Ly α × List (List D) := levelP nf pf kn ([], []) l
/-- the least of rows -/
def minRows : List (List D) → Option (List D)
  | [] => none
  | x :: r => some (r.foldl (fun a y => if ltD (.tup y) (.tup a) = true then y else a) x)
def partT (nf : Nxf α) (pf : α → Bool) : Nat → Ly α → List α → Option (List D)
  | 0, _, _ => none
  | n + 1, l, kn => if l = [] then none else match minRows (levP nf pf kn l).2 with
    | some r => some r
    | none => partT nf pf n (levP nf pf kn l).1 (kn ++ (levP nf pf kn l).1.map (·.1))
structure RsOk (dl : List D) (N : Nat) (rs : List (List D)) : Prop where
  r : ∀ r ∈ rs, RwOk dl r ∧ r.length ≤ N
structure SpOk (P : α → Prop) (dl : List D) (nf : Nxf α) : Prop where
  nx : ∀ x, P x → ∀ p ∈ nf x, P p.2 ∧ p.1 ∈ dl
variable {P : α → Prop} {dl : List D} {N : Nat} {kn : List α} {l : Ly α} {x y : α} {r : List D} {nf : Nxf α} {pf : α → Bool}
theorem edgesP_ok (s : SpOk P dl nf) (hr : RwOk dl r) (hl : r.length < N) : ∀ (ps : List (D × α)) (t : Ly α × List (List D)), (∀ p ∈ ps, P p.2 ∧ p.1 ∈ dl) → LyOk P dl N kn t.1 → RsOk dl N t.2 → LyOk P dl N kn (edgesP pf kn r t ps).1 ∧ RsOk dl N (edgesP pf kn r t ps).2
  | [], t, _, h1, h2 => ⟨h1, h2⟩
  | p :: ps, t, hp, h1, h2 => by
    obtain ⟨a, b⟩ := hp p List.mem_cons_self
    refine edgesP_ok s hr hl ps (edgeP pf kn r t p) (fun q hq => hp q (List.mem_cons_of_mem _ hq)) (h1.put a (hr.snoc b) (by simp; omega)) ?_
    unfold edgeP
    dsimp only
    split
    · refine ⟨fun q hq => ?_⟩
      rcases List.mem_append.mp hq with hq | hq
      · exact h2.r q hq
      · simp at hq; subst hq; exact ⟨hr.snoc b, by simp; omega⟩
    · exact h2
theorem levelP_ok (s : SpOk P dl nf) : ∀ (l : Ly α) (t : Ly α × List (List D)), (∀ p ∈ l, P p.1 ∧ RwOk dl p.2 ∧ p.2.length ≤ N) → LyOk P dl (N + 1) kn t.1 → RsOk dl (N + 1) t.2 → LyOk P dl (N + 1) kn (levelP nf pf kn t l).1 ∧ RsOk dl (N + 1) (levelP nf pf kn t l).2
  | [], t, _, h1, h2 => ⟨h1, h2⟩
  | p :: l, t, hl, h1, h2 => by
    obtain ⟨a, b, c⟩ := hl p List.mem_cons_self
    obtain ⟨e1, e2⟩ := edgesP_ok (kn := kn) (pf := pf) (N := N + 1) s b (by omega) (nf p.1) t (s.nx p.1 a) h1 h2
    exact levelP_ok s l _ (fun q hq => hl q (List.mem_cons_of_mem _ hq)) e1 e2
theorem minRows_ok {rs : List (List D)} (h : RsOk dl N rs) (e : minRows rs = some r) : RwOk dl r ∧ r.length ≤ N := by
  cases rs with
  | nil => cases e
  | cons x xs =>
    simp only [minRows, Option.some.injEq] at e
    have key : ∀ (xs : List (List D)) (a : List D), (RwOk dl a ∧ a.length ≤ N) → (∀ q ∈ xs, RwOk dl q ∧ q.length ≤ N) → RwOk dl (xs.foldl (fun a y => if ltD (.tup y) (.tup a) = true then y else a) a) ∧ (xs.foldl (fun a y => if ltD (.tup y) (.tup a) = true then y else a) a).length ≤ N := by
      intro xs
      induction xs with
      | nil => intro a ha _; exact ha
      | cons y ys ih =>
        intro a ha hx
        refine ih _ ?_ fun q hq => hx q (List.mem_cons_of_mem _ hq)
        dsimp only
        split
        · exact hx y List.mem_cons_self
        · exact ha
    rw [← e]
    exact key xs x (h.r x List.mem_cons_self) fun q hq => h.r q (List.mem_cons_of_mem _ hq)
end
end FL
end
section
set_option Elab.async false
set_option linter.all false
set_option maxRecDepth 100000
set_option maxHeartbeats 4000000
/-! FNG: caught errors as data: kept by a name, handed to defs, asked by isinstance, their fields. -/
namespace FL
open PySem PySem.Spec PyProof.Rows L2
open PySem.W (kitOne Frag)
/-! ### e.__class__ of an error, with fields or without -/
section
variable {prog : Program} {w : World} {A : Around} {E : Value → Shared → Prop} {s : Shared} {K : Frag} {x D : Addr} {ox : Obj} {od : Option Obj}
theorem xcls {Q : Option Value → Shared → Prop} (c : ExcC K D) (X : K.In s.heap) (I : PySem.W.InstAt s.heap x ox D od) (h : Q (some (.ref D)) { s with toks := s.toks + 1 }) :
    wpAny (model prog w) A (getAttr? (.ref x) "__class__") Q E s := by
  obtain ⟨cd, hc, hc2⟩ := PySem.W.any_some c.hd
  clear hc2
  have hf : PySem.W.findObj K D od "__class__" = some (.bind (.builtin "getset_descriptor.__get__") (.builtin "object.__class__")) := by
    have hc' : PySem.W.clsIn K D = some cd := hc
    unfold PySem.W.findObj
    rw [hc', Option.bind_some, c.ha, Option.bind_some]
    simp [c.hn, c.ht]
  obtain ⟨hp, g, d, t, os⟩ := s
  have A0 := I.type (M := model prog w)
  have A1 := PySem.W.looks_findIn (M := model prog w) X c.hg
  have A2 := PySem.W.looks_findIn (M := model prog w) X c.hk
  have A3 := PySem.W.looks_find (M := model prog w) X I hf
  have As : PySem.W.Looks (model prog w) hp (isInstance (.ref x) (.type "BaseException")) true := A0.andThen (PySem.W.looks_subIn X c.hs)
  have z1 : (Value.builtin "BaseException.__getattribute__" == Value.builtin "object.__getattribute__") = false := by decide +kernel
  have z2 : (onTheHeap (Value.ref D) && Value.builtin "BaseException.__getattribute__" == Value.builtin "object.__getattribute__") = false := by rw [z1]; rfl
  have z3 : (false && onTheHeap (Value.builtin "BaseException.__getattribute__")) = false := rfl
  unfold getAttr? getAttrBy? getAttrBy
  refine wpAny_bind (wpAny_mkText (wpAny_bind (wpAny_attempt (wpAny_holding (wpAny_bind (A0.at (wpAny_bind (A1.at ?_))))))))
  show wpAny _ _ (if (onTheHeap (Value.ref D) && Value.builtin "BaseException.__getattribute__" == Value.builtin "object.__getattribute__") = true then _ else _) _ _ _
  rw [z2, if_neg Bool.false_ne_true]
  unfold getAttrByItsOwn hookBefore
  refine wpAny_bind ?_
  rw [if_pos (show onTheHeap (Value.ref D) = true from rfl)]
  refine A2.at ?_
  refine wpAny_bind (wpAny_attempt (wpAny_holding ?_))
  unfold callGetattribute
  rw [z3, if_neg Bool.false_ne_true]
  unfold boundAndCalled
  rw [PySem.F.excAttr_ValueError.ga.bind (.ref x)]
  refine wpAny_bind (wpAny_pure ?_)
  show wpAny _ _ (call (.builtin "BaseException.__getattribute__") [.ref x, .str "__class__" t]) _ _ _
  refine wpAny_call (codeAny_call_builtin PySem.F.excAttr_ValueError.ga.plain PySem.F.entry_bexc_ga ?_)
  refine @PySem.W.check_slot (model prog w) _ _ ⟨hp, g, d, t + 1, os⟩ "BaseException.__getattribute__" "BaseException" "__getattribute__" (.ref x) [.str "__class__" t] [] _ (by decide +kernel) (by decide +kernel) As (PySem.F.args_bexc_ga (.ref x) (.str "__class__" t)) ?_
  unfold Builtin.«object.__getattribute__»
  refine wpAny_bind (wpAny_of_eq (a := ((Value.ref x : Value), [Value.str "__class__" t])) (by first | rfl | (simp only [slotArgs]; rfl)) ?_)
  refine wpAny_bind (wpAny_pure (wpAny_bind (A0.at (wpAny_bind (A3.at ?_)))))
  show wpAny _ _ (holding [Value.builtin "object.__class__"] (call (.builtin "getset_descriptor.__get__") [.builtin "object.__class__", .ref x, .ref D]) >>= ret) _ _ _
  refine wpAny_bind (wpAny_holding (wpAny_call (PySem.W.class_get (s := ⟨hp, g, d, t + 1, os⟩) (ox := ox) (od := od) X I c.hm ?_)))
  refine wpAny_pure ?_
  show wpAny _ _ (handedOut (.ref D)) _ _ _
  rw [PySem.W.handedOut_of (v := .ref D) rfl]
  first
    | exact wpAny_pure (wpAny_pure h)
    | exact wpAny_pure h
    | exact wpAny_pure (wpAny_bind (wpAny_pure (wpAny_pure h)))
theorem xkit (c : ExcC K D) : PySem.W.KitX K (.ref x) (.ref D) (fun h => PySem.W.InstAt h x ox D od) := by
  have z := PySem.W.handS_kitx_exc (x := x) (ox := ox) c.hg c.hk c.hs c.hd c.ha c.hn c.ht c.hm
  obtain ⟨cd, hc, hc2⟩ := PySem.W.any_some c.hd
  clear hc2
  refine ⟨fun _ _ _ I => I.type, fun M h X _ => ?_, fun h tp dd its n sl X htp => ?_, fun X I k => xcls c X I k⟩
  · unfold PySem.W.clsIn at hc
    split at hc
    · rename_i c' d' cd' sl' ho
      intro A' Q' E' s' k q
      unfold isType loadHead
      exact wpAny_bind (wpAny_loadPart (k _ _ (X _ _ ho)) (wpAny_pure q))
    · cases hc
  · exact z.ne h tp dd its n sl X htp
end
theorem excB_ok {K : Frag} {c : S} (h : excB K c = true) : ExcC K (He.ga K (toS c)) := by
  obtain ⟨h1, h⟩ := ba2 h
  obtain ⟨h2, h⟩ := ba2 h
  obtain ⟨h3, h⟩ := ba2 h
  obtain ⟨h4, h⟩ := ba2 h
  obtain ⟨h5, h⟩ := ba2 h
  obtain ⟨h6, h⟩ := ba2 h
  obtain ⟨h7, h8⟩ := ba2 h
  exact ⟨of_decide_eq_true h1, of_decide_eq_true h2, of_decide_eq_true h3, h4, of_decide_eq_true h5, of_decide_eq_true h6, of_decide_eq_true h7, of_decide_eq_true h8⟩
/-- an error's object, seen in the heap -/
theorem exn_inst {X : Cx} {pins : List (Addr × Obj)} {σ : L2.St} {W : Wd} {s : Shared} {v : V} {c : S} {ds : List (S × D)} (I : Inv X pins σ W.H s) (h : Den (gc X) W v (.exn c ds)) :
    ∃ (a : Addr) (oe : Obj) (od : Option Obj), v = .ref a ∧ PySem.W.InstAt s.heap a oe (cA X c) od ∧ ((ds = [] ∧ od = none) ∨ ∃ (o : Obj) (fs : List (Str × V)), od = some o ∧ fs.map (·.1) = ds.map (fun p => toS p.1) ∧ DenL (gc X) W (fs.map (·.2)) (ds.map (·.2)) ∧ ∀ n, RelO (fs.lookup n) ((PySem.W.lookIn n o).getD none) ∧ (PySem.W.lookIn n o).isSome = true) := by
  cases h with
  | @exn a oe dd _ fs _ h1 h2 h3 h4 h5 h6 h7 =>
    obtain ⟨ha, _⟩ : s.heap.get? a = some oe ∧ _ := I.hok a _ h1
    obtain ⟨vs, hv⟩ := h4
    obtain ⟨z1, z2⟩ := h3
    cases fs with
    | nil =>
      have hdd : dd = none := h5
      subst hdd
      have hds : ds = [] := by
        cases ds with
        | nil => rfl
        | cons p r => cases h6
      exact ⟨a, oe, none, rfl, ⟨ha, z1, by unfold PySem.W.notCls; rw [hv] <;> rfl, by rw [z2]; trivial⟩, .inl ⟨hds, rfl⟩⟩
    | cons p r =>
      obtain ⟨dx, rfl, hdx, _⟩ := h5
      obtain ⟨mA, hns, hr⟩ : ∃ mA, s.heap.Ns1 dx mA ∧ ∀ f, RelO ((p :: r).lookup f) (mA f) := I.hok dx _ hdx
      obtain ⟨od, ho, hl⟩ := lookIn_ns hns
      exact ⟨a, oe, some od, rfl, ⟨ha, z1, by unfold PySem.W.notCls; rw [hv] <;> rfl, by rw [z2]; exact ho⟩, .inr ⟨od, p :: r, rfl, h6, h7, fun n => by rw [hl]; exact ⟨hr n, rfl⟩⟩⟩
/-! ### isinstance(e, C) -/
def oIsX (cs : List (S × Bool)) (d : D) (st : Store) : Res D := match d with
  | .exn c _ => match cs.lookup c with
    | some b => .ok (.bl b) st
    | none => .no
  | _ => .no
theorem call_isX {X : Cx} {cs : List (S × Bool)} {c : V} {cv : Value} (hc : ∀ p ∈ cs, isxB X.K cv p = true) (hcv : ∀ u, RelV c u → u = cv) :
    CallR X (.builtin "isinstance") (fun xs H Q => ∃ (W : Wd) (v : V) (d : D) (b : Bool), xs = [v, c] ∧ W.H = H ∧ Den (gc X) W v d ∧ oIsX cs d W.st = .ok (.bl b) W.st ∧ Q (.bl b) H) := by
  intro pins s σ H xs us Q I r h
  obtain ⟨W, v, d, b, rfl, rfl, hv, e, q⟩ := h
  cases r with
  | cons rx rr =>
    cases rr with
    | cons rt rr =>
      cases rr
      have ec := hcv _ rt
      subst ec
      cases d with
      | exn c' ds =>
        dsimp only [oIsX] at e
        cases hl : cs.lookup c' with
        | none => rw [hl] at e; cases e
        | some b' =>
          rw [hl] at e
          cases e
          obtain ⟨k1, k2⟩ := ba2 (hc _ (lookup_mem hl))
          obtain ⟨a, oe, od, rfl, J, _⟩ := exn_inst I hv
          cases rx
          exact PySem.W.kia_one (xkit (excB_ok k1)) I.kIn J (of_decide_eq_true k2) (fun z => nomatch z) fun tk => ⟨.bl b, _, I.kept (t' := tk) fun _ _ z => z, rfl, q⟩
      | _ => cases e
section
variable {X : Cx} {Wx : WX} {pos p q : Pos} {e : Expr} {m : Me}
theorem isX_read {σ : L2.St} {H : Hp} {Q : V → Hp → Prop} {cs : List (S × Bool)} {c : V} (h : fE (gc X) Wx (a1 (oIsX cs) m) σ H Q) :
    fE (gc X) Wx m σ H fun v H1 => ∃ (W : Wd) (v' : V) (d : D) (b : Bool), [v, c] = [v', c] ∧ W.H = H1 ∧ Den (gc X) W v' d ∧ oIsX cs d W.st = .ok (.bl b) W.st ∧ Q (.bl b) H1 := by
  refine fG_mono (lift1 h) fun v H' ⟨W, d, e0, s, hd, p⟩ => ?_
  subst e0
  cases d with
  | exn c' ds =>
    dsimp only [oIsX] at p
    cases hl : cs.lookup c' with
    | none => rw [hl] at p; exact p.elim
    | some b =>
      rw [hl] at p
      exact ⟨W, v, .exn c' ds, b, rfl, rfl, hd, by dsimp only [oIsX]; rw [hl], p W (Ext.refl W) s rfl _ (.bl _)⟩
  | _ => exact p.elim
theorem e_isXC {C : S} (cs : List (S × Bool)) (hg : Gl X "isinstance") (hm : X.mg "isinstance" = none) {x : Str} (hgx : Gl X x) (hmx : X.mg x = some (.ref (He.ga X.K (toS C)))) (hc : ∀ c ∈ cs, isxB X.K (.ref (He.ga X.K (toS C))) c = true) (he : PE X e (fE (gc X) Wx m))
    (hd : (x == ("__debug__" : Str)) = false := by decide)
    (h1 : starEach [e, .Name x q] X.env = (false, eval e X.env) :: starEach [.Name x q] X.env := by rfl) (hpl : (backTo pos (starEach [.Name x q] X.env)).any (·.1) = false := by rfl) :
    PE X (.Call (.Name "isinstance" p) [e, .Name x q] [] pos) (fE (gc X) Wx (a1 (oIsX cs) m)) :=
  PE.imp (pe_callB (call_isX (c := .ref (He.ga X.K (toS C))) hc fun u z => z) hg hm boot_isinstance (pa_cons he (pa_cons (pe_glob hgx hmx (v := .ref (He.ga X.K (toS C))) rfl hd) pa_nil) h1) (he := h1) (hpl := hpl)) fun σ H Q h => isX_read h
theorem e_isXT {T : String} (cs : List (S × Bool)) (hg : Gl X "isinstance") (hm : X.mg "isinstance" = none) {x : Str} (hgx : Gl X x) (hmx : X.mg x = none) (hv : bootBuiltins x = some (.type T)) (hc : ∀ c ∈ cs, isxB X.K (.type T) c = true) (he : PE X e (fE (gc X) Wx m))
    (hn : x ≠ "__name__" := by decide) (hd : (x == ("__debug__" : Str)) = false := by decide)
    (h1 : starEach [e, .Name x q] X.env = (false, eval e X.env) :: starEach [.Name x q] X.env := by rfl) (hpl : (backTo pos (starEach [.Name x q] X.env)).any (·.1) = false := by rfl) :
    PE X (.Call (.Name "isinstance" p) [e, .Name x q] [] pos) (fE (gc X) Wx (a1 (oIsX cs) m)) :=
  PE.imp (pe_callB (call_isX (c := .ty T) hc fun u z => z) hg hm boot_isinstance (pa_cons he (pa_cons (pe_bltn hgx hmx hv (v := .ty T) rfl hn hd) pa_nil) h1) (he := h1) (hpl := hpl)) fun σ H Q h => isX_read h
end
/-! ### e.f -/
def oXf (cs : List S) (f : S) (d : D) (st : Store) : Res D := match d with
  | .exn c fs => if cs.contains c = true then (match fs.lookup f with
    | some v => .ok v st
    | none => .no) else .no
  | _ => .no
theorem e_xf {X : Cx} {Wx : WX} {e : Expr} {pos : Pos} {m : Me} {f : S} {F : Str} (cs : List S) (hF : F = toS f) (hc : ∀ c ∈ cs, xfB X.K (cA X c) = true) (hno : ∀ c ∈ cs, PySem.W.findIn X.K (.ref (cA X c)) (toS f) = some none) (he : PE X e (fE (gc X) Wx m))
    (hb : attributeBase e F X.env (eval e X.env) = eval e X.env := by rfl) :
    PE X (.Attribute e F pos) (fE (gc X) Wx (a1 (oXf cs f) m)) := by
  subst hF
  refine ⟨fun pins s σ H Q I h => ?_⟩
  refine attr_of hb (thn (he.run pins s σ H _ I (lift1 h)) fun u s1 hh => ?_)
  obtain ⟨x, H1, I1, rx, W, d, rfl, sr, hd, p⟩ := hh
  cases d with
  | exn c ds =>
    dsimp only [oXf] at p
    split at p
    · rename_i hcs
      have hm := List.contains_iff_mem.mp hcs
      cases hl : ds.lookup f with
      | none => rw [hl] at p; exact p.elim
      | some v =>
        rw [hl] at p
        obtain ⟨a, oe, od, rfl, J, hod⟩ := exn_inst I1 hd
        obtain rfl : u = Value.ref a := rx
        rcases hod with ⟨z, _⟩ | ⟨o, fs, rfl, k1, k2, k3⟩
        · subst z; cases hl
        · obtain ⟨y, hy, hyd⟩ := lookup_den k1 k2 hl
          have T := xfB_ok (hc c hm)
          obtain ⟨r1, r2⟩ := k3 (toS f)
          obtain ⟨ov, hov⟩ := Option.isSome_iff_exists.mp r2
          rw [hov, hy] at r1
          obtain ⟨w, hw, rw'⟩ := RelO.some_of (v := y) (o := ov) r1
          subst hw
          exact HandSPX.exc_get I1.kIn J T.ga T.gg T.exC (PySem.W.findObj_own T.hdC (hno c hm) rfl hov) (handed_of rw') ⟨y, W.H, I1.tok _, rw', p W (Ext.refl W) sr rfl _ hyd⟩
    · exact p.elim
  | _ => exact p.elim
end FL
end
section
set_option Elab.async false
set_option linter.all false
set_option maxRecDepth 100000
set_option maxHeartbeats 4000000
/-! FNH: try: .. except C as n: a suite that has the error by its name. -/
namespace FL
open PySem PySem.Spec PyProof.Rows L2
abbrev exH (a : Addr) (oe : Obj) : HO := .frz oe (.ext fun h => h.get? a = some oe)
/-- the handled error is tracked, its context is None -/
def HotA (A : Around) (H : Hp) : Prop := ∃ (a : Addr) (oe : Obj) (vs : Array Value) (u : HO), A.handled = some (.ref a) ∧ H a = some (.frz oe u) ∧ oe.data = .fields vs ∧ vs[2]? = some .none
def HotS (X : Cx) : Prop := HotA X.A X.H_0
theorem HotS.to {X : Cx} {pins : List (Addr × Obj)} {σ : L2.St} {H : Hp} {s : Shared} (c : HotS X) (I : Inv X pins σ H s) : HotA X.A H := by
  obtain ⟨a, oe, vs, u, h1, h2, h3, h4⟩ := c
  exact ⟨a, oe, vs, u, h1, I.base.frzs _ _ _ h2, h3, h4⟩
theorem HotS.at {X : Cx} {pins : List (Addr × Obj)} {σ : L2.St} {H : Hp} {s : Shared} (c : HotS X) (I : Inv X pins σ H s) : ∃ x1, HotX.HotAt X.A x1 s.heap := by
  obtain ⟨a, oe, vs, u, h1, h2, h3, h4⟩ := c.to I
  obtain ⟨e, _⟩ : s.heap.get? a = some oe ∧ _ := I.hok a _ h2
  exact ⟨a, h1, oe, vs, e, h3, h4⟩
/-- the context of a suite that has the error by its name -/
abbrev sxH (X : Cx) (a : Addr) (oe : Obj) (pn : List (Addr × Obj)) : Cx := { X.suite a pn with H_0 := upd X.H_0 a (exH a oe) }
section
variable {X : Cx} {pins : List (Addr × Obj)} {σ : L2.St} {H : Hp} {s : Shared}
/-- within the suite: the error is one more thing that is tracked -/
theorem suiteH (I : Inv X pins σ H s) {a : Addr} {oe : Obj} {vs : Array Value} (ha : s.heap.get? a = some oe) (hd : oe.data = .fields vs) (na : H a = none) (nL : a ≠ X.env.locals) (nF : a ∉ X.fs)
    (hnew : ∀ o, X.s_0.heap.get? a = some o → a ∉ X.ex → False) (hp : ∀ p ∈ X.pn ++ pins, p.1 ≠ a) : Inv (sxH X a oe (X.pn ++ pins)) [] σ (upd H a (exH a oe)) s := by
  have hne : ∀ {b : Addr}, b ≠ a → upd H a (exH a oe) b = H b := fun h => upd_ne h
  have hne0 : ∀ {b : Addr}, b ≠ a → upd X.H_0 a (exH a oe) b = X.H_0 b := fun h => upd_ne h
  have hst : ∀ {b : Addr} {u : HO}, H b = some u → upd H a (exH a oe) b = some u := fun {b u} e => by
    rw [hne (fun z => by rw [z, na] at e; cases e)]; exact e
  have h0n : ∀ {b : Addr}, upd X.H_0 a (exH a oe) b = none → X.H_0 b = none := fun {b} e => by
    by_cases hb : b = a
    · rw [hb, upd_same] at e; cases e
    · rw [hne0 hb] at e; exact e
  have ok := I.ok
  have ok' : (sxH X a oe (X.pn ++ pins)).Ok := by
    refine ⟨ok.mod, ok.kind, ok.glob, ok.blt, ok.above, ok.inj, ok.has, ok.cab, (fun z => absurd (show false = true from z) Bool.false_ne_true), ok.frames, ok.stk, ok.exf, fun b o e => ?_, ok.bsz, ok.noex, ok.exfs, ok.funs, fun b hb => ?_⟩
    · obtain ⟨k1, k2⟩ := ok.bs b o e
      refine ⟨k1, ?_⟩
      show upd X.H_0 a (exH a oe) b = none
      rw [hne0 (fun z => by subst z; exact hnew o k1 (ok.noex b o e))]
      exact k2
    · show upd X.H_0 a (exH a oe) b = none
      rw [hne0 (fun z => by subst z; exact nF hb)]
      exact ok.frf b hb
  refine ⟨ok', I.os, I.bare, ⟨fun b o e n => I.base.keep b o e (h0n n), fun b o e n => I.base.slot b o e (h0n n), fun b o e n hx => ?_, I.base.there, fun b xs e => ?_, fun b o u e => ?_, fun b ps e => ?_⟩, I.loc, I.cell, ?_, fun x c e => ?_, fun p hq => ?_, fun b o e => ?_, I.len⟩
  · have n : upd X.H_0 a (exH a oe) b = none := n
    by_cases hb : b = a
    · subst hb; exact (hnew o e hx).elim
    · rw [hne hb]; exact I.base.free b o e (h0n n) hx
  · have e : upd X.H_0 a (exH a oe) b = some (.tup xs) := e
    by_cases hb : b = a
    · rw [hb, upd_same] at e; cases e
    · rw [hne0 hb] at e
      exact hst (I.base.tups b xs e)
  · have e : upd X.H_0 a (exH a oe) b = some (.frz o u) := e
    by_cases hb : b = a
    · rw [hb, upd_same] at e
      rw [hb, upd_same]
      exact e
    · rw [hne0 hb] at e
      exact hst (I.base.frzs b o u e)
  · have e : upd X.H_0 a (exH a oe) b = some (.tbl ps) := e
    by_cases hb : b = a
    · rw [hb, upd_same] at e; cases e
    · rw [hne0 hb] at e
      obtain ⟨m, e1⟩ := I.base.tbls b ps e
      exact ⟨m, hst e1⟩
  · show upd H a (exH a oe) X.env.locals = none
    rw [hne (Ne.symm nL)]; exact I.free
  · have hb : c ≠ a := fun z => by
      obtain ⟨v, o, e1, e2⟩ := I.cell x c e
      rw [z, ha] at e1; cases e1
      rw [hd] at e2; cases e2
    rw [hne hb]; exact I.freeC x c e
  · have hq' : p ∈ X.pn ++ pins := by simpa using hq
    obtain ⟨k1, k2, k3, k4, k5⟩ := I.pin p hq'
    exact ⟨k1, by rw [hne (hp p hq')]; exact k2, k3, k4, k5⟩
  · by_cases hb : b = a
    · subst hb
      rw [upd_same] at e
      cases e
      exact ⟨ha, ha, ⟨oe, ha⟩, fun h1 h2 q k => k _ q⟩
    · rw [hne hb] at e
      exact (I.hok b o e).stay (fun _ _ _ q => q) (fun _ q => hst q) fun _ _ q => hst q
theorem unsuiteH {a : Addr} {oe : Obj} {pn' : List (Addr × Obj)} {σ' : L2.St} {H' : Hp} {s' : Shared} (I0 : Inv X pins σ' H' s') (na : H' a = none) (hnew : ∀ o, X.s_0.heap.get? a = some o → a ∉ X.ex → False) (I : Inv (sxH X a oe (X.pn ++ pins)) pn' σ H s) : Inv X pins σ H s := by
  have hne0 : ∀ {b : Addr}, b ≠ a → upd X.H_0 a (exH a oe) b = X.H_0 b := fun h => upd_ne h
  have up0 : ∀ {b : Addr} {o : Obj}, X.s_0.heap.get? b = some o → b ∉ X.ex → X.H_0 b = none → upd X.H_0 a (exH a oe) b = none := fun {b o} e hx n => by
    rw [hne0 (fun z => by subst z; exact hnew o e hx)]; exact n
  refine ⟨I0.ok, I.os, I.bare, ⟨fun b o e n hf hx => I.base.keep b o e (up0 e hx n) hf hx, fun b o e n hf hx => I.base.slot b o e (up0 e hx n) hf hx, fun b o e n hx => I.base.free b o e (up0 e hx n) hx, I.base.there, fun b xs e => ?_, fun b o u e => ?_, fun b ps e => ?_⟩, I.loc, I.cell, I.free, I.freeC, fun p hp => I.pin p (List.mem_append_left _ hp), I.hok, I.len⟩
  · have hb : b ≠ a := fun z => by
      have := I0.base.tups b xs e
      rw [z, na] at this; cases this
    exact I.base.tups b xs ((hne0 hb).trans e)
  · have hb : b ≠ a := fun z => by
      have := I0.base.frzs b o u e
      rw [z, na] at this; cases this
    exact I.base.frzs b o u ((hne0 hb).trans e)
  · have hb : b ≠ a := fun z => by
      obtain ⟨m, this⟩ := I0.base.tbls b ps e
      rw [z, na] at this; cases this
    exact I.base.tbls b ps ((hne0 hb).trans e)
end
/-- what the clause wishes of an exception of the body -/
def wH (K : PySem.W.Frag) (c : Value) (i : Nat) (ts : Value → Option Addr → TS) (D : Ends) : WX := fun cls d σ H =>
  PySem.W.exmOne K cls c = some true ∧ ∀ a oe, H a = none → Zc cls d oe → (∃ vs, oe.data = .fields vs) →
    ts cls d { nx := fun σ' H' => D.nx (σ'.set i none) H', rt := D.rt, bk := fun σ' H' => D.bk (σ'.set i none) H', ct := fun σ' H' => D.ct (σ'.set i none) H' } (σ.set i (some (.ref a))) (upd H a (exH a oe))
section
variable {X : Cx} {x n : Str} {c : Value} {i : Nat} {body suite : List Stmt} {b₀ : Stmt} {np pos pos' : Pos} {tb : WX → TS} {ts : Value → Option Addr → TS}
theorem ps_tryH (hs : X.stack = X.env :: X.outer) (hf : X.env.frame = some X.env.locals) (hN : X.N.Nodup) (hi : X.N[i]? = some n) (hln : X.env.kindOf n = some .local) (hc : Names X x c)
    (hb : ∀ (W : WX) (pn : List (Addr × Obj)) (xe : Value → Shared → Prop), L2N.Takes (X.tr pn xe) W → PassesOwn (model X.prog X.w) X.A X.env xe → PSs (X.tr pn xe) body (tb W))
    (hsu : ∀ (a : Addr) (oe : Obj) (cls : Value) (d : Option Addr) (pn : List (Addr × Obj)), HotS (sxH X a oe pn) → PSs (sxH X a oe pn) (b₀ :: suite) (ts cls d)) :
    PS X (.Try body [.ExceptHandler (some (.Name x np)) (some n) (b₀ :: suite) pos'] [] [] pos) (fun D σ H => tb (wH X.K c i ts D) D σ H) := by
  refine ⟨fun pins s σ H D I h => ?_⟩
  have ok := I.ok
  have hfr : X.A.frames = some (X.env :: X.outer) := by rw [ok.frames, hs]
  refine wpAny_Try_except ?_
  refine wpAny_mono ((hb (wH X.K c i ts D) (X.pn ++ pins) (fun e s₁ => wpAny (model X.prog X.w) X.A (noteFrame e X.env) (fun _ s₂ => wpAny (model X.prog X.w) X.A (setFlight e none) (fun _ s₃ =>
    wpAny (model X.prog X.w) X.A (handleBy e X.env [.ExceptHandler (some (.Name x np)) (some n) (b₀ :: suite) pos']) (SP X pins D) X.xe s₃) X.xe s₂) X.xe s₁) (fun u s' xx => ?_) PassesOwn.looking).run [] s σ H D (I.toTry _) h) (fun f s1 hsp => ?_) (fun e s1 he => he)
  · obtain ⟨a, B, sI, pins', σ', H', cls, d, rfl, J', nb, up, sky, na, os, ag, hb1, hyes⟩ := xx
    have J : Inv X pins σ' H' sI := J'.ofTry ok
    have sky' : Sky B (X.env :: X.outer) a (L2N.Zn cls d) X.env.locals s'.heap := by rw [← hs]; exact sky
    show wpAny (model X.prog X.w) X.A (noteFrame (.ref a) X.env) _ _ _
    refine L2N.Sky.land L2N.Zn.steady hfr hf sky' fun h3 fl3 up3 => ?_
    have J3 : Inv X pins σ' H' { s' with heap := h3 } := J.landed nb fl3.1 (up.trans up3) os ag
    obtain ⟨oe3, vs3, he3, hz3, hd3⟩ := fl3.there
    have notFr : ∀ {h : Heap} {o : Obj} {vs : Array Value}, h.FunFrames B (X.env :: X.outer) → h.get? a = some o → o.data = .fields vs → a ∉ frs (X.env :: X.outer) := fun {h o vs} ff e dd hm => by
      obtain ⟨_, o', e', hnf⟩ := ff.mem hm
      rw [e] at e'; cases e'
      exact hnf _ dd
    have nfr := notFr fl3.2.2.1 he3 hd3
    have nL : a ≠ X.env.locals := fun z => nfr (List.mem_filterMap.mpr ⟨X.env, List.mem_cons_self, by rw [hf, z]⟩)
    have nF : a ∉ X.fs := fun hm => by
      obtain ⟨e, he, q⟩ := List.mem_filterMap.mp hm
      exact nfr (List.mem_filterMap.mpr ⟨e, List.mem_cons_of_mem _ he, q⟩)
    have noB : ∀ o, sI.heap.get? a = some o → False := fun o e => by
      have z := nb a o e (by rw [hs]; exact nfr)
      rw [fl3.2.1] at z; cases z
    have hnew : ∀ o, X.s_0.heap.get? a = some o → a ∉ X.ex → False := fun o e hx => by
      obtain ⟨o', e1⟩ := J.base.there a o e hx
      exact noB o' e1
    have hpin : ∀ p ∈ X.pn ++ pins, p.1 ≠ a := fun p hp z => by
      have e1 := (J.pin p hp).1
      rw [z] at e1
      exact noB _ e1
    have S3 := J3.suite he3 hd3 na nL nF
    refine wpAny_handleBy_cons (codeAny_handlers_test ?_) (by intro q; cases q)
    have LT : PySem.W.Looks (model X.prog X.w) h3 (typeOf (.ref a)) cls := fun A Q E s k q => wpAny_typeOf_ref (k _ _ he3) (by rw [hz3.1]; exact q)
    have LM := PySem.W.exm_one (M := model X.prog X.w) (J3.kIn) LT hb1
    have test : ∀ {Q : Value → Shared → Prop} {E : Value → Shared → Prop}, Q c { s' with heap := h3 } → wpAny (model X.prog X.w) (X.A.mark (some (.ref a))) (eval (.Name x np) X.env) Q E { s' with heap := h3 } := fun {Q E} q => by
      obtain ⟨hg, hdbg, hm | ⟨hm, hv, hnn⟩⟩ := hc
      · exact ld_glob (X := X.suite a ((a, oe3) :: (X.pn ++ pins))) S3 hg hm q hdbg
      · exact ld_blt (X := X.suite a ((a, oe3) :: (X.pn ++ pins))) S3 hg hm hv q hnn hdbg
    refine test (LM.here ?_)
    refine codeAny_handlers_suite_as ?_
    refine HandSPX.lands_againZ fl3 fun h4 fl4 up4 => ?_
    have J4 : Inv X pins σ' H' { s' with heap := h4 } := J.landed nb fl4.1 ((up.trans up3).trans up4) os ag
    obtain ⟨oe4, vs4, he4, hz4, hd4⟩ := fl4.there
    have S4 := suiteH J4 he4 hd4 na nL nF hnew hpin
    have hot : HotS (sxH X a oe4 (X.pn ++ pins)) := ⟨a, oe4, vs4, _, rfl, upd_same, hd4, hz4.2.2 _ hd4⟩
    refine store_ok (X := sxH X a oe4 (X.pn ++ pins)) (v := .ref a) S4 hN hi (.inl hln) rfl (fun s5 S5 => ?_) (.inr hln)
    refine wpAny_mono ((hsu a oe4 cls d (X.pn ++ pins) hot).run [] s5 _ _ _ S5 (hyes a oe4 na hz4.zc ⟨_, hd4⟩)) (fun f s6 hsp => ?_) (fun _ _ z => False.elim z)
    have end_ : ∀ {σ6 : L2.St} {H6 : Hp} {Q : Shared → Prop}, Inv (sxH X a oe4 (X.pn ++ pins)) [] σ6 H6 s6 → (∀ s7, Inv X pins (σ6.set i none) H6 s7 → Q s7) →
        wpAny (model X.prog X.w) X.A (do bindName X.env n .none; unbindBehindTheSuite X.env n pos') (fun _ s7 => Q s7) X.xe s6 := fun {σ6 H6 Q} S6 hq => gone_ok (unsuiteH J4 na hnew S6) hN hi hln hq
    cases f with
    | next =>
      obtain ⟨σ6, H6, S6, q6⟩ := hsp
      exact end_ S6 fun s7 J7 => ⟨_, _, J7, q6⟩
    | brk =>
      obtain ⟨σ6, H6, S6, q6⟩ := hsp
      exact end_ S6 fun s7 J7 => ⟨_, _, J7, q6⟩
    | cont =>
      obtain ⟨σ6, H6, S6, q6⟩ := hsp
      exact end_ S6 fun s7 J7 => ⟨_, _, J7, q6⟩
    | ret u =>
      obtain ⟨v6, σ6, H6, S6, r6, q6⟩ := hsp
      exact end_ S6 fun s7 J7 => ⟨_, _, _, J7, r6, q6⟩
  · cases f with
    | next =>
      obtain ⟨σ', H', J', q⟩ := hsp
      exact wpAny_execs_nil ⟨σ', H', J'.ofTry ok, q⟩
    | brk =>
      obtain ⟨σ', H', J', q⟩ := hsp
      exact ⟨σ', H', J'.ofTry ok, q⟩
    | cont =>
      obtain ⟨σ', H', J', q⟩ := hsp
      exact ⟨σ', H', J'.ofTry ok, q⟩
    | ret u =>
      obtain ⟨v, σ', H', J', r, q⟩ := hsp
      exact ⟨v, σ', H', J'.ofTry ok, r, q⟩
end
/-! ### as a function -/
def unS (i : Nat) (r : Fl) : Fl := match r with
  | .nx e st => .nx (e.set i none) st
  | .bk e st => .bk (e.set i none) st
  | .ct e st => .ct (e.set i none) st
  | r => r
/-- try: b, except C as (slot i): sb -/
def mTryH (i : Nat) (ok : S → Option Bool) (b sb : Ms) : Ms := fun e st => match b e st with
  | .exc x e1 st1 => (match ok x.1 with
    | some true => if i < e1.length then unS i (noExc (sb (e1.set i (some (.exn x.1 x.2))) st1)) else .no
    | _ => .no)
  | r => r
theorem PostS.unS {g : Gc} {W0 : Wd} {Wx Wx' : WX} {i : Nat} {r : Fl} {D : Ends} (p : PostS g W0 Wx (FL.unS i (noExc r)) D) :
    PostS g W0 Wx' r { nx := fun σ' H' => D.nx (σ'.set i none) H', rt := D.rt, bk := fun σ' H' => D.bk (σ'.set i none) H', ct := fun σ' H' => D.ct (σ'.set i none) H' } := by
  cases r with
  | exc x e st => exact p.elim
  | no => exact p
  | nx e st => exact fun W1 σ1 e1 s1 hs r => p W1 _ e1 s1 hs (r.setN none)
  | bk e st => exact fun W1 σ1 e1 s1 hs r => p W1 _ e1 s1 hs (r.setN none)
  | ct e st => exact fun W1 σ1 e1 s1 hs r => p W1 _ e1 s1 hs (r.setN none)
  | rt d st => exact p
theorem exn_den {g : Gc} {W : Wd} {a : Addr} {oe : Obj} {cls : Value} {d : Option Addr} {x : Exn} (s : SR g W) (na : W.H a = none) (hz : Zc cls d oe) (hf : ∃ vs, oe.data = .fields vs) (hx : ExD g W cls d x) :
    Ext W { W with H := upd W.H a (exH a oe) } ∧ SR g { W with H := upd W.H a (exH a oe) } ∧ Den g { W with H := upd W.H a (exH a oe) } (.ref a) (.exn x.1 x.2) := by
  obtain ⟨e1, s1, n1⟩ := s.lay (o := exH a oe) na
  refine ⟨e1, s1, ?_⟩
  obtain ⟨x1, x2⟩ := x
  obtain ⟨h1, h2⟩ := hx
  dsimp only at h1 h2 ⊢
  subst h1
  cases x2 with
  | nil =>
    dsimp only at h2
    exact .exn (fs := []) upd_same n1 hz hf h2 rfl .nil
  | cons p r =>
    obtain ⟨dx, vs, q1, q2, q3, q4, q5⟩ := h2
    cases vs with
    | nil => cases q4
    | cons v vs =>
      exact .exn (fs := v :: vs) upd_same n1 hz hf ⟨dx, q1, (e1.fz _ _ q2 q3).1, (e1.fz _ _ q2 q3).2⟩ q4 (q5.mono e1)
section
variable {X : Cx} {x n : Str} {body suite : List Stmt} {b₀ : Stmt} {np pos pos' : Pos} {Wx : WX} {b sb : Ms} {l : List (S × Bool)} {C : S} {i : Nat}
theorem c_tryH (hs : X.stack = X.env :: X.outer) (hf : X.env.frame = some X.env.locals) (hN : X.N.Nodup) (hi : X.N[i]? = some n) (hln : X.env.kindOf n = some .local)
    (hc : Names X x (.ref (He.ga X.K (toS C)))) (hok : ∀ p ∈ l, (He.Fa.exm (toS p.1) (toS C) p.2).ok X.K = true)
    (hb : ∀ (W : WX) (pn : List (Addr × Obj)) (xe : Value → Shared → Prop), L2N.Takes (X.tr pn xe) W → PassesOwn (model X.prog X.w) X.A X.env xe → PSs (X.tr pn xe) body (fS (gc X) W b))
    (hsu : ∀ (a : Addr) (oe : Obj) (pn : List (Addr × Obj)), HotS (sxH X a oe pn) → PSs (sxH X a oe pn) (b₀ :: suite) (fS (gc X) (fun _ _ _ _ => False) sb)) :
    PS X (.Try body [.ExceptHandler (some (.Name x np)) (some n) (b₀ :: suite) pos'] [] [] pos) (fS (gc X) Wx (mTryH i (okOf l) b sb)) := by
  refine PS.imp (ps_tryH (i := i) (tb := fun W => fS (gc X) W b) (ts := fun _ _ => fS (gc X) (fun _ _ _ _ => False) sb) hs hf hN hi hln hc hb (fun a oe cls d pn hot => hsu a oe _ hot)) fun D σ H h => ?_
  obtain ⟨W, env, rfl, s, r, p⟩ := h
  refine ⟨W, env, rfl, s, r, ?_⟩
  dsimp only [mTryH] at p
  cases q : b env W.st with
  | exc z e1 st1 =>
    rw [q] at p
    dsimp only at p
    intro W1 σ1 e' s1 hs1 r1 cls dd hx
    have ec : cls = .ref (He.ga X.K (toS z.1)) := hx.1
    cases ho : okOf l z.1 with
    | none => rw [ho] at p; exact p.elim
    | some t =>
      rw [ho] at p
      cases t with
      | false => exact p.elim
      | true =>
        dsimp only at p
        refine ⟨by rw [ec]; exact okOf_ok hok _ _ ho, fun a oe na hz hf => ?_⟩
        split at p
        · obtain ⟨e2, s2, d2⟩ := exn_den s1 na hz hf hx
          refine ⟨_, e1.set i (some (.exn z.1 z.2)), rfl, s2, (r1.mono e2).set i d2, ?_⟩
          subst hs1
          exact PostS.ext (PostS.unS p) (e'.trans e2)
        · exact p.elim
  | no => rw [q] at p; exact p
  | _ => rw [q] at p; exact p
end
end FL
namespace FL
open PySem PySem.Spec PyProof.Rows L2
theorem takesF {X : Cx} : Takes X (fun _ _ _ _ => False) := fun _ _ ⟨_, _, _, _, _, _, _, _, _, _, _, _, _, _, _, _, w⟩ => w.elim
end FL
end
section
set_option Elab.async false
set_option linter.all false
set_option maxRecDepth 100000
/-! FNI: defs that are called while an error is handled, and raise nothing. -/
namespace FL
open PySem PySem.Spec PyProof.Rows L2
open L2H (RoomH roomH_of)
theorem roomN {k : Nat} {A : Around} {h : Option Value} (r : Room k A) : RoomH k (A.mark h) := ⟨r.dp, r.un⟩
theorem unitsN {k : Nat} {A : Around} (r : RoomH k A) : A.units + 64 < cLine := by have := r.un; omega
/-- the contract -/
structure FnN (P : Program) (w : World) (K : PySem.W.Frag) (mg : Str → Option Value) (base : Heap) (CX : CXT) (k : Nat) (f : Addr) (fd : FuncData) (ps : List Str) (sp : Sp) : Prop where
  len : ∀ vs H Q E, sp vs H Q E → vs.length = ps.length
  run : ∀ (A : Around) (outer : List Env) (s : Shared) (H : Hp) (args : Args) (us : List Value) (vs : List V) (Q : VK) (E : XK), RoomH k A → HotA A H → Env0 P w K mg base A outer s H → BindsTo s fd args (ps.zip us) → Vals vs us → sp vs H Q E →
    codeAny (model P w) A (.call (.ref f) args) (CR CX outer P w H s Q E) s
theorem FnN.mono {P : Program} {w : World} {K : PySem.W.Frag} {mg : Str → Option Value} {base : Heap} {CX : CXT} {j k : Nat} {f : Addr} {fd : FuncData} {ps : List Str} {sp : Sp} (F : FnN P w K mg base CX j f fd ps sp) (h : j ≤ k) : FnN P w K mg base CX k f fd ps sp :=
  ⟨F.len, fun A outer s H args us vs Q E hr => F.run A outer s H args us vs Q E (hr.mono h)⟩
abbrev cxN (CX : CXT) (P : Program) (w : World) (K : PySem.W.Frag) (mg : Str → Option Value) (base : Heap) (N : List Str) (qual : Str) (scope : Scope) (f : Addr) (cd : Value) (A : Around) (outer : List Env) (s : Shared) (H : Hp) (E : XK) : Cx :=
  { cxOf CX P w K mg base N qual scope f cd A outer s H E with calm := false }
theorem startN {CX : CXT} {P : Program} {w : World} {K : PySem.W.Frag} {mg : Str → Option Value} {base : Heap} {N ps : List Str} {qual : Str} {scope : Scope} {f : Addr} {cd : Value} {A : Around} {outer : List Env} {s s1 : Shared} {H : Hp} {E : XK} {us : List Value} {vs : List V}
    (S : FnScope N ps scope) (e0 : Env0 P w K mg base A outer s H) (hl : vs.length = ps.length) (r : Vals vs us)
    (x : InCallC s s.heap.objs.size (bindL (envOfC qual scope s.heap.objs.size f cd).kindOf (ps.zip us) fun _ => none) (cellsFrom (s.heap.objs.size + 1) scope.names []) (bindC (envOfC qual scope s.heap.objs.size f cd).kindOf (ps.zip us) fun _ => none) s1) :
    Inv (cxN CX P w K mg base N qual scope f cd A outer s H E) [] (L2.start N vs) H s1 := by
  have I := inv_start (CX := CX) (A := { A with handled := none }) (E := E) S rfl ⟨e0.frames, e0.mod, e0.bs, e0.bsz, e0.funs, e0.frf, e0.hok, e0.bare⟩ hl r x
  have ok := I.ok
  exact ⟨⟨ok.mod, ok.kind, ok.glob, ok.blt, ok.above, ok.inj, ok.has, ok.cab, (fun z => absurd (show false = true from z) Bool.false_ne_true), ok.frames, ok.stk, ok.exf, ok.bs, ok.bsz, ok.noex, ok.exfs, ok.funs, ok.frf⟩, I.os, I.bare, I.base, I.loc, I.cell, I.free, I.freeC, I.pin, I.hok, I.len⟩
theorem fn_ofN {CX : CXT} {P : Program} {w : World} {K : PySem.W.Frag} {mg : Str → Option Value} {base : Heap} {k : Nat} {f : Addr} {name qual : Str} {params : Arguments} {body : List Stmt} {scope : Scope} {dvs : List V} {kws : List (Str × V)} {fd : FuncData}
    {N ps : List Str} {sp : Sp} (F : FunD K name qual params body scope dvs kws f fd) (S : FnScope N ps scope) (len : ∀ vs H Q E, sp vs H Q E → vs.length = ps.length)
    (hbody : ∀ (cdv : Value) (A : Around) (outer : List Env) (s : Shared) (H : Hp) (vs : List V) (Q : VK) (E : XK), RoomH k (A.deeper (envOfC qual scope s.heap.objs.size f cdv)) → HotS (cxN CX P w K mg base N qual scope f cdv A outer s H E) → sp vs H Q E →
      ∃ t, PSs (cxN CX P w K mg base N qual scope f cdv A outer s H E) body t ∧ t { nx := fun _ H' => Q .non H', rt := Q } (L2.start N vs) H) : FnN P w K mg base CX (k + 1) f fd ps sp := by
  obtain ⟨oc, od, dV, kV, doc, pm, an, cdv, ct, osl, rfl, lk, hcd, _, _⟩ := F.ex
  refine ⟨len, fun A outer s H args us vs Q E hr hot e0 hb r hsp => ?_⟩
  have hl := len _ _ _ _ hsp
  have KX : K.In s.heap := e0.mod.kin.keeps fun b o e => (e0.bs b o e).1
  have lim : s.heap.NoLimit := e0.mod.nolimit.keeps fun b o e => (e0.bs b o e).1
  have hkind : ∀ y ∈ ps.zip us, scope.names.lookup y.1 = some .local ∨ (scope.names.lookup y.1 = some .cell ∧ ((cellsFrom (s.heap.objs.size + 1) scope.names []).lookup y.1).isSome = true) := fun ⟨n, v⟩ hy => by
    rcases S.par n (List.of_mem_zip hy).1 with q | q
    · exact .inl q
    · exact .inr ⟨q, PySem.W.cellsFrom_some _ _ _ (.inl q)⟩
  refine codeAny_call_function hr.depth (KX _ _ lk) rfl S.co S.gen rfl (PySem.W.codeRec_of KX hcd) (hb _ _ _ _ ?_)
  refine wpAny_newFunctionEnv_cells S.kind hkind fun env he s1 x => ?_
  subst he
  refine ⟨lim.keeps x.toInCall.keep, codeAny_func ?_⟩
  obtain ⟨t, ht, hq⟩ := hbody cdv A outer s H vs Q E (hr.deeper _) hot hsp
  have I := startN (CX := CX) (f := f) (E := E) S e0 hl r x
  refine wpAny_mono (ht.run [] s1 (L2.start N vs) H _ I hq) (fun fl s' hs => ?_) fun e s' hs => hs
  have fin : ∀ {σ' : L2.St} {H' : Hp} {v : V} {u : Value}, Inv (cxN CX P w K mg base N qual scope f cdv A outer s H E) [] σ' H' s' → RelV v u → Q v H' → CE outer P w H s Q u s' :=
    fun {σ' H' v u} J rv q => ⟨v, H', J.os, J.bare, J.base, J.hok, rv, q⟩
  cases fl with
  | ret u =>
    obtain ⟨v, σ', H', J, rv, q⟩ := hs
    exact fin J rv q
  | next =>
    obtain ⟨σ', H', J, q⟩ := hs
    exact fin (v := V.non) (u := Value.none) J rfl q
  | brk =>
    obtain ⟨_, _, _, q⟩ := hs
    exact False.elim q
  | cont =>
    obtain ⟨_, _, _, q⟩ := hs
    exact False.elim q
def FOkN (P : Program) (w : World) (K : PySem.W.Frag) (mg : Str → Option Value) (base : Heap) (at_ : Str × Option Str) (k : Nat) (ps : List Str) (F : List D → Store → Res D) : Prop :=
  ∃ fd, FnN P w K mg base (L2.CX P w) k (He.fAd K at_) fd ps (spF ⟨P, w, K⟩ F) ∧ Binds K fd ps [] ∧ PySem.W.keepIn K (.ref (He.fAd K at_)) = true
section
variable {P : Program} {w : World} {K : PySem.W.Frag} {mg : Str → Option Value} {base : Heap}
theorem fokN_of {d : He.DefD} {N ps : List Str} {k : Nat} {b : Ms} {keep : Bool} (hF : ∃ fd, FunD K d.name d.qual d.params d.body d.scope (d.dvs K) (d.kws K) (He.fAd K d.at_) fd) (h0 : d.dfl = []) (S : FnScope N ps d.scope)
    (hbind : ∀ (kV doc pm : Value) (an : Option Addr) (cdv ct : Value) (us : List Value), us.length = ps.length → bindArgs (PySem.W.fnOf d.name d.qual d.params d.body d.scope .none kV doc pm an cdv ct) ⟨us, []⟩ = pure (ps.zip us))
    (hb : ∀ (cdv : Value) (A : Around) (outer : List Env) (s : Shared) (H : Hp) (E : XK), RoomH k (A.deeper (envOfC d.qual d.scope s.heap.objs.size (He.fAd K d.at_) cdv)) → HotS (cxN (L2.CX P w) P w K mg base N d.qual d.scope (He.fAd K d.at_) cdv A outer s H E) →
      PSs (cxN (L2.CX P w) P w K mg base N d.qual d.scope (He.fAd K d.at_) cdv A outer s H E) d.body (fS ⟨P, w, K⟩ (fun cls dd _ H => E cls dd H) b)) :
    FOkN P w K mg base d.at_ (k + 1) ps (mkF keep ps.length N.length b) := by
  obtain ⟨fd, F⟩ := hF
  have F' : FunD K d.name d.qual d.params d.body d.scope [] (d.kws K) (He.fAd K d.at_) fd := by
    have e : d.dvs K = [] := by unfold He.DefD.dvs; rw [h0]; rfl
    rw [← e]; exact F
  refine ⟨fd, fn_ofN F' S (fun vs H Q E h => ?_) (fun cdv A outer s H vs Q E hr hot h => ⟨_, hb cdv A outer s H E hr hot, ?_⟩), F'.bindsN hbind, F.kp⟩
  · obtain ⟨W, ds, rfl, s, l, p⟩ := h
    dsimp only [mkF] at p
    split at p
    · rw [l.length]; assumption
    · exact p.elim
  · obtain ⟨W, ds, rfl, s, l, p⟩ := h
    dsimp only [mkF] at p
    split at p
    · rename_i hn
      exact mk_body S.pre l hn s p
    · exact p.elim
theorem fokN_no {d : He.DefD} {ps : List Str} {k : Nat} (hF : ∃ fd, FunD K d.name d.qual d.params d.body d.scope (d.dvs K) (d.kws K) (He.fAd K d.at_) fd) (h0 : d.dfl = [])
    (hbind : ∀ (kV doc pm : Value) (an : Option Addr) (cdv ct : Value) (us : List Value), us.length = ps.length → bindArgs (PySem.W.fnOf d.name d.qual d.params d.body d.scope .none kV doc pm an cdv ct) ⟨us, []⟩ = pure (ps.zip us)) :
    FOkN P w K mg base d.at_ k ps (fun _ _ => .no) := by
  obtain ⟨fd, F⟩ := hF
  have F' : FunD K d.name d.qual d.params d.body d.scope [] (d.kws K) (He.fAd K d.at_) fd := by
    have e : d.dvs K = [] := by unfold He.DefD.dvs; rw [h0]; rfl
    rw [← e]; exact F
  exact ⟨fd, ⟨fun vs H Q E h => by obtain ⟨W, ds, _, _, _, p⟩ := h; exact p.elim, fun A outer s H args us vs Q E _ _ _ _ _ h => by obtain ⟨W, ds, _, _, _, p⟩ := h; exact p.elim⟩, F'.bindsN hbind, F.kp⟩
end
section
variable {X : Cx} {Wx : WX} {j k : Nat} {ps : List Str} {F : List D → Store → Res D} {x : Str} {p pos : Pos} {e : Expr} {es : List Expr} {ml : Ma}
theorem c_callN (G : FOkN X.prog X.w X.K X.mg X.base (x, none) k ps F) (hr : RoomH j X.A) (hj : k ≤ j) (hh : HotS X) (tk : Takes X Wx) (hg : Gl X x) (hm : X.mg x = some (.ref (He.ga X.K x)))
    (ha : PA X (e :: es) (fA (gc X) Wx ml)) (hdb : (x == ("__debug__" : Str)) = false := by decide) (he : starEach (e :: es) X.env = (false, eval e X.env) :: starEach es X.env := by rfl) (hpl : (backTo pos (starEach es X.env)).any (·.1) = false := by rfl) :
    PE X (.Call (.Name x p) (e :: es) [] pos) (fE (gc X) Wx (aL F ml)) := by
  obtain ⟨fd, G, hb, hk⟩ := G
  refine ⟨fun pins s σ H Q I h => ?_⟩
  refine wpAny_Call_Name_kw (ld_glob I hg hm ?_ hdb)
  refine PySem.W.callWith_K (h₀ := X.base) I.ok.mod.kin hk (thn (ha.run pos pins s σ H _ I (liftL h)) fun us s1 ⟨vs, H1, I1, r, q⟩ => ⟨I1.kIn, ?_⟩) he hpl
  obtain ⟨W, ds, rfl, sr, l, pp⟩ := q
  have hsp : spF (gc X) F vs W.H (fun v H' => Q v H') (WE Wx σ) := ⟨W, ds, rfl, sr, l, pp⟩
  have hl : us.length = ps.length := by rw [← r.length]; exact G.len _ _ _ _ hsp
  have b := hb s1 us I1.kIn (by rw [List.append_nil]; exact hl)
  rw [List.append_nil] at b
  refine wpAny_call (codeAny_mono (G.run X.A X.stack s1 _ ⟨us, []⟩ us vs _ (WE Wx σ) (hr.mono hj) (hh.to I1) I1.env0 b r hsp) fun r s' hq => ?_)
  cases r with
  | error e => exact passAt tk σ pins _ s1 e s' I1 hq
  | ok fl =>
    cases fl with
    | ret u => exact I1.after hq
    | next => exact False.elim hq
    | brk => exact False.elim hq
    | cont => exact False.elim hq
end
end FL
end
section
set_option Elab.async false
set_option linter.all false
set_option maxRecDepth 100000
set_option maxHeartbeats 4000000
/-! FNJ: dict comprehensions, max, (x,) * n. -/
namespace FL
open PySem PySem.Spec PyProof.Rows L2
/-! ### the kept object is written -/
def Wd.wrX (W : Wd) (p : Addr) (o : HO) : Wd := { W with H := upd W.H p o }
section
variable {g : Gc} {W W' : Wd} {p : Addr} {o : HO}
theorem wrX_ext (hp : p ∈ W.rs) : ExtP p W (W.wrX p o) := by
  refine ⟨⟨fun a u h n => ?_, fun _ _ h => h⟩, rfl, fun a _ n => upd_ne n⟩
  have ha : a ≠ p := fun e => n (.inl (e ▸ hp))
  exact ⟨by show upd W.H p _ a = _; rw [upd_ne ha]; exact h, n⟩
theorem SR.wrX (s : SR g W) (hp : p ∈ W.rs) (ho : ∀ xs, o ≠ .tup xs) : SR g (W.wrX p o) := by
  have hcs : p ∉ W.cs := (s.rx p hp).2
  have hne : ∀ {a}, a ∈ W.cs → a ≠ p := fun h e => hcs (e ▸ h)
  refine ⟨s.len, s.nd, fun a ha => ?_, fun a ha => ⟨?_, (s.rx a ha).2⟩, fun n a c h1 h2 => (s.cell n a c h1 h2).mono (wrX_ext hp).toExtW fun hl => upd_ne (hne (List.mem_of_getElem? h1))⟩
  · show ∃ u, upd W.H p _ a = some u
    rw [upd_ne (hne ha)]; exact s.ex a ha
  · show ∃ u, upd W.H p _ a = some u ∧ _
    by_cases h : a = p
    · subst h; exact ⟨o, upd_same, ho⟩
    · obtain ⟨u, h1, h2⟩ := (s.rx a ha).1
      exact ⟨u, by rw [upd_ne h]; exact h1, h2⟩
end
/-! ### {k: v for .. in ..} -/
def dcL (k : Mg) (t : Mt) (mk mv : Me) (e : En) : List D → Store → List (D × D) → Res (List (D × D))
  | [], st, acc => .ok acc st
  | x :: xs, st, acc => match k x e st with
    | .nx e1 st1 => (t e1 st1).bindN fun b st2 => if b = true then (match mk e1 st2 with
      | .ok y st3 => (match mv e1 st3 with
        | .ok z st4 => if isKey y = true ∧ acc.length < BIG then dcL k t mk mv e xs st4 (dPut acc y z) else .no
        | _ => .no)
      | _ => .no) else dcL k t mk mv e xs st2 acc
    | _ => .no
def mDc (vs : List Nat) (mi : Mi) (k : Mg) (t : Mt) (mk mv : Me) : Me := fun e st => (mi e st).bind fun xs st1 => (dcL k t mk mv (wipeE e vs) xs st1 []).bind fun kvs st2 => .ok (.dic kvs) st2
def PostDc (g : Gc) (W0 : Wd) (p : Addr) (r : Res (List (D × D))) (R : Wd → List (D × D) → Prop) : Prop := match r with
  | .ok ys st' => ∀ W' kv, ExtP p W0 W' → SR g W' → W'.st = st' → W'.H p = some (.dK kv) → DKV g W' kv ys → R W' ys
  | _ => False
theorem PostDc.ext {g : Gc} {W0 W1 : Wd} {p : Addr} {r : Res (List (D × D))} {R : Wd → List (D × D) → Prop} (h : PostDc g W0 p r R) (e : ExtP p W0 W1) : PostDc g W1 p r R := by
  cases r with
  | ok ys st => exact fun W' vs e' => h W' vs (e.trans e')
  | _ => exact h
theorem DKV.monoX {g : Gc} {W W' : Wd} {kv : List (Key × V)} {kvs : List (D × D)} (e : ExtW W W') (h : DKV g W kv kvs) : DKV g W' kv kvs := ⟨h.1, h.2.monoW e⟩
theorem DKV.lenX {g : Gc} {W : Wd} {kv : List (Key × V)} {kvs : List (D × D)} (h : DKV g W kv kvs) : kv.length = kvs.length := by
  have := h.2.length
  simpa using this
section
variable {X : Cx} {Wx : WX} {kx vx tg iter : Expr} {ifs : List Expr} {scope : Scope} {own : List (Str × Nat)} {pos : Pos} {mi : Mi} {k : Mg} {t : Mt} {mk mv : Me}
theorem dcL_no_exc {e : En} : ∀ (xs : List D) (st : Store) (acc : List (D × D)) (x : Exn) (st' : Store), dcL k t mk mv e xs st acc ≠ .exc x st'
  | [], st, acc, x, st', h => by cases h
  | y :: xs, st, acc, x, st', h => by
    unfold dcL at h
    cases q : k y e st with
    | nx e1 st1 =>
      rw [q] at h
      dsimp only at h
      cases q2 : t e1 st1 with
      | ok b st2 =>
        rw [q2] at h
        dsimp only [Res.bindN] at h
        split at h
        · cases q3 : mk e1 st2 with
          | ok d st3 =>
            rw [q3] at h
            dsimp only at h
            cases q4 : mv e1 st3 with
            | ok d2 st4 =>
              rw [q4] at h
              dsimp only at h
              split at h
              · exact dcL_no_exc xs _ _ _ _ h
              · cases h
            | exc _ _ => rw [q4] at h; cases h
            | no => rw [q4] at h; cases h
          | exc _ _ => rw [q3] at h; cases h
          | no => rw [q3] at h; cases h
        · exact dcL_no_exc xs _ _ _ _ h
      | exc _ _ => rw [q2] at h; cases h
      | no => rw [q2] at h; cases h
    | _ => rw [q] at h; cases h
theorem dc_im {σ : L2.St} {H : Hp} {Q : VK} {vs : List Nat} (h : fE (gc X) Wx (mDc vs mi k t mk mv) σ H Q) :
    tDc (fI (gc X) Wx mi) (fTg (gc X) noX vs k) (fT (gc X) noX t) (fE (gc X) noX mk) (fE (gc X) noX mv) vs σ H Q := by
  obtain ⟨W, env, rfl, s, r, p⟩ := h
  refine ⟨W, env, rfl, s, r, ?_⟩
  dsimp only [mDc] at p
  cases q : mi env W.st with
  | exc x st1 => rw [q] at p; exact p
  | no => rw [q] at p; exact p
  | ok xs st1 =>
    rw [q] at p
    refine fun W1 e1 s1 hs J ok a ha => ?_
    have p1 := Post.ext p e1
    dsimp only [Res.bind] at p1
    rw [← hs] at p1
    have sp : SR (gc X) (W1.pushO a (.dK [])) := s1.pushO ha (fun xs e => nomatch e)
    have anr : a ∉ W1.rs := fun h => by obtain ⟨⟨o, h1, _⟩, _⟩ := s1.rx a h; rw [ha] at h1; cases h1
    have unpush : ∀ {W' : Wd}, ExtP a (W1.pushO a (.dK [])) W' → Ext W1 W'.pop := fun {W'} e' => by
      have er : W'.rs = a :: W1.rs := e'.rs
      refine ⟨(pushO_mono ha).trans (e'.toExtW.trans pop_mono), by show W'.rs.tail = W1.rs; rw [er]; rfl, fun b hb => ?_⟩
      have hba : b ≠ a := fun e => anr (e ▸ hb)
      have h1 : W'.H b = (W1.pushO a (.dK [])).H b := e'.rk b (List.mem_cons_of_mem _ hb) hba
      show W'.H b = W1.H b
      rw [h1]
      exact upd_ne hba
    have start : PostDc (gc X) (W1.pushO a (.dK [])) a (dcL k t mk mv (wipeE env vs) xs W1.st []) fun W' ys => Q (.ref a) W'.H := by
      cases q2 : dcL k t mk mv (wipeE env vs) xs W1.st [] with
      | exc x st2 => exact absurd q2 (dcL_no_exc _ _ _ _ _)
      | no => rw [q2] at p1; exact p1
      | ok ys st2 =>
        rw [q2] at p1
        intro W' kv e' s' hs' hH hl
        have er : W'.rs = a :: W1.rs := e'.rs
        refine p1 W'.pop (unpush e') s'.pop hs' _ (.dic hH ?_ (hl.monoX pop_mono).1 (hl.monoX pop_mono).2)
        rintro (m | ⟨n, c, h1, _, _⟩)
        · have m' : a ∈ W'.rs.tail := m
          rw [er] at m'; exact anr m'
        · exact (s'.rx a (by rw [er]; exact List.mem_cons_self)).2 (List.mem_of_getElem? h1)
    refine ⟨fun i n H => n = xs.length - i ∧ i ≤ xs.length ∧ ∃ (W2 : Wd) (kv : List (Key × V)) (acc : List (D × D)), W2.H = H ∧ ExtP a (W1.pushO a (.dK [])) W2 ∧ SR (gc X) W2 ∧ W2.H a = some (.dK kv) ∧ DKV (gc X) W2 kv acc ∧ PostDc (gc X) W2 a (dcL k t mk mv (wipeE env vs) (xs.drop i) W2.st acc) fun W' ys => Q (.ref a) W'.H,
      ⟨xs.length, by simp, Nat.zero_le _, W1.pushO a (.dK []), [], [], rfl, ExtP.refl _, sp, upd_same, .nil, start⟩, ?_⟩
    rintro i n H ⟨rfl, hi, W2, kv, acc, rfl, e2, s2, h2, l2, p2⟩
    have er2 : W2.rs = a :: W1.rs := e2.rs
    have ha2 : a ∈ W2.rs := by rw [er2]; exact List.mem_cons_self
    have e12 : ExtW W1 W2 := (pushO_mono ha).trans e2.toExtW
    by_cases hlt : i < xs.length
    · obtain ⟨d, hd⟩ : ∃ d, xs[i]? = some d := ⟨xs[i], by simp [hlt]⟩
      obtain ⟨go, yld⟩ := ok.go W2 i d e12 s2 hd
      have hdrop : xs.drop i = d :: xs.drop (i + 1) := by
        rw [List.drop_eq_getElem_cons hlt]
        congr 1
        rw [List.getElem?_eq_getElem hlt] at hd
        exact Option.some.inj hd
      rw [hdrop] at p2
      refine .inr ⟨go, fun H' => i + 1 ≤ xs.length ∧ ∃ (W2 : Wd) (kv : List (Key × V)) (acc : List (D × D)), W2.H = H' ∧ ExtP a (W1.pushO a (.dK [])) W2 ∧ SR (gc X) W2 ∧ W2.H a = some (.dK kv) ∧ DKV (gc X) W2 kv acc ∧ PostDc (gc X) W2 a (dcL k t mk mv (wipeE env vs) (xs.drop (i + 1)) W2.st acc) fun W' ys => Q (.ref a) W'.H,
        fun H' ⟨h1, h2⟩ => ⟨xs.length - (i + 1), by omega, rfl, h1, h2⟩, fun x H' y => ?_⟩
      obtain ⟨W3, rfl, e3, s3, hs3, hv⟩ := yld x H' y
      have er : EnvR (gc X) W3 (L2.wipe σ vs) (wipeE env vs) := (((r.mono e1).wipe vs).monoW e12).mono e3
      refine ⟨W3, wipeE env vs, d, rfl, s3, er, hv, ?_⟩
      rw [hs3]
      unfold dcL at p2
      cases q3 : k d (wipeE env vs) W2.st with
      | nx e4 st4 =>
        rw [q3] at p2
        dsimp only at p2
        refine fun W4 σ4 e4' s4 hs4 r4 hw => ⟨hw.trans (wipe_wipe σ vs), W4, e4, rfl, s4, r4, ?_⟩
        rw [hs4]
        cases q4 : t e4 st4 with
        | exc _ _ => rw [q4] at p2; exact p2.elim
        | no => rw [q4] at p2; exact p2.elim
        | ok b st5 =>
          rw [q4] at p2
          dsimp only [Res.bindN] at p2
          refine fun W5 e5 s5 hs5 b' hb => ?_
          subst hb
          have eA : ExtP a W2 W5 := ((e3.trans e4').trans e5).toP
          have hA : W5.H a = some (.dK kv) := by
            rw [((e3.trans e4').trans e5).rk a ha2]; exact h2
          cases b' with
          | false =>
            simp only [Bool.false_eq_true, if_false] at p2 ⊢
            exact ⟨hlt, W5, kv, acc, rfl, e2.trans eA, s5, hA, l2.monoX eA.toExtW, by rw [hs5]; exact p2.ext eA⟩
          | true =>
            simp only [if_true] at p2 ⊢
            refine ⟨W5, e4, rfl, s5, r4.mono e5, ?_⟩
            rw [hs5]
            cases q6 : mk e4 st5 with
            | exc _ _ => rw [q6] at p2; exact p2.elim
            | no => rw [q6] at p2; exact p2.elim
            | ok y st6 =>
              rw [q6] at p2
              dsimp only at p2
              refine fun W6 e6 s6 hs6 u hu => ⟨W6, e4, rfl, s6, (r4.mono e5).mono e6, ?_⟩
              rw [hs6]
              cases q7 : mv e4 st6 with
              | exc _ _ => rw [q7] at p2; exact p2.elim
              | no => rw [q7] at p2; exact p2.elim
              | ok z st7 =>
                rw [q7] at p2
                dsimp only at p2
                refine fun W7 e7 s7 hs7 w hw7 => ?_
                have eB : ExtP a W2 W7 := (eA.trans e6.toP).trans e7.toP
                have ha7 : a ∈ W7.rs := by rw [eB.rs]; exact ha2
                have hB : W7.H a = some (.dK kv) := by
                  rw [e7.rk a (by rw [(eA.trans e6.toP).rs]; exact ha2), e6.rk a (by rw [eA.rs]; exact ha2)]; exact hA
                split at p2
                · rename_i hz
                  obtain ⟨key, k1, k2⟩ := key_inv hu hz.1
                  have l7 := l2.monoX eB.toExtW
                  have l8 : DKV (gc X) (W7.wrX a (.dK (putK kv key w))) (putK kv key w) (dPut acc y z) := by
                    rw [k2]
                    exact (l7.monoX (wrX_ext ha7).toExtW).put (hw7.monoW (wrX_ext ha7).toExtW)
                  refine ⟨kv, key, k1, hB, by rw [l7.lenX, big_eq]; exact hz.2, hlt, W7.wrX a (.dK (putK kv key w)), putK kv key w, dPut acc y z, rfl, (e2.trans eB).trans (wrX_ext ha7), s7.wrX ha7 (fun xs e => nomatch e), upd_same, l8, ?_⟩
                  show PostDc (gc X) (W7.wrX a (.dK (putK kv key w))) a (dcL k t mk mv (wipeE env vs) (xs.drop (i + 1)) W7.st (dPut acc y z)) _
                  rw [hs7]
                  exact p2.ext (eB.trans (wrX_ext ha7))
                · exact p2.elim
      | _ => rw [q3] at p2; exact p2.elim
    · have ei : i = xs.length := by omega
      subst ei
      refine .inl ⟨ok.stop W2 _ e12 s2 rfl, ?_⟩
      rw [List.drop_length] at p2
      exact p2 W2 kv (ExtP.refl _) s2 rfl h2 l2
theorem e_dc (hc : X.calm = true) (hN : X.N.Nodup) (hi : PI X tg iter (fI (gc X) Wx mi)) (ok : BlkOk X.N X.env.scope scope own)
    (hg : ∀ (s : Shared) (H : Hp) (C : Addr) (cl : List (Str × Addr)) (fp : List Addr), PG (X.blk s H scope (compEnvC scope cl C X.env) fp) tg (fTg (gc X) noX (own.map (·.2)) k))
    (ht : ∀ (s : Shared) (H : Hp) (C : Addr) (cl : List (Str × Addr)) (fp : List Addr), PTs (X.blk s H scope (compEnvC scope cl C X.env) fp) ifs (fT (gc X) noX t))
    (hk : ∀ (s : Shared) (H : Hp) (C : Addr) (cl : List (Str × Addr)) (fp : List Addr), PE (X.blk s H scope (compEnvC scope cl C X.env) fp) kx (fE (gc X) noX mk))
    (he : ∀ (s : Shared) (H : Hp) (C : Addr) (cl : List (Str × Addr)) (fp : List Addr), PE (X.blk s H scope (compEnvC scope cl C X.env) fp) vx (fE (gc X) noX mv)) (hs : ∀ x, foldedSetIterable iter X.env x = pure x := by intro _; rfl) :
    PE X (.DictComp kx vx [⟨tg, iter, ifs, 0⟩] scope pos) (fE (gc X) Wx (mDc (own.map (·.2)) mi k t mk mv)) :=
  PE.imp (pe_dc hc hN hi ok hg ht hk he hs) fun σ H Q h => dc_im h
end
/-! ### max -/
def oMax2 (x y : D) (st : Store) : Res D := match x, y with
  | .int i, .int j => .ok (.int (if j > i then j else i)) st
  | _, _ => .no
theorem im_max2 {X : Cx} {Wx : WX} {σ : L2.St} {H : Hp} {Q : VK} {vs : List V} (h : fL (gc X) Wx (rD (gc X)) (on2 oMax2) vs σ H Q) : ∃ i j, vs = [.int i, .int j] ∧ Q (.int (if j > i then j else i)) H := by
  obtain ⟨x, y, rfl, W, d, e, rfl, s, h1, h2, p⟩ := fL2 h
  cases d with
  | int i =>
    cases e with
    | int j =>
      cases h1.int_inv
      cases h2.int_inv
      exact ⟨i, j, rfl, p W (Ext.refl W) s rfl _ (.int _)⟩
    | _ => exact p.elim
  | _ => cases e <;> exact p.elim
def maxI (i : Int) (xs : List Int) : Int := xs.foldl (fun a y => if y > a then y else a) i
theorem maxI_ok : ∀ (xs : List Int) (i : Int), (maxI i xs = i ∨ maxI i xs ∈ xs) ∧ i ≤ maxI i xs ∧ ∀ y ∈ xs, y ≤ maxI i xs
  | [], i => ⟨.inl rfl, Int.le_refl _, fun y h => by cases h⟩
  | x :: xs, i => by
    show ((maxI (if x > i then x else i) xs) = i ∨ _) ∧ _
    obtain ⟨h1, h2, h3⟩ := maxI_ok xs (if x > i then x else i)
    have e : maxI i (x :: xs) = maxI (if x > i then x else i) xs := rfl
    rw [e]
    refine ⟨?_, ?_, fun y hy => ?_⟩
    · rcases h1 with h | h
      · rw [h]
        by_cases c : x > i
        · rw [if_pos c]; exact .inr List.mem_cons_self
        · rw [if_neg c]; exact .inl rfl
      · exact .inr (List.mem_cons_of_mem _ h)
    · refine Int.le_trans ?_ h2
      split <;> omega
    · rcases List.mem_cons.mp hy with e | h
      · subst e
        refine Int.le_trans ?_ h2
        split <;> omega
      · exact h3 y h
def oMaxL (d : D) (st : Store) : Res D := onLs d st fun xs => match isOf xs with
  | some (i :: r) => .ok (.int (maxI i r)) st
  | _ => .no
theorem im_maxL {X : Cx} {Wx : WX} {σ : L2.St} {H : Hp} {Q : VK} {vs : List V} (h : fL (gc X) Wx (rD (gc X)) (on1 oMaxL) vs σ H Q) : rMax X.K vs H Q := by
  obtain ⟨v, rfl, W, d, rfl, s, hx, p⟩ := fL1 h
  dsimp only [oMaxL, onLs] at p
  cases q : lsOf d W.st with
  | none => rw [q] at p; exact p.elim
  | some xs =>
    rw [q] at p
    dsimp only at p
    obtain ⟨a, us, rfl, hH, l⟩ := lsOf_inv s hx q
    cases q2 : isOf xs with
    | none => rw [q2] at p; exact p.elim
    | some ns =>
      rw [q2] at p
      cases ns with
      | nil => exact p.elim
      | cons i r =>
        refine ⟨a, i :: r, rfl, by rw [← isOf_inv l q2]; exact SqL.of hH, by simp, fun m hm hle => ?_⟩
        obtain ⟨h1, h2, h3⟩ := maxI_ok r i
        have e : maxI i r = m := by
          have a1 : m ≤ maxI i r := by
            rcases List.mem_cons.mp hm with e | h
            · rw [e]; exact h2
            · exact h3 m h
          have a2 : maxI i r ≤ m := by
            rcases h1 with h | h
            · rw [h]; exact hle i List.mem_cons_self
            · exact hle _ (List.mem_cons_of_mem _ h)
          omega
        rw [← e]
        exact p W (Ext.refl W) s rfl _ (.int _)
/-! ### name = {..} on one line -/
section
variable {X : Cx} {Wx : WX} {kx vx tg iter : Expr} {ifs : List Expr} {scope : Scope} {own : List (Str × Nat)} {pos spos py : Pos} {mi : Mi} {k : Mg} {t : Mt} {mk mv : Me} {y : Str} {i : Nat} {wi : TI} {g : TG} {tt : TT} {tk tv : TE}
theorem ps_setDc (hc : X.calm = true) (hN : X.N.Nodup) (hy : X.N[i]? = some y) (hyl : X.env.scope.names.lookup y = some .local)
    (hsw : swapsWith (.DictComp kx vx [⟨tg, iter, ifs, 0⟩] scope pos) (some (.Name y py)) spos.line X.env = pure true) (hi : PI X tg iter wi) (ok : BlkOk X.N X.env.scope scope own)
    (hg : ∀ (s : Shared) (H : Hp) (C : Addr) (cl : List (Str × Addr)) (fp : List Addr), PG (X.blk s H scope (compEnvC scope cl C X.env) fp) tg g) (ht : ∀ (s : Shared) (H : Hp) (C : Addr) (cl : List (Str × Addr)) (fp : List Addr), PTs (X.blk s H scope (compEnvC scope cl C X.env) fp) ifs tt)
    (hk : ∀ (s : Shared) (H : Hp) (C : Addr) (cl : List (Str × Addr)) (fp : List Addr), PE (X.blk s H scope (compEnvC scope cl C X.env) fp) kx tk)
    (he : ∀ (s : Shared) (H : Hp) (C : Addr) (cl : List (Str × Addr)) (fp : List Addr), PE (X.blk s H scope (compEnvC scope cl C X.env) fp) vx tv) (hs : ∀ x, foldedSetIterable iter X.env x = pure x := by intro _; rfl) :
    PS X (.Assign [.Name y py] (.DictComp kx vx [⟨tg, iter, ifs, 0⟩] scope pos) spos) (tAsg (tDc wi g tt tk tv (own.map (·.2))) (gName i)) := by
  refine ⟨fun pins s σ H D I h => ?_⟩
  rw [exec_Assign_Name_used _ _ _ _ hsw]
  refine wpAny_bind (wpAny_standAt (wpAny_bind ?_))
  show wpAny _ X.A (do let _ ← comprehension (.DictComp kx vx [⟨tg, iter, ifs, 0⟩] scope pos) scope X.env (firstIterPos [⟨tg, iter, ifs, 0⟩] pos) newDict false (eval iter X.env) (some (assign (.Name y py) X.env))) _ _ s
  have h : tDc wi g tt tk tv (own.map (·.2)) σ H (fun x H1 => gName i x σ H1 D.nx) := h
  refine wpAny_bind (thn (dc_core (Qf := fun _ s' => SP X pins D .next s') hc hN I hi ok hg ht hk he hs h fun L C s' m H' I' q hn f => ?_) fun _ s' hq => wpAny_pure (wpAny_pure hq))
  show wpAny _ _ (assign (.Name y py) X.env (.ref L)) _ _ _
  refine wpAny_assign_Name (store_ok2 (v := V.ref L) I' hN hy (.inl hyl) rfl (fun s2 I2 ⟨a, sb, ha⟩ => ?_) (.inr hyl))
  obtain ⟨f0, f1, f2, f3, f4, f5⟩ := f
  have haC : C ≠ a := by
    rcases ha with z | z
    · rw [z]; exact f1
    · exact fun e => f4 y a z e.symm
  refine ⟨m, hn.sameBut sb haC, fun h3 sb3 => ?_⟩
  exact ⟨_, H', I2.turned (t' := s2.toks) (fun b o hb e => (sb3.2 b hb).trans e) f0 f1 f3 f4 f5, q⟩
theorem sw_trueD {gs : List Comprehension} {l : Nat} {env : Env} (hk : env.scope.kind = .function) (hy : env.scope.names.lookup y = some .local) (hl : (py.line == pos.line) = true)
    (ha : (scope.names.any fun (n, k) => n == y && (k == .local || k == .cell)) = false) : swapsWith (.DictComp kx vx gs scope pos) (some (.Name y py)) l env = pure true := by
  have ky : env.kindOf y = some .local := hy
  have hb : env.blockKind = .function := by unfold Env.blockKind; rw [hk]; rfl
  unfold swapsWith
  simp only [hb, ky, ha, Expr.pos, hl]
  rfl
theorem s_setDc (i : Nat) (hc : X.calm = true) (hN : X.N.Nodup) (hy : X.N[i]? = some y) (hyl : X.env.scope.names.lookup y = some .local) (hi : PI X tg iter (fI (gc X) Wx mi)) (ok : BlkOk X.N X.env.scope scope own)
    (hg : ∀ (s : Shared) (H : Hp) (C : Addr) (cl : List (Str × Addr)) (fp : List Addr), PG (X.blk s H scope (compEnvC scope cl C X.env) fp) tg (fTg (gc X) noX (own.map (·.2)) k))
    (ht : ∀ (s : Shared) (H : Hp) (C : Addr) (cl : List (Str × Addr)) (fp : List Addr), PTs (X.blk s H scope (compEnvC scope cl C X.env) fp) ifs (fT (gc X) noX t))
    (hk : ∀ (s : Shared) (H : Hp) (C : Addr) (cl : List (Str × Addr)) (fp : List Addr), PE (X.blk s H scope (compEnvC scope cl C X.env) fp) kx (fE (gc X) noX mk))
    (he : ∀ (s : Shared) (H : Hp) (C : Addr) (cl : List (Str × Addr)) (fp : List Addr), PE (X.blk s H scope (compEnvC scope cl C X.env) fp) vx (fE (gc X) noX mv))
    (hsw : swapsWith (.DictComp kx vx [⟨tg, iter, ifs, 0⟩] scope pos) (some (.Name y py)) spos.line X.env = pure true) (hs : ∀ x, foldedSetIterable iter X.env x = pure x := by intro _; rfl) :
    PS X (.Assign [.Name y py] (.DictComp kx vx [⟨tg, iter, ifs, 0⟩] scope pos) spos) (fS (gc X) Wx (mSet i (mDc (own.map (·.2)) mi k t mk mv))) :=
  PS.imp (ps_setDc hc hN hy hyl hsw hi ok hg ht hk he hs) fun D σ H h => by
    show tDc (fI (gc X) Wx mi) (fTg (gc X) noX (own.map (·.2)) k) (fT (gc X) noX t) (fE (gc X) noX mk) (fE (gc X) noX mv) (own.map (·.2)) σ H fun v H1 => D.nx (σ.set i (some v)) H1
    have h2 : fE (gc X) Wx (mDc (own.map (·.2)) mi k t mk mv) σ H fun v H1 => D.nx (σ.set i (some v)) H1 := fG_mono (liftS h) fun v H' ⟨W, env, d, e0, s, r, hv, p⟩ => by
      subst e0
      exact p W _ (Ext.refl W) s rfl (r.set i hv)
    exact dc_im h2
end
end FL
end
section
set_option Elab.async false
set_option linter.all false
set_option maxRecDepth 100000
set_option maxHeartbeats 4000000
/-! FNK: a tuple times any small number. -/
namespace FL
open PySem PySem.Spec PyProof.Rows L2
theorem mulT1 (l : Addr) (items : Array Value) (n : Nat) (dd : Option Addr) (sl : Array (Option Value)) (u : Tok) :
    Meets (Builtin.«tuple.__mul__» ⟨[.ref l, .int 1 u], []⟩) (fun _ R s => s.heap.get? l = some { cls := .type "tuple", dict := dd, data := .seq items n, slots := sl } ∧ R (.ok (.ret (Value.ref l))) s) :=
  .of_wp fun prog w A R s h => by
    obtain ⟨hp, g, d, tk, os⟩ := s
    obtain ⟨hl, h⟩ := h
    have f1 := AutoSeq1.idx_int
    wp_walk using wpAny_loadPart' hl
    repeat (first
      | (refine wpAny_ite_false (decide_eq_false (by decide)) ?_; wp_walk using wpAny_loadPart' hl)
      | (refine wpAny_ite_true (decide_eq_true (by simp)) ?_; wp_walk using wpAny_loadPart' hl))
    exact ⟨_, rfl, h⟩
theorem mulT0 (l : Addr) (items : Array Value) (n : Nat) (dd : Option Addr) (sl : Array (Option Value)) (u : Tok) (c1 : items.isEmpty = false) :
    Meets (Builtin.«tuple.__mul__» ⟨[.ref l, .int 0 u], []⟩) (fun _ R s => s.heap.get? l = some { cls := .type "tuple", dict := dd, data := .seq items n, slots := sl } ∧
      R (.ok (.ret (Value.ref s.heap.objs.size))) { s with heap := s.heap.push { cls := Value.type "tuple", data := Data.seq #[] }, toks := s.toks }) :=
  .of_wp fun prog w A R s h => by
    obtain ⟨hp, g, d, tk, os⟩ := s
    obtain ⟨hl, h⟩ := h
    have f1 := AutoSeq1.idx_int
    wp_walk using wpAny_loadPart' hl
    repeat (first
      | (refine wpAny_ite_false (decide_eq_false (by decide)) ?_; wp_walk using wpAny_loadPart' hl)
      | (refine wpAny_ite_false (decide_eq_false (by rw [c1]; decide)) ?_; wp_walk using wpAny_loadPart' hl)
      | (refine wpAny_ite_true (decide_eq_true (by simp)) ?_; wp_walk using wpAny_loadPart' hl)
      | (refine wpAny_ite_false (decide_eq_false (by simp)) ?_; wp_walk using wpAny_loadPart' hl))
    exact ⟨_, rfl, h⟩
def rRepS (K : PySem.W.Frag) : R2 := fun x y H Q => ∃ l k xs, x = .ref l ∧ y = .int k ∧ SqT K H l xs ∧ xs ≠ [] ∧ 0 ≤ k ∧ k ≤ 1000 ∧ xs.length ≤ 1000 ∧ (k = 1 → Q (.ref l) H) ∧ (k ≠ 1 → ∀ p, H p = none → Q (.ref p) (upd H p (.tup (List.replicate k.toNat xs).flatten)))
theorem op_repS {X : Cx} : OpR X (binaryOp .Mult) (rRepS X.K) := by
  intro pins s σ H x y v u Q I rx ry h
  obtain ⟨l, k, xs, rfl, rfl, hT, hne, h0, h2, hz, q1, q2⟩ := h
  by_cases hk : 2 ≤ k
  · exact op_repT pins s σ H _ _ v u Q I rx ry ⟨l, k, xs, rfl, rfl, hT, hne, hk, h2, hz, q2 (by omega)⟩
  cases rx
  obtain ⟨t, rfl⟩ := ry
  obtain ⟨its, r, ⟨⟨cls, dd, data, sl⟩, ho, hc, n, hd⟩, hs⟩ := I.tuple hT
  simp only at hc hd
  subst hc hd
  have hle : its.length = xs.length := r.length.symm
  have hn : its ≠ [] := fun e => hne (by
    rw [e] at hle
    exact List.eq_nil_of_length_eq_zero hle.symm)
  have hi : its.toArray.isEmpty = false := by
    cases its with
    | nil => exact absurd rfl hn
    | cons a b => rfl
  rcases (show k = 0 ∨ k = 1 by omega) with rfl | rfl
  · refine wpAny_binaryOp_repeat_ref (T := "tuple") (U := "int") (by decide) ⟨_, ho, rfl⟩ (fun s' => typeIs_int s' 0 t) noFill_tuple_mul F.fills_int_mul F.slot_int_rmul repeat_tuple F.slot_int_index.lookup
      (call_meets F.slot_int_rmul (typeIs_int s 0 t) F.entry_int_rmul (F.args_int_rmul_2 _ _) (int_rmul_tuple 0 t l its.toArray n dd sl)
        ⟨ho, rfl, ⟨_, ho, rfl⟩, call_meets F.slot_tuple_mul ⟨_, ho, rfl⟩ F.entry_tuple_mul (F.args_tuple_mul_2 _ _) (mulT0 l its.toArray n dd sl t hi) ⟨ho, ?_⟩⟩)
    refine ⟨.ref s.heap.objs.size, _, I.laid (t' := s.toks) (o := .tup []) (fun b ob q => Heap.get?_push_of_some _ q) (Nat.le_refl _) ?_, rfl, q2 (by decide) _ (I.hok.fresh (Nat.le_refl _))⟩
    exact ⟨Nat.zero_le _, [], .nil, IsTup.new _ _⟩
  · refine wpAny_binaryOp_repeat_ref (T := "tuple") (U := "int") (by decide) ⟨_, ho, rfl⟩ (fun s' => typeIs_int s' 1 t) noFill_tuple_mul F.fills_int_mul F.slot_int_rmul repeat_tuple F.slot_int_index.lookup
      (call_meets F.slot_int_rmul (typeIs_int s 1 t) F.entry_int_rmul (F.args_int_rmul_2 _ _) (int_rmul_tuple 1 t l its.toArray n dd sl)
        ⟨ho, rfl, ⟨_, ho, rfl⟩, call_meets F.slot_tuple_mul ⟨_, ho, rfl⟩ F.entry_tuple_mul (F.args_tuple_mul_2 _ _) (mulT1 l its.toArray n dd sl t) ⟨ho, ?_⟩⟩)
    exact ⟨.ref l, H, I, rfl, q1 rfl⟩
def oMuS (x y : D) (st : Store) : Res D := match x, y with
  | .tup xs, .int k => if xs ≠ [] ∧ 0 ≤ k ∧ k ≤ 1000 ∧ xs.length ≤ 1000 then .ok (.tup (List.replicate k.toNat xs).flatten) st else .no
  | _, _ => .no
theorem im_muS {X : Cx} {Wx : WX} {σ : L2.St} {H : Hp} {Q : VK} {x y : V} (h : f2 (gc X) Wx (rD (gc X)) oMuS x y σ H Q) : rRepS X.K x y H Q := by
  obtain ⟨W, d, e, rfl, s, h1, h2, p⟩ := h
  cases d with
  | tup xs =>
    cases e with
    | int k =>
      cases h2.int_inv
      obtain ⟨a, vs, rfl, hq, l⟩ := h1.tup_inv
      dsimp only [oMuS] at p
      split at p
      · rename_i hl
        refine ⟨a, k, vs, rfl, rfl, hq, fun e0 => hl.1 ?_, hl.2.1, hl.2.2.1, by rw [l.length]; exact hl.2.2.2, fun e1 => ?_, fun _ => Post.newT s (l.rep _) p⟩
        · subst e0
          cases l; rfl
        · subst e1
          have e2 : (List.replicate (Int.toNat 1) xs).flatten = xs := by
            show (List.replicate 1 xs).flatten = xs
            simp
          rw [e2] at p
          exact p W (Ext.refl W) s rfl _ h1
      · exact p.elim
    | _ => exact p.elim
  | _ => cases e <;> exact p.elim
/-! ### list(range(n)) -/
def oLR (x : D) (st : Store) : Res D := match x with
  | .int n => if 0 ≤ n ∧ n ≤ 16777216 then .ok (.lst (rgD 0 n.toNat)) st else .no
  | _ => .no
theorem den_rg {g : Gc} {W : Wd} (f : Nat → Int) : ∀ l : List Nat, DenL g W (l.map fun i => V.int (f i)) (l.map fun i => D.int (f i))
  | [] => .nil
  | x :: l => .cons (.int _) (den_rg f l)
theorem e_listR {X : Cx} {Wx : WX} {e : Expr} {m : Me} {p q p2 q2 : Pos} (hc : X.calm = true) (hg : Gl X "list") (hm : X.mg "list" = none) (hg2 : Gl X "range") (hm2 : X.mg "range" = none) (he : PE X e (fE (gc X) Wx m))
    (n1 : starEach [.Call (.Name "range" p2) [e] [] q2] X.env = (false, eval (.Call (.Name "range" p2) [e] [] q2) X.env) :: starEach [] X.env := by rfl) (n2 : starEach [e] X.env = (false, eval e X.env) :: starEach [] X.env := by rfl) :
    PE X (.Call (.Name "list" p) [.Call (.Name "range" p2) [e] [] q2] [] q) (fE (gc X) Wx (a1 oLR m)) :=
  PE.imp (pe_listRg hc hg hm (prg_1 hg2 hm2 he n2) n1) fun σ H Q h => by
    show fE (gc X) Wx m σ H fun x H1 => ∃ n, x = .int n ∧ RgOk 0 n ∧ ∀ q, H1 q = none → Q (.ref q) (upd H1 q (.lst (rgV 0 n)))
    refine fG_mono (lift1 h) fun v H' ⟨W, d, e0, s, hd, p⟩ => ?_
    subst e0
    cases d with
    | int n =>
      cases hd.int_inv
      dsimp only [oLR] at p
      split at p
      · rename_i hn
        refine ⟨n, rfl, RgOk.of_le (Int.le_refl _) hn.2 (by omega) hn.1, Post.newL s ?_ p⟩
        unfold rgV rgD
        rw [Int.sub_zero]
        exact den_rg (fun i => 0 + (i : Nat)) _
      · exact p.elim
    | _ => exact p.elim
end FL
end
section
set_option Elab.async false
set_option linter.all false
set_option maxRecDepth 100000
set_option maxHeartbeats 4000000
/-! FNL: [.. for .. in range(n)] while an error is handled. -/
namespace FL
open PySem PySem.Spec PyProof.Rows L2
/-! ### a range, walked -/
abbrev RgAt (h : Heap) (it : Addr) (lo : Int) (n i : Nat) : Prop := IsRangeIter h it (lo + (i : Int)) ((n : Int) - (i : Int)) 1
section
variable {X : Cx} {tg : Expr} {pins : List (Addr × Obj)} {σ : L2.St} {H : Hp} {s : Shared} {it : Addr} {lo : Int} {n i : Nat} {E : Value → Shared → Prop}
theorem RgAt.keep {h h' : Heap} (r : RgAt h it lo n i) (k : ∀ o, h.get? it = some o → h'.get? it = some o) : RgAt h' it lo n i := k _ r
theorem RgAt.obj {h : Heap} (r : RgAt h it lo n i) : ∃ o, h.get? it = some o ∧ ∀ v, o.data ≠ .cell v := ⟨_, r, fun v z => by
  have z' : Data.fields _ = Data.cell v := z
  cases z'⟩
theorem rg_next (I : Inv X pins σ H s) (f : FpOk X pins H it) (r : RgAt s.heap it lo n i) (hlt : i < n) :
    wpAny (model X.prog X.w) X.A (pyNext (.ref it)) (fun o s1 => ∃ u, o = some u ∧
      wpAny (model X.prog X.w) X.A (letOwnedTupleGo tg (.ref it) u) (fun _ s2 => Inv X pins σ H s2 ∧ RelV (.int (lo + (i : Int))) u ∧ RgAt s2.heap it lo n (i + 1)) E s1) E s := by
  obtain ⟨f0, f1, f2, f3, f4, f5⟩ := f
  refine wpAny_pyNext_range_item r (by omega) fun h' r' sb => ?_
  have J : Inv X pins σ H { s with heap := h', toks := s.toks + 1 } := I.turned (fun b o hb e => (sb.2 b hb).trans e) f0 f1 f3 f4 f5
  have r2 : RgAt h' it lo n (i + 1) := by
    have a : lo + (i : Int) + 1 = lo + ((i + 1 : Nat) : Int) := by omega
    have b : (n : Int) - (i : Int) - 1 = (n : Int) - ((i + 1 : Nat) : Int) := by omega
    unfold RgAt
    rw [← a, ← b]
    exact r'
  exact ⟨_, rfl, go_of (s := { s with heap := h', toks := s.toks + 1 }) (n := "range_iterator") r2 rfl rfl (by decide) ⟨J, ⟨s.toks, rfl⟩, r2⟩⟩
theorem rg_end (hc : HotS X) (I : Inv X pins σ H s) (f : FpOk X pins H it) (r : RgAt s.heap it lo n i) (hge : n ≤ i) :
    wpAny (model X.prog X.w) X.A (pyNext (.ref it)) (fun o s1 => o = none ∧ Inv X pins σ H s1) E s := by
  obtain ⟨f0, f1, f2, f3, f4, f5⟩ := f
  obtain ⟨x1, hot⟩ := hc.at I
  exact HotX.pyNext_range_end_hot hot r (by omega) fun h' k => ⟨rfl, I.turned (t' := s.toks) (fun b o _ e => k b o e) f0 f1 f3 f4 f5⟩
/-- an iterator of range(j), at its first turn -/
def RgNew (X : Cx) (pins : List (Addr × Obj)) (σ : L2.St) (Q : It → Hp → Prop) (w : Value) (s2 : Shared) : Prop :=
  ∃ (it : Addr) (n : Nat) (H2 : Hp), w = .ref it ∧ Inv X pins σ H2 s2 ∧ RgAt s2.heap it 0 n 0 ∧ FpOk X pins H2 it ∧ Q (Itr 0 n) H2
theorem rg_new {j : Int} {t u v : Tok} {tk : Nat} {Q : It → Hp → Prop} (I : Inv X pins σ H s) (j1 : -(2 ^ 62) ≤ j) (j2 : j < 2 ^ 62) (q : Q (Itr 0 j.toNat) H) :
    wpAny (model X.prog X.w) X.A (pyIter (.ref s.heap.objs.size)) (RgNew X pins σ Q) E { s with heap := s.heap.push { cls := .type "range", data := .fields #[.int 0 t, .int j u, .int 1 v] }, toks := tk } := by
  refine wpAny_pyIter_range (IsRange.new ..) (small_one (by omega) (by omega) j1 j2) ?_
  obtain ⟨h1, e1⟩ : ∃ h1, h1 = s.heap.push { cls := .type "range", data := .fields #[.int 0 t, .int j u, .int 1 v] } := ⟨_, rfl⟩
  have J : Inv X pins σ H { s with heap := h1, toks := tk } := by rw [e1]; exact I.kept fun b o e => Heap.get?_push_of_some _ e
  have ez : (0 : Int) + ((0 : Nat) : Int) = 0 := rfl
  have en : ((j.toNat : Nat) : Int) - ((0 : Nat) : Int) = Builtin.Range.rangeSize 0 j 1 := by rw [rangeSize_one]; split <;> omega
  refine ⟨_, j.toNat, H, rfl, ?_, ?_, ?_, q⟩
  · exact Inv.kept (t' := tk) (by rw [← e1]; exact J) fun b o e => Heap.get?_push_of_some _ e
  · show IsRangeIter _ _ ((0 : Int) + ((0 : Nat) : Int)) (((j.toNat : Nat) : Int) - ((0 : Nat) : Int)) 1
    rw [ez, en]
    exact Heap.get?_push_size _ rfl
  · have := J.fpOk (b := h1.objs.size) (Nat.le_refl _) (J.hok.fresh (Nat.le_refl _))
    rw [e1] at this
    exact this
/-- range(a): its iterator -/
theorem rg_start {a : Expr} {ta : TA} {p pos : Pos} {Q : It → Hp → Prop} (hg : Gl X "range") (hm : X.mg "range" = none) (ha : PA X [a] ta) (hs : starEach [a] X.env = [(false, eval a X.env)]) (I : Inv X pins σ H s) (h : iRng1 ta σ H Q) :
    wpAny (model X.prog X.w) X.A (eval (.Call (.Name "range" p) [a] [] pos) X.env) (fun v s1 => wpAny (model X.prog X.w) X.A (pyIter v) (RgNew X pins σ Q) X.xe s1) X.xe s := by
  refine Call_ (ld_blt I hg hm boot_range (PyProof.Rows.callWith_type1 (thn (ha.run pos pins s σ H _ I h) fun us s1 hh => ?_) hs rfl))
  obtain ⟨vs, H1, I1, rv, j, ej, j1, j2, q⟩ := hh
  subst ej
  cases rv with
  | cons r rr =>
    cases rr
    obtain ⟨t, rfl⟩ := r
    exact call_range_1 (rg_new I1 j1 j2 q)
end
/-! ### the comprehension -/
section
variable {X : Cx} {elt tg a : Expr} {ifs : List Expr} {scope : Scope} {own : List (Str × Nat)} {pos p ipos : Pos} {ta : TA} {g : TG} {tt : TT} {te : TE}
/-- what holds in the block of such a comprehension -/
def BlkS (X : Cx) (scope : Scope) (φ : Cx → Prop) : Prop := ∀ (s : Shared) (H : Hp) (C : Addr) (cl : List (Str × Addr)) (fp : List Addr), HotS (X.blk s H scope (compEnvC scope cl C X.env) fp) → φ (X.blk s H scope (compEnvC scope cl C X.env) fp)
theorem pe_lcS (hc : HotS X) (hN : X.N.Nodup) (hgr : Gl X "range") (hmr : X.mg "range" = none) (ha : PA X [a] ta) (ok : BlkOk X.N X.env.scope scope own)
    (hg : BlkS X scope fun Y => PG Y tg g) (ht : BlkS X scope fun Y => PTs Y ifs tt) (he : BlkS X scope fun Y => PE Y elt te)
    (hs : ∀ x, foldedSetIterable (.Call (.Name "range" p) [a] [] ipos) X.env x = pure x) (hst : starEach [a] X.env = [(false, eval a X.env)]) :
    PE X (.ListComp elt [⟨tg, .Call (.Name "range" p) [a] [] ipos, ifs, 0⟩] scope pos) (tLc (iRng1 ta) g tt te (own.map (·.2))) := by
  refine ⟨fun pins s σ H Q I h => ?_⟩
  have hfree : ∀ y ∈ scope.names, y.2 = .free → ∃ c, X.env.cells.lookup y.1 = some c := fun y hy e => I.ok.has _ ((ok.free y hy e).imp id id)
  rw [eval_ListComp]
  refine wpAny_comprehension_free (use := none) rfl hs (closure_ok hfree) ok.kind (fun y hy e => by rw [ok.uniq y hy, e]) (thn (rg_start hgr hmr ha hst I h) fun xv s1 hx => thn hx fun itv s2 h2 => ?_)
  obtain ⟨it, n, H2, rfl, I2, r2, f2, q⟩ := h2
  refine wpAny_newObj_type (newEnv_comp ?_) (by show 0 ≤ sizeLine; decide)
  -- the list that grows
  obtain ⟨D, hD⟩ : ∃ D, D = s2.heap.objs.size := ⟨_, rfl⟩
  obtain ⟨W, ⟨m0, w0⟩, turn⟩ := q D (I2.hok.fresh (Nat.le_of_eq hD.symm))
  obtain ⟨H3, hH3⟩ : ∃ H3, H3 = upd H2 D (.lst []) := ⟨_, rfl⟩
  obtain ⟨s3, hs3⟩ : ∃ s3, s3 = ({ s2 with heap := s2.heap.push { cls := .type "list", data := .seq ([] : List Value).toArray } } : Shared) := ⟨_, rfl⟩
  have I3 : Inv X pins σ H3 s3 := by
    rw [hs3, hH3]
    refine I2.laid (t' := s2.toks) (fun b o e => Heap.get?_push_of_some _ e) (Nat.le_of_eq hD.symm) ⟨Nat.zero_le _, [], 0, .nil, ?_⟩
    rw [hD]
    exact Heap.get?_push_size _ rfl
  have lt2 : it < s2.heap.objs.size := Heap.lt_size (show s2.heap.get? it = some _ from r2)
  have k3 : ∀ b o, s2.heap.get? b = some o → s3.heap.get? b = some o := fun b o e => by rw [hs3]; exact Heap.get?_push_of_some _ e
  have f3 : FpOk X pins H3 it := ⟨by rw [hH3, upd_ne (by rw [hD]; exact Nat.ne_of_lt lt2)]; exact f2.1, f2.2⟩
  have lt3 : it < s3.heap.objs.size := Heap.lt_size (k3 _ _ r2)
  have hot : ∀ ce : Env, HotS (X.blk s3 H3 scope ce [it]) := fun ce => hc.to I3
  have I4 := block_start I3 ok hN (fp := [it]) fun b hb => by
    have e : b = it := by simpa using hb
    subst e
    exact ⟨f3, lt3⟩
  have pg := hg s3 H3 s3.heap.objs.size (cellsFrom (s3.heap.objs.size + 1) scope.names (cloFrom X.env.cells scope.names [])) [it] (hot _)
  have pt := ht s3 H3 s3.heap.objs.size (cellsFrom (s3.heap.objs.size + 1) scope.names (cloFrom X.env.cells scope.names [])) [it] (hot _)
  have pe := he s3 H3 s3.heap.objs.size (cellsFrom (s3.heap.objs.size + 1) scope.names (cloFrom X.env.cells scope.names [])) [it] (hot _)
  have goal : codeAny (model X.prog X.w) X.A (.compStart (.ListComp elt [⟨tg, .Call (.Name "range" p) [a] [] ipos, ifs, 0⟩] scope pos) 0 (.ref it) (.ref D) (compEnvC scope (cellsFrom (s3.heap.objs.size + 1) scope.names (cloFrom X.env.cells scope.names [])) s3.heap.objs.size X.env))
      (compPost (model X.prog X.w) X.A X.xe none (EP X pins σ Q) (.ref D) s3.heap.objs.size) { s3 with heap := pushCells (s3.heap.push { cls := .type "dict", data := .dict #[] }) scope.names } := by
    obtain ⟨ce, hce⟩ : ∃ ce, ce = compEnvC scope (cellsFrom (s3.heap.objs.size + 1) scope.names (cloFrom X.env.cells scope.names [])) s3.heap.objs.size X.env := ⟨_, rfl⟩
    rw [← hce] at I4 pg pt pe ⊢
    have cL : ce.locals = s3.heap.objs.size := by rw [hce]; rfl
    have hotB := hot ce
    obtain ⟨s4, hs4⟩ : ∃ s4, s4 = ({ s3 with heap := pushCells (s3.heap.push { cls := .type "dict", data := .dict #[] }) scope.names } : Shared) := ⟨_, rfl⟩
    rw [← hs4] at I4 ⊢
    have r4 : RgAt s4.heap it 0 n 0 := by rw [hs4]; exact pushCells_keeps _ _ _ _ (Heap.get?_push_of_some _ (k3 _ _ r2))
    have exI : it ∈ (X.blk s3 H3 scope ce [it]).ex := List.mem_cons_self
    have stat : ∀ {σ' : L2.St} {H' : Hp} {s' : Shared}, Inv (X.blk s3 H3 scope ce [it]) [] σ' H' s' → H' it = none → FpOk (X.blk s3 H3 scope ce [it]) [] H' it := fun {σ' H' s'} I' hn =>
      ⟨hn, (I'.ok.exf it exI).1, I'.ok.exfs it exI, .inl exI, fun x c e => (I'.ok.exf it exI).2 x c e, fun p hp => absurd (show p ∈ ([] : List (Addr × Obj)) ++ [] from hp) (by simp)⟩
    have loop : codeAny (model X.prog X.w) X.A (.compLoop (.ListComp elt [⟨tg, .Call (.Name "range" p) [a] [] ipos, ifs, 0⟩] scope pos) 0 (.ref it) (.ref D) ce) (compPost (model X.prog X.w) X.A X.xe none (EP X pins σ Q) (.ref D) s3.heap.objs.size) s4 := by
      refine compLoop_any (fun m s' => ∃ i H', Inv (X.blk s3 H3 scope ce [it]) [] (wipe σ (own.map (·.2))) H' s' ∧ RgAt s'.heap it 0 n i ∧ H' it = none ∧ W i m H') ?_ m0 ⟨0, H3, I4, r4, f3.1, by rw [hH3]; exact w0⟩
      rintro m s5 ⟨i, H5, I5, r5, n5, w5⟩
      rcases turn i m H5 w5 with ⟨stop, qq⟩ | ⟨go, Nx, hNx, step⟩
      · refine thnF (rg_end (X := X.blk s3 H3 scope ce [it]) (E := fun _ _ => False) hotB I5 (stat I5 n5) r5 stop) fun o s6 ⟨ho, I6⟩ => ?_
        subst ho
        have I7 : Inv X pins σ H5 s6 := I3.call' (ch := [it]) I6.os I6.base I6.hok I6.bare fun b hb => by
          have e : b = it := by simpa using hb
          subst e
          exact ⟨f3.2.2.2.1, f3.2.1, f3.2.2.2.2.1, f3.2.2.2.2.2⟩
        have nC : H5 s3.heap.objs.size = none := by rw [← cL]; exact I6.free
        obtain ⟨k, hn, _⟩ := I6.loc
        have hn : s6.heap.Ns ce.locals k := hn
        rw [cL] at hn
        obtain ⟨f0, f1, f2, f4, f5, f6⟩ := I3.fpOk (b := s3.heap.objs.size) (H' := H5) (Nat.le_refl _) nC
        exact ⟨k, hn, fun h' sb => ⟨.ref D, H5, I7.turned (t' := s6.toks) (fun b o hb e => (sb.2 b hb).trans e) f0 f1 f4 f5 f6, rfl, qq⟩⟩
      · refine thnF (rg_next (X := X.blk s3 H3 scope ce [it]) (tg := tg) (E := fun _ _ => False) I5 (stat I5 n5) r5 go) fun o s6 ⟨u, ho, h6⟩ => ?_
        subst ho
        refine thnF h6 fun _ s7 ⟨I7, rv, r7⟩ => ?_
        have fpI : ∀ b ∈ [it], FpOk (X.blk s3 H3 scope ce [it]) [] H5 b := fun b hb => by
          have e : b = it := by simpa using hb
          subst e
          exact stat I7 n5
        have I8 := I7.pinned (fp := [it]) fpI fun b hb => by
          have e : b = it := by simpa using hb
          subst e
          exact r7.obj
        have e0 : (0 : Int) + (i : Int) = (0 : Int) + ((i : Nat) : Int) := rfl
        refine thnF (pg.run _ s7 _ H5 (.int (0 + (i : Int))) u _ I8 rv (step _ H5 ⟨rfl, rfl⟩)) fun _ s8 ⟨σ8, H8, I9, hw8, q8⟩ => ?_
        refine thnF (pt.run _ s8 σ8 H8 _ I9 q8) fun b s9 ⟨H9, I10, q9⟩ => ?_
        have fin : ∀ {s' : Shared} {H' : Hp}, Inv (X.blk s3 H3 scope ce [it]) ([] ++ pinsAt [it] s7.heap) σ8 H' s' → Nx H' → ∃ m', m' < m ∧ ∃ i H', Inv (X.blk s3 H3 scope ce [it]) [] (wipe σ (own.map (·.2))) H' s' ∧ RgAt s'.heap it 0 n i ∧ H' it = none ∧ W i m' H' := fun {s' H'} I' nx => by
          obtain ⟨m', hm, w'⟩ := hNx H' nx
          have hp := I'.pin (it, _) (List.mem_append_right _ (List.mem_append_right _ (mem_pinsAt (List.mem_cons_self) (show s7.heap.get? it = some _ from r7))))
          have hl : (wipe σ (own.map (·.2))).length = σ8.length := by rw [← hw8, wipe_length]
          refine ⟨m', hm, i + 1, H', (I'.unpinned (pins := [])).weak hl (fun j v e => ?_), hp.1, hp.2.1, w'⟩
          rw [← hw8] at e
          exact (wipe_some e).1
        cases b with
        | false =>
          simp only [Bool.false_eq_true, if_false] at q9 ⊢
          exact fin I10 q9
        | true =>
          simp only [if_true] at q9 ⊢
          refine thnF (pe.run _ s9 σ8 H9 _ I10 q9) fun z s10 ⟨yv, H10, I11, r10, acc, hD10, hz10, nx⟩ => ?_
          exact app_ok (X := X.blk s3 H3 scope ce [it]) I11 hD10 hz10 r10 fun s11 I12 => fin I12 nx
    exact codeAny_compStart_list loop (wpAny_pyIter_rangeiter r4 loop)
  rw [hD, hs3] at goal
  exact goal
/-- over data -/
theorem e_lcS {Wx : WX} {ma : Ma} {k : Mg} {t : Mt} {m : Me} (hc : HotS X) (hN : X.N.Nodup) (hgr : Gl X "range") (hmr : X.mg "range" = none) (ha : PA X [a] (fA (gc X) Wx ma)) (ok : BlkOk X.N X.env.scope scope own)
    (hg : BlkS X scope fun Y => PG Y tg (fTg (gc X) noX (own.map (·.2)) k)) (ht : BlkS X scope fun Y => PTs Y ifs (fT (gc X) noX t)) (he : BlkS X scope fun Y => PE Y elt (fE (gc X) noX m))
    (hs : ∀ x, foldedSetIterable (.Call (.Name "range" p) [a] [] ipos) X.env x = pure x := by intro _; rfl) (hst : starEach [a] X.env = [(false, eval a X.env)] := by rfl) :
    PE X (.ListComp elt [⟨tg, .Call (.Name "range" p) [a] [] ipos, ifs, 0⟩] scope pos) (fE (gc X) Wx (mLc (own.map (·.2)) (iR1 ma) k t m)) :=
  PE.imp (pe_lcS hc hN hgr hmr ha ok hg ht he hs hst) fun σ H Q h => by
    have h' : tLc (fI (gc X) Wx (iR1 ma)) (fTg (gc X) noX (own.map (·.2)) k) (fT (gc X) noX t) (fE (gc X) noX m) (own.map (·.2)) σ H Q := lc_im h fun W W2 p us ys a1 a2 a3 a4 a5 a6 a7 a8 => lc_frozen a1 a2 a3 a4 a5 a6 a7 a8
    obtain ⟨W, env, rfl, sr, r, pp⟩ := h'
    refine ⟨W, env, rfl, sr, r, ?_⟩
    dsimp only [iR1] at pp
    cases q : ma env W.st with
    | exc x st1 => rw [q] at pp; exact pp
    | no => rw [q] at pp; exact pp
    | ok ds st1 =>
      rw [q] at pp
      intro W1 e1 s1 hs1 vs hv
      cases hv with
      | nil => exact pp.elim
      | @cons v d vs ds h1 tl =>
        cases tl with
        | cons _ _ => cases d <;> exact pp.elim
        | nil =>
          cases d with
          | int j =>
            cases h1.int_inv
            dsimp only [Res.bind] at pp
            split at pp
            · rename_i hj
              exact ⟨j, rfl, hj.1, hj.2, pp W1 e1 s1 hs1 _ (it_rng 0 j.toNat)⟩
            · exact pp.elim
          | _ => exact pp.elim
end
end FL
/-! ### all([..]) while an error is handled -/
namespace FL
open PySem PySem.Spec PyProof.Rows L2
theorem list_end_hot {prog : Program} {w : World} {A : Around} {E : Value → Shared → Prop} {s : Shared} {it l x1 : Addr} {i : Nat} {items : Array Value} {Q : Option Value → Shared → Prop} (hot : HotX.HotAt A x1 s.heap) (hne : x1 ≠ it)
    (hit : s.heap.IsListIter it l i) (hl : s.heap.IsList l items) (hx : items[i]? = none) (hQ : ∀ h', Heap.ExtBut it s.heap h' → Q none { s with heap := h' }) : wpAny (model prog w) A (pyNext (.ref it)) Q E s := by
  obtain ⟨o, ho, hc, hd⟩ := id hit
  obtain ⟨ol, hol, _, nl, hdl⟩ := hl
  obtain ⟨hh, o1, vs1, g1, d1, c1⟩ := hot
  unfold pyNext
  refine wpAny_bind (wpAny_attempt (wpAny_callSpecial?_slot (name := Str.ofString "__next__") hit.typeIs slot_listiter_next (wpAny_call_entry slot_listiter_next hit.typeIs entry_listiter_next ?_ (args_listiter_next _))))
  show wpAny _ _ (field (.ref it) 0 >>= _) _ _ s
  refine wpAny_bind (wpAny_field ho hd (x := .ref l) rfl ?_)
  show wpAny _ _ (if (Value.ref l == Value.none) = true then _ else _) _ _ s
  rw [if_neg (by exact Bool.false_ne_true)]
  show wpAny _ _ (field (.ref it) 1 >>= _) _ _ s
  refine wpAny_bind (wpAny_field ho hd (x := .int i 0) rfl ?_)
  show wpAny _ _ (seqItems? (.ref l) >>= _) _ _ s
  refine wpAny_bind (wpAny_seqItems hol hdl ?_)
  simp only [Int.toNat_natCast, hx]
  refine wpAny_bind (wpAny_rule (wpAny_bind (wpAny_setField ho hd (by simp) ?_)))
  show wpAny _ _ (newExc (.type "StopIteration") [] >>= _) _ _ _
  refine wpAny_bind ?_
  simp only [newExc, newTuple]
  refine wpAny_bind (wpAny_newObj_type ?_ (by size_fits))
  refine wpAny_bind (m := firstArgMember _ _) (wpAny_of_eq (a := Value.none) (by first | rfl | (simp only [firstArgMember]; rfl)) ?_)
  refine wpAny_newObj_type ?_ (by size_fits)
  have kk : ∀ b ob, b ≠ it → s.heap.get? b = some ob → (s.heap.update it (Obj.mapFields (·.setIfInBounds 0 Value.none))).get? b = some ob := fun b ob hb e => by rw [Heap.get?_update_other _ _ (Ne.symm hb)]; exact e
  refine HotX.raiseNew_hot ⟨hh, o1, vs1, Heap.get?_push_of_some _ (Heap.get?_push_of_some _ (kk x1 o1 hne g1)), d1, c1⟩ (Nat.ne_of_lt (Heap.lt_size (Heap.get?_push_of_some _ (kk x1 o1 hne g1)))) (Heap.get?_push_size _ rfl) rfl (by first | (simp; done) | (simp; omega) | (simp only [Array.size_append]; simp; omega)) ?_
  refine wpAny_bind (wpAny_isInstance (T := "StopIteration") (b := true) ⟨_, Heap.get?_update_self _ (Heap.get?_push_size _ rfl) rfl, rfl⟩ isSubtype_stop ?_)
  refine wpAny_pure (hQ _ fun b ob hb e => ?_)
  rw [Heap.get?_update_other _ _ (Nat.ne_of_gt (Heap.lt_size (Heap.get?_push_of_some _ (kk b ob hb e))))]
  exact Heap.get?_push_of_some _ (Heap.get?_push_of_some _ (kk b ob hb e))
theorem walks_hot {prog : Program} {w : World} {A : Around} (I ax x1 : Addr) (o1 : Obj) (vs1 : Array Value) (hh : A.handled = some (.ref x1)) (d1 : o1.data = .fields vs1) (c1 : vs1[2]? = some .none) (hne : ax ≠ I) (hx : x1 ≠ I) (items : Array Value) :
    Walks prog w A I [I, ax, x1] [I] items.size (fun i v => items[i]? = some v) (fun i h => h.IsListIter I ax i ∧ h.IsList ax items ∧ h.get? x1 = some o1) where
  sub := fun b hb => by simp at hb; simp [hb]
  frame := fun _ _ _ st hk => ⟨st.1.at fun o e => hk I (by simp) o e, st.2.1.at fun o e => hk ax (by simp) o e, hk x1 (by simp) _ st.2.2⟩
  item := fun i s Q E hi st hQ => by
    refine wpAny_pyNext_list_item st.1 st.2.1 (x := items[i]) (by simp [hi]) fun h' hit' hs' => ?_
    exact hQ _ h' s.toks (by simp [hi]) ⟨hit', st.2.1.extBut hs'.extBut hne, hs'.extBut _ _ hx st.2.2⟩ fun b o hb e => hs'.extBut b o (fun h => hb (by simp [h])) e
  done := fun s Q E st hQ => list_end_hot ⟨hh, o1, vs1, st.2.2, d1, c1⟩ hx st.1 st.2.1 (by simp) fun h' he' => hQ h' s.toks fun b o hb e => he' b o (fun h => hb (by simp [h])) e
  self := fun _ _ _ _ st hQ => wpAny_pyIter_listiter st.1 hQ
theorem cr_allS {X : Cx} (hc : HotS X) : CallR X (.builtin "all") (rAll X.K) := by
  intro pins s σ H vs us Q I r h
  obtain ⟨a, bs, rfl, hs, q⟩ := h
  obtain ⟨its, rv, hl, _⟩ := I.list hs
  obtain ⟨x1, hh, o1, vs1, g1, d1, c1⟩ := hc.at I
  rw [Vals.ref1 r]
  have hb := rv.bls
  refine call_all_walk (iter_any hl.isList fun s₂ e2 st hne => ?_)
  subst e2
  refine ⟨_, _, _, _, _, _, _, rfl, walks_hot (A := X.A.in1) _ a x1 o1 vs1 hh d1 c1 hne (Nat.ne_of_lt (Heap.lt_size g1)) its.toArray, ⟨st.1, st.2, Heap.get?_push_of_some _ g1⟩, truth_bools hb, fun h' tk hk => ?_⟩
  refine ⟨.bl _, H, I.kept fun b o eo => hk b o (fun hm => ?_) (Heap.get?_push_of_some _ eo), ?_, q⟩
  · have hm : b = s.heap.objs.size := by simpa using hm
    rw [hm] at eo
    exact absurd (Heap.lt_size eo) (Nat.lt_irrefl _)
  · show Value.bool _ = Value.bool _
    rw [← L2.all_range, hb, List.size_toArray, List.length_map]
end FL
end
section
set_option Elab.async false
set_option linter.all false
set_option maxRecDepth 100000
set_option maxHeartbeats 4000000
/-! FNM: errors raised where nothing is handled, kept with the knowledge that their context is None. -/
namespace FL
open PySem PySem.Spec PyProof.Rows L2
section
variable {X : Cx}
theorem pmk_oexN {x : Str} {e : Expr} {es : List Expr} {ta : TA} {p pos : Pos} {C fI : Addr} {k : Nat} {fd : FuncData} {ps : List Str} {sp : Sp} (T : OexC X.K C) (iC : PySem.W.findIn X.K (.ref C) "__init__" = some (some (.ref fI))) (tI : PySem.W.typeIn X.K (.ref fI) = some (.type "function"))
    (F1 : FnOk X.prog X.w X.K X.mg X.base (L2.CX X.prog X.w) k fI fd ps sp) (hr : Room (k + 1) X.A) (hb : Binds X.K fd ps []) (hg : Gl X x) (hm : X.mg x = some (.ref C)) (ha : PA X (e :: es) ta)
    (hdb : (x == ("__debug__" : Str)) = false := by decide) (he : starEach (e :: es) X.env = (false, eval e X.env) :: starEach es X.env := by rfl) (hpl : (backTo pos (starEach es X.env)).any (·.1) = false := by rfl) :
    L2N.PMk X (.Call (.Name x p) (e :: es) [] pos) (tMkO C sp [] ta) := by
  intro pins s σ H Q I h
  obtain ⟨nm, q, N, bs, bm, sn, sub, ab, col, dd, k0, k1, k2, k3, k5, hC, hbm⟩ := T.cls
  refine wpAny_Call_Name_kw (ld_glob I hg hm ?_ hdb)
  refine PySem.W.callWith_K (h₀ := X.base) I.ok.mod.kin T.kC (thn (ha.run pos pins s σ H _ I h) fun us s1 hh => ?_) he hpl
  obtain ⟨vs, H1, I1, r1, hz, q1⟩ := hh
  refine ⟨I1.kIn, ?_⟩
  show wpAny _ _ (call (.ref C) us) _ _ _
  obtain ⟨hp, gn, dr, tk, os⟩ := s1
  -- the tuple of the arguments, then the error
  obtain ⟨n, en⟩ : ∃ n, n = hp.objs.size + 1 := ⟨_, rfl⟩
  obtain ⟨h2, eh⟩ : ∃ h2, h2 = (hp.push (PySem.W.kdv_tup us)).push (PySem.HandSPX.excO C hp.objs.size) := ⟨_, rfl⟩
  have hsz : hp.objs.size ≤ hp.objs.size + 1 := Nat.le_succ _
  have kk : ∀ b o, hp.get? b = some o → ((hp.push (PySem.W.kdv_tup us)).push (PySem.HandSPX.excO C hp.objs.size)).get? b = some o := fun b o e => Heap.get?_push_of_some _ (Heap.get?_push_of_some _ e)
  have at_ : ((hp.push (PySem.W.kdv_tup us)).push (PySem.HandSPX.excO C hp.objs.size)).get? (hp.objs.size + 1) = some (PySem.HandSPX.excO C hp.objs.size) := by heap_get
  have hq := q1 (hp.objs.size + 1) (I1.hok.fresh hsz)
  rw [List.append_nil] at hq
  have I2 : Inv X pins σ (upd H1 (hp.objs.size + 1) (exo (hp.objs.size + 1) C none)) ⟨(hp.push (PySem.W.kdv_tup us)).push (PySem.HandSPX.excO C hp.objs.size), gn, dr, tk, os⟩ := I1.laid (t' := tk) (h' := (hp.push (PySem.W.kdv_tup us)).push (PySem.HandSPX.excO C hp.objs.size)) kk hsz (exo_ok at_)
  have r2 : Vals (V.ref (hp.objs.size + 1) :: vs) (Value.ref (hp.objs.size + 1) :: us) := .cons rfl r1
  have hl : (Value.ref (hp.objs.size + 1) :: us).length = ps.length := by rw [← F1.len _ _ _ _ hq]; exact r2.length.symm
  have hus : us.length ≤ sizeLine := by
    rw [← Paired.length r1, sizeLine_eq]
    omega
  have b2 := hb _ (Value.ref (hp.objs.size + 1) :: us) I2.kIn (by rw [List.append_nil]; exact hl)
  rw [List.append_nil] at b2
  have run := F1.run _ X.stack _ _ ⟨Value.ref (hp.objs.size + 1) :: us, []⟩ (Value.ref (hp.objs.size + 1) :: us) _ _ (fun _ _ _ => False) (hr.make C us []) (I2.env0.make C us []) b2 r2 hq
  refine wpAny_call (PySem.HandSPX.call_own F.excBase_ValueError (fun Y => PySem.HandSPX.refsVE_contains Y bm hbm) (I1.kIn _ _ hC) (PySem.W.looks_findIn I1.kIn iC) (fun self => PySem.W.bind_fn I1.kIn self tI) hus (codeAny_mono run fun r s' hq' => ?_))
  match r, hq' with
  | .error er, hq' =>
    obtain ⟨_, _, _, _, _, _, _, _, _, _, _, _, z⟩ := hq'
    exact z.elim
  | .ok (.ret u), hq' =>
    obtain ⟨v, H2, os2, bare2, un2, hok2, rv, ev, d, fs, ea, ed, hd1, q2⟩ := hq'
    subst ev
    obtain ⟨h2, g2, d2, t2, os'⟩ := s'
    obtain ⟨t0, G, J, kG, ge, hoe, na⟩ := mk_end0 (d2 := d2) (t2 := t2) I1 hsz kk un2 hok2 os2 bare2 ea ed hd1
    exact ⟨rv, ⟨hp.objs.size + 1, _, _, ⟨G, g2, d2, t2, os'⟩, _, .ref C, some d, rfl, J, kG, ge, hoe, ⟨rfl, rfl, fun vs hv => by cases hv; rfl⟩, rfl, rfl, na, rfl, bare2, raises_own T.exC T.tyC, q2⟩⟩
  | .ok .next, hq' => exact False.elim hq'
  | .ok .brk, hq' => exact False.elim hq'
  | .ok .cont, hq' => exact False.elim hq'
theorem pmk_own0N {C : Addr} {bmB : List Value} {B newId initId : String} {x : Str} {p pos : Pos} (F : ExcBaseFacts B newId initId bmB) (q : PySem.W.excIn X.K C bmB newId = true) (gC : X.mg x = some (.ref C)) (kC : PySem.W.keepIn X.K (.ref C) = true) (r : Raises X (.ref C)) (hg : Gl X x)
    (hdb : (x == ("__debug__" : Str)) = false := by decide) : L2N.PMk X (.Call (.Name x p) [] [] pos) (fun _ H Q => Q (.ref C) none H) := by
  intro pins s σ H Q I h
  refine wpAny_Call_Name_kw (ld_glob I hg gC ?_ hdb)
  refine PySem.W.callWith_K0 I.kIn kC ?_
  show wpAny _ _ (call (.ref C) []) _ _ _
  obtain ⟨bm, N, nm, qn, bs, hdct, sn, sub, ab, col, dd, k0, k1, k2, k3, k5, mN, hC, hN, hni, T⟩ := exc_obj I.kIn q
  exact wpAny_call_exc_subT F T hC hN hni (fun h' e hm => L2N.mk_of I hm r h (I.hok.gone hm.new)) (Nat.zero_le _)
end
/-! ### as statements -/
section
variable {X : Cx} {Wx : WX} {ml : Ma} {c : S} {fl : List S} {x : Str} {e : Expr} {es : List Expr} {p pos pos2 : Pos} {k j : Nat}
theorem c_raiseN (G : IOk X.prog X.w X.K X.mg X.base c k fl) (hr : Room j X.A) (hj : k + 1 ≤ j) (hc : X.calm = true) (tk : L2N.Takes X Wx) (h0 : fl ≠ []) (h9 : fl.length ≤ 1000) (hg : Gl X x) (hm : X.mg x = some (.ref (He.ga X.K (toS c))))
    (ha : PA X (e :: es) (fA (gc X) Wx ml)) (hdb : (x == ("__debug__" : Str)) = false := by decide) (he : starEach (e :: es) X.env = (false, eval e X.env) :: starEach es X.env := by rfl) (hpl : (backTo pos (starEach es X.env)).any (·.1) = false := by rfl) :
    PS X (.Raise (some (.Call (.Name x p) (e :: es) [] pos)) none pos2) (fS (gc X) Wx (mRaise c fl ml)) := by
  obtain ⟨fI, fd, ps, T, iC, tI, F1, hb⟩ := G
  exact PS.imp (L2N.ps_raise hc tk (pmk_oexN T iC tI F1 (hr.mono hj) hb hg hm ha hdb he hpl)) fun D σ H h => raise_read h0 h9 h
theorem c_raise0N (hc : X.calm = true) (tk : L2N.Takes X Wx) (hg : Gl X x) (hm : X.mg x = some (.ref (He.ga X.K (toS c)))) (ho : ownXB X.K c = true) (hdb : (x == ("__debug__" : Str)) = false := by decide) :
    PS X (.Raise (some (.Call (.Name x p) [] [] pos)) none pos2) (fS (gc X) Wx (mRaise0 c)) := by
  obtain ⟨h1, ho⟩ := ba2 ho
  obtain ⟨h2, ho⟩ := ba2 ho
  obtain ⟨h3, h4⟩ := ba2 ho
  refine PS.imp (L2N.ps_raise hc tk (pmk_own0N PySem.F.excBase_ValueError h1 hm h2 (raises_own (of_decide_eq_true h3) (of_decide_eq_true h4)) hg hdb)) fun D σ H h => ?_
  obtain ⟨W, env, rfl, s, r, p⟩ := h
  exact p W σ (Ext.refl W) s rfl r _ _ ⟨rfl, rfl⟩
end
/-! ### defs that raise so -/
def FOkX (P : Program) (w : World) (K : PySem.W.Frag) (mg : Str → Option Value) (base : Heap) (at_ : Str × Option Str) (k : Nat) (ps : List Str) (F : List D → Store → Res D) : Prop :=
  ∃ fd, FnOk P w K mg base (L2N.CX P w) k (He.fAd K at_) fd ps (spF ⟨P, w, K⟩ F) ∧ Binds K fd ps [] ∧ PySem.W.keepIn K (.ref (He.fAd K at_)) = true
section
variable {P : Program} {w : World} {K : PySem.W.Frag} {mg : Str → Option Value} {base : Heap}
theorem fokX_of {d : He.DefD} {N ps : List Str} {k : Nat} {b : Ms} {keep : Bool} (hF : ∃ fd, FunD K d.name d.qual d.params d.body d.scope (d.dvs K) (d.kws K) (He.fAd K d.at_) fd) (h0 : d.dfl = []) (S : FnScope N ps d.scope)
    (hbind : ∀ (kV doc pm : Value) (an : Option Addr) (cdv ct : Value) (us : List Value), us.length = ps.length → bindArgs (PySem.W.fnOf d.name d.qual d.params d.body d.scope .none kV doc pm an cdv ct) ⟨us, []⟩ = pure (ps.zip us))
    (hb : ∀ (cdv : Value) (A : Around) (outer : List Env) (s : Shared) (H : Hp) (E : XK), Room k (A.deeper (envOfC d.qual d.scope s.heap.objs.size (He.fAd K d.at_) cdv)) →
      PSs (cxOf (L2N.CX P w) P w K mg base N d.qual d.scope (He.fAd K d.at_) cdv A outer s H E) d.body (fS ⟨P, w, K⟩ (fun cls dd _ H => E cls dd H) b)) :
    FOkX P w K mg base d.at_ (k + 1) ps (mkF keep ps.length N.length b) := by
  obtain ⟨fd, F⟩ := hF
  have F' : FunD K d.name d.qual d.params d.body d.scope [] (d.kws K) (He.fAd K d.at_) fd := by
    have e : d.dvs K = [] := by unfold He.DefD.dvs; rw [h0]; rfl
    rw [← e]; exact F
  refine ⟨fd, F'.ok S (fun vs H Q E h => ?_) (fun cdv A outer s H vs Q E hr h => ⟨_, hb cdv A outer s H E hr, ?_⟩), F'.bindsN hbind, F.kp⟩
  · obtain ⟨W, ds, rfl, s, l, p⟩ := h
    dsimp only [mkF] at p
    split at p
    · rw [l.length]; assumption
    · exact p.elim
  · obtain ⟨W, ds, rfl, s, l, p⟩ := h
    dsimp only [mkF] at p
    split at p
    · rename_i hn
      exact mk_body S.pre l hn s p
    · exact p.elim
end
section
variable {X : Cx} {Wx : WX} {j k : Nat} {ps : List Str} {F : List D → Store → Res D} {x : Str} {p pos : Pos} {e : Expr} {es : List Expr} {ml : Ma}
theorem c_callX (G : FOkX X.prog X.w X.K X.mg X.base (x, none) k ps F) (hr : Room j X.A) (hj : k ≤ j) (tk : L2N.Takes X Wx) (hg : Gl X x) (hm : X.mg x = some (.ref (He.ga X.K x)))
    (ha : PA X (e :: es) (fA (gc X) Wx ml)) (hdb : (x == ("__debug__" : Str)) = false := by decide) (he : starEach (e :: es) X.env = (false, eval e X.env) :: starEach es X.env := by rfl) (hpl : (backTo pos (starEach es X.env)).any (·.1) = false := by rfl) :
    PE X (.Call (.Name x p) (e :: es) [] pos) (fE (gc X) Wx (aL F ml)) := by
  obtain ⟨fd, G, hb, hk⟩ := G
  exact PE.imp (pe_callS G (hr.mono hj) hg hm hk hb (L2N.passAt tk) ha hdb he hpl) fun σ H Q h => by
    dsimp only [tCallS]
    exact fG_mono (liftL h) fun vs H' ⟨W, ds, e0, s, l, p⟩ => ⟨W, ds, e0, s, l, p⟩
end
end FL
end
section
set_option Elab.async false
set_option linter.all false
set_option maxRecDepth 100000
set_option maxHeartbeats 4000000
namespace G13
open PySem PySem.Spec PyProof.Rows L2 FL NdefX

abbrev N__law_random : List Str := ["_law_script", "_law_salt", "_law_seed", "_law_cell"]
abbrev P__law_random : List Str := ["_law_script", "_law_salt"]
theorem sc__law_random : FnScope N__law_random P__law_random (defScope st__law_random) := sc_of (by decide +kernel)
theorem nd__law_random : (N__law_random).Nodup := by decide +kernel
def b__law_random : Ms := (mSeq (mSet 2 (aVar 1)) (mSeq (mFor (iScr (aVar 0)) (gN 3) (mSet 2 (a2 oMod (aL (on1 oInt) (mCons (a2 oAdd (a2 (oMu false) (aVar 2) (aC (.int 31))) (aL (on1 oAbs) (mCons (aVar 3) mNil))) mNil)) (aC (.int 2147483647))))) (mRet (a2 (oCat true) (aL oLst (mCons (aVar 2) (mCons (aC (.int 0)) mNil))) (mLc [3] (iScr (aVar 0)) (gN 3) (tB (a2 oGe (aVar 3) (a2 oPow (aC (.int 10)) (aC (.int 18))))) (aVar 3))))))
def F__law_random : List D → Store → Res D := mkF true 2 4 b__law_random
abbrev N__law_below : List Str := ["_law_d", "_law_size", "_law_result"]
abbrev P__law_below : List Str := ["_law_d", "_law_size"]
theorem sc__law_below : FnScope N__law_below P__law_below (defScope st__law_below) := sc_of (by decide +kernel)
theorem nd__law_below : (N__law_below).Nodup := by decide +kernel
def b__law_below : Ms := (mSeq (mIfS (tAn (tB (a2 oEq (a2 oIx (aVar 0) (aC (.int 1))) (aC (.int 0)))) (tB (a2 oGt (aL (on1 oLen) (mCons (aVar 0) mNil)) (aC (.int 2))))) (mAsgO (mBm tyL lPopAt (aVar 0) (mCons (aC (.int 2)) mNil)) (gIx (aVar 0) (aC (.int 1)))) mPass) (mSeq (mIfS (tB (a2 oGt (a2 oIx (aVar 0) (aC (.int 1))) (aC (.int 0)))) (mSeq (mSet 2 (a2 oMod (aL (on1 oInt) (mCons (a2 oIx (aVar 0) (aC (.int 1))) mNil)) (aVar 1))) (mSeq (mAsgO (a2 oDiv (a2 oIx (aVar 0) (aC (.int 1))) (aVar 1)) (gIx (aVar 0) (aC (.int 1)))) (mRet (aVar 2)))) mPass) (mSeq (mAsgO (a2 oMod (aL (on1 oInt) (mCons (a2 oAdd (a2 (oMu false) (a2 oIx (aVar 0) (aC (.int 0))) (aC (.int 48271))) (aC (.int 11))) mNil)) (aC (.int 2147483647))) (gIx (aVar 0) (aC (.int 0)))) (mRet (a2 oMod (aL (on1 oInt) (mCons (a2 oDiv (a2 oIx (aVar 0) (aC (.int 0))) (aC (.int 64))) mNil)) (aVar 1))))))
def F__law_below : List D → Store → Res D := mkF false 2 3 b__law_below
abbrev N__law_pick : List Str := ["_law_d", "_law_items"]
abbrev P__law_pick : List Str := ["_law_d", "_law_items"]
theorem sc__law_pick : FnScope N__law_pick P__law_pick (defScope st__law_pick) := sc_of (by decide +kernel)
theorem nd__law_pick : (N__law_pick).Nodup := by decide +kernel
def b__law_pick : Ms := (mRet (a2 oIx (aVar 1) (aL F__law_below (mCons (aVar 0) (mCons (aL (on1 oLen) (mCons (aVar 1) mNil)) mNil)))))
def F__law_pick : List D → Store → Res D := mkF false 2 2 b__law_pick
abbrev N__law_thrown : List Str := ["_law_k", "_law_one", "_law_two"]
abbrev P__law_thrown : List Str := ["_law_k", "_law_one", "_law_two"]
theorem sc__law_thrown : FnScope N__law_thrown P__law_thrown (defScope st__law_thrown) := sc_of (by decide +kernel)
theorem nd__law_thrown : (N__law_thrown).Nodup := by decide +kernel
def b__law_thrown : Ms := (mSeq (mIfS (tB (a2 oEq (aVar 0) (aC (.int 0)))) (mRaise0 n_UnknownPart) mPass) (mSeq (mIfS (tB (a2 oEq (aVar 0) (aC (.int 1)))) (mRaise0 n_BadText) mPass) (mSeq (mIfS (tB (a2 oEq (aVar 0) (aC (.int 2)))) (mRaise0 n_BadDeed) mPass) (mSeq (mIfS (tB (a2 oEq (aVar 0) (aC (.int 3)))) (mRaise0 n_UnknownWord) mPass) (mSeq (mIfS (tB (a2 oEq (aVar 0) (aC (.int 4)))) (mRaise0 n_NotAlike) mPass) (mSeq (mIfS (tB (a2 oEq (aVar 0) (aC (.int 5)))) (mRaise n_BadPart [[110, 97, 109, 101]] (mCons (aVar 1) mNil)) mPass) (mSeq (mIfS (tB (a2 oEq (aVar 0) (aC (.int 6)))) (mRaise n_BadWord [[105, 110, 100, 101, 120]] (mCons (aVar 1) mNil)) mPass) (mSeq (mIfS (tB (a2 oEq (aVar 0) (aC (.int 7)))) (mRaise n_BadKeys [[105, 110, 100, 101, 120]] (mCons (aVar 1) mNil)) mPass) (mRaise n_BadLine [[108, 105, 110, 101], [119, 111, 114, 100]] (mCons (aVar 1) (mCons (aVar 2) mNil)))))))))))
def F__law_thrown : List D → Store → Res D := mkF false 3 3 b__law_thrown
abbrev N__law_equal : List Str := ["_law_actual", "_law_expected", "_law_k", "_law_key"]
abbrev P__law_equal : List Str := ["_law_actual", "_law_expected"]
theorem sc__law_equal : FnScope N__law_equal P__law_equal (defScope st__law_equal) := sc_of (by decide +kernel)
theorem nd__law_equal : (N__law_equal).Nodup := by decide +kernel
def b__law_equal (Fr : List D → Store → Res D) : Ms := (mSeq (mIfS (tB (a1 (oIsN false) (aVar 1))) (mRet (a1 (oIsN false) (aVar 0))) mPass) (mSeq (mIfS (tB (a1 (oIsiT .bl []) (aVar 1))) (mRet (mAn (a1 (oIsiT .bl []) (aVar 0)) (a2 oEq (aVar 0) (aVar 1)))) mPass) (mSeq (mIfS (tB (a1 (oIsiT .int []) (aVar 1))) (mRet (mAn (a1 (oIsiT .int []) (aVar 0)) (mAn (mN (a1 (oIsiT .bl []) (aVar 0))) (a2 oEq (aVar 0) (aVar 1))))) mPass) (mSeq (mIfS (tB (a1 (oIsiT .str []) (aVar 1))) (mRet (mAn (a1 (oIsiT .str []) (aVar 0)) (a2 oEq (aVar 0) (aVar 1)))) mPass) (mSeq (mIfS (tB (a1 (oIsiT .dic []) (aVar 1))) mNever mPass) (mSeq (mIfS (tB (a2 oNe (a1 (oIsiT .tup []) (aVar 1)) (a1 (oIsiT .tup []) (aVar 0)))) (mRet (aC (.bl false))) mPass) (mSeq (mIfS (tB (a2 oNe (a1 (oIsiT .lst []) (aVar 1)) (a1 (oIsiT .lst []) (aVar 0)))) (mRet (aC (.bl false))) mPass) (mSeq (mIfS (tB (a2 oNe (aL (on1 oLen) (mCons (aVar 0) mNil)) (aL (on1 oLen) (mCons (aVar 1) mNil)))) (mRet (aC (.bl false))) mPass) (mRet (aL (on1 oAll) (mCons (mLc [2] (iR1 (mCons (aL (on1 oLen) (mCons (aVar 1) mNil)) mNil)) (gN 2) tYe (aL Fr (mCons (a2 oIx (aVar 0) (aVar 2)) (mCons (a2 oIx (aVar 1) (aVar 2)) mNil)))) mNil)))))))))))
def F__law_equal : Nat → List D → Store → Res D
  | 0 => fun _ _ => .no
  | n + 1 => mkF false 2 4 (b__law_equal (F__law_equal n))
abbrev N__law_classes : List Str := ["_law_e", "_law_found"]
abbrev P__law_classes : List Str := ["_law_e"]
theorem sc__law_classes : FnScope N__law_classes P__law_classes (defScope st__law_classes) := sc_of (by decide +kernel)
theorem nd__law_classes : (N__law_classes).Nodup := by decide +kernel
def b__law_classes : Ms := (mSeq (mSet 1 (aL oLst (mCons (a1 (oIsX [(n_UnknownPart, true), (n_BadText, false), (n_BadDeed, false), (n_UnknownWord, false), (n_NotAlike, false), (n_BadPart, false), (n_BadWord, false), (n_BadKeys, false), (n_BadLine, false)]) (aVar 0)) (mCons (a1 (oIsX [(n_UnknownPart, false), (n_BadText, true), (n_BadDeed, false), (n_UnknownWord, false), (n_NotAlike, false), (n_BadPart, false), (n_BadWord, false), (n_BadKeys, false), (n_BadLine, false)]) (aVar 0)) (mCons (a1 (oIsX [(n_UnknownPart, false), (n_BadText, false), (n_BadDeed, true), (n_UnknownWord, false), (n_NotAlike, false), (n_BadPart, false), (n_BadWord, false), (n_BadKeys, false), (n_BadLine, false)]) (aVar 0)) (mCons (a1 (oIsX [(n_UnknownPart, false), (n_BadText, false), (n_BadDeed, false), (n_UnknownWord, true), (n_NotAlike, false), (n_BadPart, false), (n_BadWord, false), (n_BadKeys, false), (n_BadLine, false)]) (aVar 0)) mNil)))))) (mSeq (mSet 1 (a2 oAdd (aVar 1) (aL oLst (mCons (a1 (oIsX [(n_UnknownPart, false), (n_BadText, false), (n_BadDeed, false), (n_UnknownWord, false), (n_NotAlike, true), (n_BadPart, false), (n_BadWord, false), (n_BadKeys, false), (n_BadLine, false)]) (aVar 0)) (mCons (a1 (oIsX [(n_UnknownPart, false), (n_BadText, false), (n_BadDeed, false), (n_UnknownWord, false), (n_NotAlike, false), (n_BadPart, true), (n_BadWord, false), (n_BadKeys, false), (n_BadLine, false)]) (aVar 0)) (mCons (a1 (oIsX [(n_UnknownPart, false), (n_BadText, false), (n_BadDeed, false), (n_UnknownWord, false), (n_NotAlike, false), (n_BadPart, false), (n_BadWord, true), (n_BadKeys, false), (n_BadLine, false)]) (aVar 0)) mNil)))))) (mRet (a2 oAdd (aVar 1) (aL oLst (mCons (a1 (oIsX [(n_UnknownPart, false), (n_BadText, false), (n_BadDeed, false), (n_UnknownWord, false), (n_NotAlike, false), (n_BadPart, false), (n_BadWord, false), (n_BadKeys, true), (n_BadLine, false)]) (aVar 0)) (mCons (a1 (oIsX [(n_UnknownPart, false), (n_BadText, false), (n_BadDeed, false), (n_UnknownWord, false), (n_NotAlike, false), (n_BadPart, false), (n_BadWord, false), (n_BadKeys, false), (n_BadLine, true)]) (aVar 0)) mNil)))))))
def F__law_classes : List D → Store → Res D := mkF false 1 2 b__law_classes
abbrev N__law_fields : List Str := ["_law_k", "_law_e"]
abbrev P__law_fields : List Str := ["_law_k", "_law_e"]
theorem sc__law_fields : FnScope N__law_fields P__law_fields (defScope st__law_fields) := sc_of (by decide +kernel)
theorem nd__law_fields : (N__law_fields).Nodup := by decide +kernel
def b__law_fields : Ms := (mSeq (mIfS (tB (a2 oLt (aVar 0) (aC (.int 5)))) (mRet (aL oLst mNil)) mPass) (mSeq (mIfS (tB (a2 oEq (aVar 0) (aC (.int 5)))) (mRet (aL oLst (mCons (a1 (oXf [n_BadPart] [110, 97, 109, 101]) (aVar 1)) mNil))) mPass) (mRet (mIf (tB (a2 oLt (aVar 0) (aC (.int 8)))) (aL oLst (mCons (a1 (oXf [n_BadWord, n_BadKeys] [105, 110, 100, 101, 120]) (aVar 1)) mNil)) (aL oLst (mCons (a1 (oXf [n_BadLine] [108, 105, 110, 101]) (aVar 1)) (mCons (a1 (oXf [n_BadLine] [119, 111, 114, 100]) (aVar 1)) mNil)))))))
def F__law_fields : List D → Store → Res D := mkF false 2 2 b__law_fields
abbrev N_law : List Str := ["_law_script", "_law_d", "_law_k", "_law_one", "_law_two", "_law_due", "_law_good", "_law_e", "_law_other"]
abbrev P_law : List Str := ["_law_script"]
theorem sc_law : FnScope N_law P_law (defScope st_law) := sc_of (by decide +kernel)
theorem nd_law : (N_law).Nodup := by decide +kernel
def b_law : Ms := (mSeq (mSet 1 (aL F__law_random (mCons (aVar 0) (mCons (aC (.int 983)) mNil)))) (mSeq (mFor (iR1 (mCons (aC (.int 9)) mNil)) (gN 2) (mSeq (mSet 3 (aL F__law_pick (mCons (aVar 1) (mCons (aL oLst (mCons (aC (.str [97])) (mCons (aC (.str [])) (mCons (aC (.int 7)) (mCons (aC .non) (mCons (aL oTup (mCons (aC (.int 1)) mNil)) (mCons (aL oLst (mCons (aC (.int 2)) mNil)) mNil))))))) mNil)))) (mSeq (mSet 4 (aL F__law_pick (mCons (aVar 1) (mCons (aL oLst (mCons (aC (.int 0)) (mCons (aC .non) (mCons (aC (.str [98])) (mCons (a1 oNeg (aC (.int 1))) mNil))))) mNil)))) (mSeq (mSet 5 (aL oLst mNil)) (mSeq (mIfS (tB (a2 oGt (aVar 2) (aC (.int 4)))) (mSet 5 (mIf (tB (a2 oLt (aVar 2) (aC (.int 8)))) (aL oLst (mCons (aVar 3) mNil)) (aL oLst (mCons (aVar 3) (mCons (aVar 4) mNil))))) mPass) (mSeq (mSet 6 (aC (.bl false))) (mSeq (mTryH 7 (okOf [(n_UnknownPart, true), (n_BadText, true), (n_BadDeed, true), (n_UnknownWord, true), (n_NotAlike, true), (n_BadPart, true), (n_BadWord, true), (n_BadKeys, true), (n_BadLine, true)]) (mExpr (aL F__law_thrown (mCons (aVar 2) (mCons (aVar 3) (mCons (aVar 4) mNil))))) (mSeq (mSet 6 (mAn (a1 (oIsX [(n_UnknownPart, true), (n_BadText, true), (n_BadDeed, true), (n_UnknownWord, true), (n_NotAlike, true), (n_BadPart, true), (n_BadWord, true), (n_BadKeys, true), (n_BadLine, true)]) (aVar 7)) (a2 oEq (aL F__law_classes (mCons (aVar 7) mNil)) (mLc [8] (iR1 (mCons (aC (.int 9)) mNil)) (gN 8) tYe (a2 oEq (aVar 8) (aVar 2)))))) (mSet 6 (mAn (aVar 6) (aL (F__law_equal 4) (mCons (aL F__law_fields (mCons (aVar 2) (mCons (aVar 7) mNil))) (mCons (aVar 5) mNil))))))) (mIfS (tN (tB (aVar 6))) (mRet (aC (.bl false))) mPass)))))))) (mRet (aC (.bl true)))))
def F_law : List D → Store → Res D := mkF false 1 9 b_law
structure Zz (w : World) (K : PySem.W.Frag) (mg : Str → Option Value) : Prop where
  n_abs : mg "abs" = none
  n_int : mg "int" = none
  n_len : mg "len" = none
  g__law_below : mg "_law_below" = some (.ref (He.ga K "_law_below"))
  gS_UnknownPart : mg "UnknownPart" = some (.ref (He.ga K (toS n_UnknownPart)))
  ox_UnknownPart : ownXB K n_UnknownPart = true
  gS_BadText : mg "BadText" = some (.ref (He.ga K (toS n_BadText)))
  ox_BadText : ownXB K n_BadText = true
  gS_BadDeed : mg "BadDeed" = some (.ref (He.ga K (toS n_BadDeed)))
  ox_BadDeed : ownXB K n_BadDeed = true
  gS_UnknownWord : mg "UnknownWord" = some (.ref (He.ga K (toS n_UnknownWord)))
  ox_UnknownWord : ownXB K n_UnknownWord = true
  gS_NotAlike : mg "NotAlike" = some (.ref (He.ga K (toS n_NotAlike)))
  ox_NotAlike : ownXB K n_NotAlike = true
  x_BadPart : ∃ (fI : Addr) (fd : FuncData) (c0 cda : Addr), SupAt K PP x_BadPart (He.ga K (toS x_BadPart.c)) fI fd c0 cda
  n_super : mg "super" = none
  na_BadPart_name : (He.Fa.noat (toS n_BadPart) (toS [110, 97, 109, 101])).ok K = true
  gS_BadPart : mg "BadPart" = some (.ref (He.ga K (toS n_BadPart)))
  x_BadWord : ∃ (fI : Addr) (fd : FuncData) (c0 cda : Addr), SupAt K PP x_BadWord (He.ga K (toS x_BadWord.c)) fI fd c0 cda
  na_BadWord_index : (He.Fa.noat (toS n_BadWord) (toS [105, 110, 100, 101, 120])).ok K = true
  gS_BadWord : mg "BadWord" = some (.ref (He.ga K (toS n_BadWord)))
  x_BadKeys : ∃ (fI : Addr) (fd : FuncData) (c0 cda : Addr), SupAt K PP x_BadKeys (He.ga K (toS x_BadKeys.c)) fI fd c0 cda
  na_BadKeys_index : (He.Fa.noat (toS n_BadKeys) (toS [105, 110, 100, 101, 120])).ok K = true
  gS_BadKeys : mg "BadKeys" = some (.ref (He.ga K (toS n_BadKeys)))
  x_BadLine : ∃ (fI : Addr) (fd : FuncData) (c0 cda : Addr), SupAt K PP x_BadLine (He.ga K (toS x_BadLine.c)) fI fd c0 cda
  na_BadLine_line : (He.Fa.noat (toS n_BadLine) (toS [108, 105, 110, 101])).ok K = true
  na_BadLine_word : (He.Fa.noat (toS n_BadLine) (toS [119, 111, 114, 100])).ok K = true
  gS_BadLine : mg "BadLine" = some (.ref (He.ga K (toS n_BadLine)))
  n_isinstance : mg "isinstance" = none
  n_bool : mg "bool" = none
  n_str : mg "str" = none
  n_dict : mg "dict" = none
  n_tuple : mg "tuple" = none
  n_list : mg "list" = none
  n_range : mg "range" = none
  g__law_equal : mg "_law_equal" = some (.ref (He.ga K "_law_equal"))
  n_all : mg "all" = none
  isx_UnknownWord_BadLine : isxB K (.ref (He.ga K (toS n_UnknownWord))) (n_BadLine, false) = true
  isx_UnknownWord_BadKeys : isxB K (.ref (He.ga K (toS n_UnknownWord))) (n_BadKeys, false) = true
  isx_UnknownWord_BadWord : isxB K (.ref (He.ga K (toS n_UnknownWord))) (n_BadWord, false) = true
  isx_UnknownWord_BadPart : isxB K (.ref (He.ga K (toS n_UnknownWord))) (n_BadPart, false) = true
  isx_UnknownWord_NotAlike : isxB K (.ref (He.ga K (toS n_UnknownWord))) (n_NotAlike, false) = true
  isx_UnknownWord_UnknownWord : isxB K (.ref (He.ga K (toS n_UnknownWord))) (n_UnknownWord, true) = true
  isx_UnknownWord_BadDeed : isxB K (.ref (He.ga K (toS n_UnknownWord))) (n_BadDeed, false) = true
  isx_UnknownWord_BadText : isxB K (.ref (He.ga K (toS n_UnknownWord))) (n_BadText, false) = true
  isx_UnknownWord_UnknownPart : isxB K (.ref (He.ga K (toS n_UnknownWord))) (n_UnknownPart, false) = true
  isx_BadDeed_BadLine : isxB K (.ref (He.ga K (toS n_BadDeed))) (n_BadLine, false) = true
  isx_BadDeed_BadKeys : isxB K (.ref (He.ga K (toS n_BadDeed))) (n_BadKeys, false) = true
  isx_BadDeed_BadWord : isxB K (.ref (He.ga K (toS n_BadDeed))) (n_BadWord, false) = true
  isx_BadDeed_BadPart : isxB K (.ref (He.ga K (toS n_BadDeed))) (n_BadPart, false) = true
  isx_BadDeed_NotAlike : isxB K (.ref (He.ga K (toS n_BadDeed))) (n_NotAlike, false) = true
  isx_BadDeed_UnknownWord : isxB K (.ref (He.ga K (toS n_BadDeed))) (n_UnknownWord, false) = true
  isx_BadDeed_BadDeed : isxB K (.ref (He.ga K (toS n_BadDeed))) (n_BadDeed, true) = true
  isx_BadDeed_BadText : isxB K (.ref (He.ga K (toS n_BadDeed))) (n_BadText, false) = true
  isx_BadDeed_UnknownPart : isxB K (.ref (He.ga K (toS n_BadDeed))) (n_UnknownPart, false) = true
  isx_BadText_BadLine : isxB K (.ref (He.ga K (toS n_BadText))) (n_BadLine, false) = true
  isx_BadText_BadKeys : isxB K (.ref (He.ga K (toS n_BadText))) (n_BadKeys, false) = true
  isx_BadText_BadWord : isxB K (.ref (He.ga K (toS n_BadText))) (n_BadWord, false) = true
  isx_BadText_BadPart : isxB K (.ref (He.ga K (toS n_BadText))) (n_BadPart, false) = true
  isx_BadText_NotAlike : isxB K (.ref (He.ga K (toS n_BadText))) (n_NotAlike, false) = true
  isx_BadText_UnknownWord : isxB K (.ref (He.ga K (toS n_BadText))) (n_UnknownWord, false) = true
  isx_BadText_BadDeed : isxB K (.ref (He.ga K (toS n_BadText))) (n_BadDeed, false) = true
  isx_BadText_BadText : isxB K (.ref (He.ga K (toS n_BadText))) (n_BadText, true) = true
  isx_BadText_UnknownPart : isxB K (.ref (He.ga K (toS n_BadText))) (n_UnknownPart, false) = true
  isx_UnknownPart_BadLine : isxB K (.ref (He.ga K (toS n_UnknownPart))) (n_BadLine, false) = true
  isx_UnknownPart_BadKeys : isxB K (.ref (He.ga K (toS n_UnknownPart))) (n_BadKeys, false) = true
  isx_UnknownPart_BadWord : isxB K (.ref (He.ga K (toS n_UnknownPart))) (n_BadWord, false) = true
  isx_UnknownPart_BadPart : isxB K (.ref (He.ga K (toS n_UnknownPart))) (n_BadPart, false) = true
  isx_UnknownPart_NotAlike : isxB K (.ref (He.ga K (toS n_UnknownPart))) (n_NotAlike, false) = true
  isx_UnknownPart_UnknownWord : isxB K (.ref (He.ga K (toS n_UnknownPart))) (n_UnknownWord, false) = true
  isx_UnknownPart_BadDeed : isxB K (.ref (He.ga K (toS n_UnknownPart))) (n_BadDeed, false) = true
  isx_UnknownPart_BadText : isxB K (.ref (He.ga K (toS n_UnknownPart))) (n_BadText, false) = true
  isx_UnknownPart_UnknownPart : isxB K (.ref (He.ga K (toS n_UnknownPart))) (n_UnknownPart, true) = true
  isx_BadWord_BadLine : isxB K (.ref (He.ga K (toS n_BadWord))) (n_BadLine, false) = true
  isx_BadWord_BadKeys : isxB K (.ref (He.ga K (toS n_BadWord))) (n_BadKeys, false) = true
  isx_BadWord_BadWord : isxB K (.ref (He.ga K (toS n_BadWord))) (n_BadWord, true) = true
  isx_BadWord_BadPart : isxB K (.ref (He.ga K (toS n_BadWord))) (n_BadPart, false) = true
  isx_BadWord_NotAlike : isxB K (.ref (He.ga K (toS n_BadWord))) (n_NotAlike, false) = true
  isx_BadWord_UnknownWord : isxB K (.ref (He.ga K (toS n_BadWord))) (n_UnknownWord, false) = true
  isx_BadWord_BadDeed : isxB K (.ref (He.ga K (toS n_BadWord))) (n_BadDeed, false) = true
  isx_BadWord_BadText : isxB K (.ref (He.ga K (toS n_BadWord))) (n_BadText, false) = true
  isx_BadWord_UnknownPart : isxB K (.ref (He.ga K (toS n_BadWord))) (n_UnknownPart, false) = true
  isx_BadPart_BadLine : isxB K (.ref (He.ga K (toS n_BadPart))) (n_BadLine, false) = true
  isx_BadPart_BadKeys : isxB K (.ref (He.ga K (toS n_BadPart))) (n_BadKeys, false) = true
  isx_BadPart_BadWord : isxB K (.ref (He.ga K (toS n_BadPart))) (n_BadWord, false) = true
  isx_BadPart_BadPart : isxB K (.ref (He.ga K (toS n_BadPart))) (n_BadPart, true) = true
  isx_BadPart_NotAlike : isxB K (.ref (He.ga K (toS n_BadPart))) (n_NotAlike, false) = true
  isx_BadPart_UnknownWord : isxB K (.ref (He.ga K (toS n_BadPart))) (n_UnknownWord, false) = true
  isx_BadPart_BadDeed : isxB K (.ref (He.ga K (toS n_BadPart))) (n_BadDeed, false) = true
  isx_BadPart_BadText : isxB K (.ref (He.ga K (toS n_BadPart))) (n_BadText, false) = true
  isx_BadPart_UnknownPart : isxB K (.ref (He.ga K (toS n_BadPart))) (n_UnknownPart, false) = true
  isx_NotAlike_BadLine : isxB K (.ref (He.ga K (toS n_NotAlike))) (n_BadLine, false) = true
  isx_NotAlike_BadKeys : isxB K (.ref (He.ga K (toS n_NotAlike))) (n_BadKeys, false) = true
  isx_NotAlike_BadWord : isxB K (.ref (He.ga K (toS n_NotAlike))) (n_BadWord, false) = true
  isx_NotAlike_BadPart : isxB K (.ref (He.ga K (toS n_NotAlike))) (n_BadPart, false) = true
  isx_NotAlike_NotAlike : isxB K (.ref (He.ga K (toS n_NotAlike))) (n_NotAlike, true) = true
  isx_NotAlike_UnknownWord : isxB K (.ref (He.ga K (toS n_NotAlike))) (n_UnknownWord, false) = true
  isx_NotAlike_BadDeed : isxB K (.ref (He.ga K (toS n_NotAlike))) (n_BadDeed, false) = true
  isx_NotAlike_BadText : isxB K (.ref (He.ga K (toS n_NotAlike))) (n_BadText, false) = true
  isx_NotAlike_UnknownPart : isxB K (.ref (He.ga K (toS n_NotAlike))) (n_UnknownPart, false) = true
  isx_BadLine_BadLine : isxB K (.ref (He.ga K (toS n_BadLine))) (n_BadLine, true) = true
  isx_BadLine_BadKeys : isxB K (.ref (He.ga K (toS n_BadLine))) (n_BadKeys, false) = true
  isx_BadLine_BadWord : isxB K (.ref (He.ga K (toS n_BadLine))) (n_BadWord, false) = true
  isx_BadLine_BadPart : isxB K (.ref (He.ga K (toS n_BadLine))) (n_BadPart, false) = true
  isx_BadLine_NotAlike : isxB K (.ref (He.ga K (toS n_BadLine))) (n_NotAlike, false) = true
  isx_BadLine_UnknownWord : isxB K (.ref (He.ga K (toS n_BadLine))) (n_UnknownWord, false) = true
  isx_BadLine_BadDeed : isxB K (.ref (He.ga K (toS n_BadLine))) (n_BadDeed, false) = true
  isx_BadLine_BadText : isxB K (.ref (He.ga K (toS n_BadLine))) (n_BadText, false) = true
  isx_BadLine_UnknownPart : isxB K (.ref (He.ga K (toS n_BadLine))) (n_UnknownPart, false) = true
  isx_BadKeys_BadLine : isxB K (.ref (He.ga K (toS n_BadKeys))) (n_BadLine, false) = true
  isx_BadKeys_BadKeys : isxB K (.ref (He.ga K (toS n_BadKeys))) (n_BadKeys, true) = true
  isx_BadKeys_BadWord : isxB K (.ref (He.ga K (toS n_BadKeys))) (n_BadWord, false) = true
  isx_BadKeys_BadPart : isxB K (.ref (He.ga K (toS n_BadKeys))) (n_BadPart, false) = true
  isx_BadKeys_NotAlike : isxB K (.ref (He.ga K (toS n_BadKeys))) (n_NotAlike, false) = true
  isx_BadKeys_UnknownWord : isxB K (.ref (He.ga K (toS n_BadKeys))) (n_UnknownWord, false) = true
  isx_BadKeys_BadDeed : isxB K (.ref (He.ga K (toS n_BadKeys))) (n_BadDeed, false) = true
  isx_BadKeys_BadText : isxB K (.ref (He.ga K (toS n_BadKeys))) (n_BadText, false) = true
  isx_BadKeys_UnknownPart : isxB K (.ref (He.ga K (toS n_BadKeys))) (n_UnknownPart, false) = true
  xf_BadPart : xfB K (He.ga K (toS n_BadPart)) = true
  xf_BadKeys : xfB K (He.ga K (toS n_BadKeys)) = true
  xf_BadWord : xfB K (He.ga K (toS n_BadWord)) = true
  xf_BadLine : xfB K (He.ga K (toS n_BadLine)) = true
  g__law_random : mg "_law_random" = some (.ref (He.ga K "_law_random"))
  g__law_pick : mg "_law_pick" = some (.ref (He.ga K "_law_pick"))
  g__law_thrown : mg "_law_thrown" = some (.ref (He.ga K "_law_thrown"))
  exm_BadLine_OpenError : (He.Fa.exm (toS n_BadLine) (toS n_OpenError) true).ok K = true
  exm_BadKeys_OpenError : (He.Fa.exm (toS n_BadKeys) (toS n_OpenError) true).ok K = true
  exm_BadWord_OpenError : (He.Fa.exm (toS n_BadWord) (toS n_OpenError) true).ok K = true
  exm_BadPart_OpenError : (He.Fa.exm (toS n_BadPart) (toS n_OpenError) true).ok K = true
  exm_NotAlike_OpenError : (He.Fa.exm (toS n_NotAlike) (toS n_OpenError) true).ok K = true
  exm_UnknownWord_OpenError : (He.Fa.exm (toS n_UnknownWord) (toS n_OpenError) true).ok K = true
  exm_BadDeed_OpenError : (He.Fa.exm (toS n_BadDeed) (toS n_OpenError) true).ok K = true
  exm_BadText_OpenError : (He.Fa.exm (toS n_BadText) (toS n_OpenError) true).ok K = true
  exm_UnknownPart_OpenError : (He.Fa.exm (toS n_UnknownPart) (toS n_OpenError) true).ok K = true
  gS_OpenError : mg "OpenError" = some (.ref (He.ga K (toS n_OpenError)))
  isx_ValueError_BadLine : isxB K (.type "ValueError") (n_BadLine, true) = true
  isx_ValueError_BadKeys : isxB K (.type "ValueError") (n_BadKeys, true) = true
  isx_ValueError_BadWord : isxB K (.type "ValueError") (n_BadWord, true) = true
  isx_ValueError_BadPart : isxB K (.type "ValueError") (n_BadPart, true) = true
  isx_ValueError_NotAlike : isxB K (.type "ValueError") (n_NotAlike, true) = true
  isx_ValueError_UnknownWord : isxB K (.type "ValueError") (n_UnknownWord, true) = true
  isx_ValueError_BadDeed : isxB K (.type "ValueError") (n_BadDeed, true) = true
  isx_ValueError_BadText : isxB K (.type "ValueError") (n_BadText, true) = true
  isx_ValueError_UnknownPart : isxB K (.type "ValueError") (n_UnknownPart, true) = true
  n_ValueError : mg "ValueError" = none
  g__law_classes : mg "_law_classes" = some (.ref (He.ga K "_law_classes"))
  g__law_fields : mg "_law_fields" = some (.ref (He.ga K "_law_fields"))
  d__law_random : ∃ fd, FunD K d__law_random.name d__law_random.qual d__law_random.params d__law_random.body d__law_random.scope (d__law_random.dvs K) (d__law_random.kws K) (He.fAd K d__law_random.at_) fd
  d__law_below : ∃ fd, FunD K d__law_below.name d__law_below.qual d__law_below.params d__law_below.body d__law_below.scope (d__law_below.dvs K) (d__law_below.kws K) (He.fAd K d__law_below.at_) fd
  d__law_pick : ∃ fd, FunD K d__law_pick.name d__law_pick.qual d__law_pick.params d__law_pick.body d__law_pick.scope (d__law_pick.dvs K) (d__law_pick.kws K) (He.fAd K d__law_pick.at_) fd
  d__law_thrown : ∃ fd, FunD K d__law_thrown.name d__law_thrown.qual d__law_thrown.params d__law_thrown.body d__law_thrown.scope (d__law_thrown.dvs K) (d__law_thrown.kws K) (He.fAd K d__law_thrown.at_) fd
  d__law_equal : ∃ fd, FunD K d__law_equal.name d__law_equal.qual d__law_equal.params d__law_equal.body d__law_equal.scope (d__law_equal.dvs K) (d__law_equal.kws K) (He.fAd K d__law_equal.at_) fd
  d__law_classes : ∃ fd, FunD K d__law_classes.name d__law_classes.qual d__law_classes.params d__law_classes.body d__law_classes.scope (d__law_classes.dvs K) (d__law_classes.kws K) (He.fAd K d__law_classes.at_) fd
  d__law_fields : ∃ fd, FunD K d__law_fields.name d__law_fields.qual d__law_fields.params d__law_fields.body d__law_fields.scope (d__law_fields.dvs K) (d__law_fields.kws K) (He.fAd K d__law_fields.at_) fd
  d_law : ∃ fd, FunD K d_law.name d_law.qual d_law.params d_law.body d_law.scope (d_law.dvs K) (d_law.kws K) (He.fAd K d_law.at_) fd
  g_law : mg "law" = some (.ref (He.ga K "law"))
theorem zz_of {w : World} {K : PySem.W.Frag} {h : Heap} {mg : Str → Option Value} (X0 : K.In h) (G0 : h.Ns mainGlobals mg) (cx : SaysX fas fns tbs exs pqs PP.main.file xqs w K) : Zz w K mg where
  n_abs := He.free_ok X0 G0 (cx.p.t.d.fact 0)
  n_int := He.free_ok X0 G0 (cx.p.t.d.fact 1)
  n_len := He.free_ok X0 G0 (cx.p.t.d.fact 2)
  g__law_below := He.glo_ok X0 G0 (cx.p.t.d.fact 3)
  gS_UnknownPart := (by have h := He.glo_ok X0 G0 (cx.p.t.d.fact 4); exact h)
  ox_UnknownPart := xs_at cx.p.more 0
  gS_BadText := (by have h := He.glo_ok X0 G0 (cx.p.t.d.fact 5); exact h)
  ox_BadText := xs_at cx.p.more 1
  gS_BadDeed := (by have h := He.glo_ok X0 G0 (cx.p.t.d.fact 6); exact h)
  ox_BadDeed := xs_at cx.p.more 2
  gS_UnknownWord := (by have h := He.glo_ok X0 G0 (cx.p.t.d.fact 7); exact h)
  ox_UnknownWord := xs_at cx.p.more 3
  gS_NotAlike := (by have h := He.glo_ok X0 G0 (cx.p.t.d.fact 8); exact h)
  ox_NotAlike := xs_at cx.p.more 4
  x_BadPart := cx.x (P := PP) rfl 0 (d := x_BadPart)
  n_super := He.free_ok X0 G0 (cx.p.t.d.fact 9)
  na_BadPart_name := cx.p.t.d.fact 10
  gS_BadPart := (by have h := He.glo_ok X0 G0 (cx.p.t.d.fact 11); exact h)
  x_BadWord := cx.x (P := PP) rfl 1 (d := x_BadWord)
  na_BadWord_index := cx.p.t.d.fact 12
  gS_BadWord := (by have h := He.glo_ok X0 G0 (cx.p.t.d.fact 13); exact h)
  x_BadKeys := cx.x (P := PP) rfl 2 (d := x_BadKeys)
  na_BadKeys_index := cx.p.t.d.fact 14
  gS_BadKeys := (by have h := He.glo_ok X0 G0 (cx.p.t.d.fact 15); exact h)
  x_BadLine := cx.x (P := PP) rfl 3 (d := x_BadLine)
  na_BadLine_line := cx.p.t.d.fact 16
  na_BadLine_word := cx.p.t.d.fact 17
  gS_BadLine := (by have h := He.glo_ok X0 G0 (cx.p.t.d.fact 18); exact h)
  n_isinstance := He.free_ok X0 G0 (cx.p.t.d.fact 19)
  n_bool := He.free_ok X0 G0 (cx.p.t.d.fact 20)
  n_str := He.free_ok X0 G0 (cx.p.t.d.fact 21)
  n_dict := He.free_ok X0 G0 (cx.p.t.d.fact 22)
  n_tuple := He.free_ok X0 G0 (cx.p.t.d.fact 23)
  n_list := He.free_ok X0 G0 (cx.p.t.d.fact 24)
  n_range := He.free_ok X0 G0 (cx.p.t.d.fact 25)
  g__law_equal := He.glo_ok X0 G0 (cx.p.t.d.fact 26)
  n_all := He.free_ok X0 G0 (cx.p.t.d.fact 27)
  isx_UnknownWord_BadLine := xs_at cx.p.more 5
  isx_UnknownWord_BadKeys := xs_at cx.p.more 6
  isx_UnknownWord_BadWord := xs_at cx.p.more 7
  isx_UnknownWord_BadPart := xs_at cx.p.more 8
  isx_UnknownWord_NotAlike := xs_at cx.p.more 9
  isx_UnknownWord_UnknownWord := xs_at cx.p.more 10
  isx_UnknownWord_BadDeed := xs_at cx.p.more 11
  isx_UnknownWord_BadText := xs_at cx.p.more 12
  isx_UnknownWord_UnknownPart := xs_at cx.p.more 13
  isx_BadDeed_BadLine := xs_at cx.p.more 14
  isx_BadDeed_BadKeys := xs_at cx.p.more 15
  isx_BadDeed_BadWord := xs_at cx.p.more 16
  isx_BadDeed_BadPart := xs_at cx.p.more 17
  isx_BadDeed_NotAlike := xs_at cx.p.more 18
  isx_BadDeed_UnknownWord := xs_at cx.p.more 19
  isx_BadDeed_BadDeed := xs_at cx.p.more 20
  isx_BadDeed_BadText := xs_at cx.p.more 21
  isx_BadDeed_UnknownPart := xs_at cx.p.more 22
  isx_BadText_BadLine := xs_at cx.p.more 23
  isx_BadText_BadKeys := xs_at cx.p.more 24
  isx_BadText_BadWord := xs_at cx.p.more 25
  isx_BadText_BadPart := xs_at cx.p.more 26
  isx_BadText_NotAlike := xs_at cx.p.more 27
  isx_BadText_UnknownWord := xs_at cx.p.more 28
  isx_BadText_BadDeed := xs_at cx.p.more 29
  isx_BadText_BadText := xs_at cx.p.more 30
  isx_BadText_UnknownPart := xs_at cx.p.more 31
  isx_UnknownPart_BadLine := xs_at cx.p.more 32
  isx_UnknownPart_BadKeys := xs_at cx.p.more 33
  isx_UnknownPart_BadWord := xs_at cx.p.more 34
  isx_UnknownPart_BadPart := xs_at cx.p.more 35
  isx_UnknownPart_NotAlike := xs_at cx.p.more 36
  isx_UnknownPart_UnknownWord := xs_at cx.p.more 37
  isx_UnknownPart_BadDeed := xs_at cx.p.more 38
  isx_UnknownPart_BadText := xs_at cx.p.more 39
  isx_UnknownPart_UnknownPart := xs_at cx.p.more 40
  isx_BadWord_BadLine := xs_at cx.p.more 41
  isx_BadWord_BadKeys := xs_at cx.p.more 42
  isx_BadWord_BadWord := xs_at cx.p.more 43
  isx_BadWord_BadPart := xs_at cx.p.more 44
  isx_BadWord_NotAlike := xs_at cx.p.more 45
  isx_BadWord_UnknownWord := xs_at cx.p.more 46
  isx_BadWord_BadDeed := xs_at cx.p.more 47
  isx_BadWord_BadText := xs_at cx.p.more 48
  isx_BadWord_UnknownPart := xs_at cx.p.more 49
  isx_BadPart_BadLine := xs_at cx.p.more 50
  isx_BadPart_BadKeys := xs_at cx.p.more 51
  isx_BadPart_BadWord := xs_at cx.p.more 52
  isx_BadPart_BadPart := xs_at cx.p.more 53
  isx_BadPart_NotAlike := xs_at cx.p.more 54
  isx_BadPart_UnknownWord := xs_at cx.p.more 55
  isx_BadPart_BadDeed := xs_at cx.p.more 56
  isx_BadPart_BadText := xs_at cx.p.more 57
  isx_BadPart_UnknownPart := xs_at cx.p.more 58
  isx_NotAlike_BadLine := xs_at cx.p.more 59
  isx_NotAlike_BadKeys := xs_at cx.p.more 60
  isx_NotAlike_BadWord := xs_at cx.p.more 61
  isx_NotAlike_BadPart := xs_at cx.p.more 62
  isx_NotAlike_NotAlike := xs_at cx.p.more 63
  isx_NotAlike_UnknownWord := xs_at cx.p.more 64
  isx_NotAlike_BadDeed := xs_at cx.p.more 65
  isx_NotAlike_BadText := xs_at cx.p.more 66
  isx_NotAlike_UnknownPart := xs_at cx.p.more 67
  isx_BadLine_BadLine := xs_at cx.p.more 68
  isx_BadLine_BadKeys := xs_at cx.p.more 69
  isx_BadLine_BadWord := xs_at cx.p.more 70
  isx_BadLine_BadPart := xs_at cx.p.more 71
  isx_BadLine_NotAlike := xs_at cx.p.more 72
  isx_BadLine_UnknownWord := xs_at cx.p.more 73
  isx_BadLine_BadDeed := xs_at cx.p.more 74
  isx_BadLine_BadText := xs_at cx.p.more 75
  isx_BadLine_UnknownPart := xs_at cx.p.more 76
  isx_BadKeys_BadLine := xs_at cx.p.more 77
  isx_BadKeys_BadKeys := xs_at cx.p.more 78
  isx_BadKeys_BadWord := xs_at cx.p.more 79
  isx_BadKeys_BadPart := xs_at cx.p.more 80
  isx_BadKeys_NotAlike := xs_at cx.p.more 81
  isx_BadKeys_UnknownWord := xs_at cx.p.more 82
  isx_BadKeys_BadDeed := xs_at cx.p.more 83
  isx_BadKeys_BadText := xs_at cx.p.more 84
  isx_BadKeys_UnknownPart := xs_at cx.p.more 85
  xf_BadPart := xs_at cx.p.more 86
  xf_BadKeys := xs_at cx.p.more 87
  xf_BadWord := xs_at cx.p.more 88
  xf_BadLine := xs_at cx.p.more 89
  g__law_random := He.glo_ok X0 G0 (cx.p.t.d.fact 28)
  g__law_pick := He.glo_ok X0 G0 (cx.p.t.d.fact 29)
  g__law_thrown := He.glo_ok X0 G0 (cx.p.t.d.fact 30)
  exm_BadLine_OpenError := cx.p.t.d.fact 31
  exm_BadKeys_OpenError := cx.p.t.d.fact 32
  exm_BadWord_OpenError := cx.p.t.d.fact 33
  exm_BadPart_OpenError := cx.p.t.d.fact 34
  exm_NotAlike_OpenError := cx.p.t.d.fact 35
  exm_UnknownWord_OpenError := cx.p.t.d.fact 36
  exm_BadDeed_OpenError := cx.p.t.d.fact 37
  exm_BadText_OpenError := cx.p.t.d.fact 38
  exm_UnknownPart_OpenError := cx.p.t.d.fact 39
  gS_OpenError := (by have h := He.glo_ok X0 G0 (cx.p.t.d.fact 40); exact h)
  isx_ValueError_BadLine := xs_at cx.p.more 90
  isx_ValueError_BadKeys := xs_at cx.p.more 91
  isx_ValueError_BadWord := xs_at cx.p.more 92
  isx_ValueError_BadPart := xs_at cx.p.more 93
  isx_ValueError_NotAlike := xs_at cx.p.more 94
  isx_ValueError_UnknownWord := xs_at cx.p.more 95
  isx_ValueError_BadDeed := xs_at cx.p.more 96
  isx_ValueError_BadText := xs_at cx.p.more 97
  isx_ValueError_UnknownPart := xs_at cx.p.more 98
  n_ValueError := He.free_ok X0 G0 (cx.p.t.d.fact 41)
  g__law_classes := He.glo_ok X0 G0 (cx.p.t.d.fact 42)
  g__law_fields := He.glo_ok X0 G0 (cx.p.t.d.fact 43)
  d__law_random := cx.p.t.d.def_ 0 (d := d__law_random)
  d__law_below := cx.p.t.d.def_ 1 (d := d__law_below)
  d__law_pick := cx.p.t.d.def_ 2 (d := d__law_pick)
  d__law_thrown := cx.p.t.d.def_ 3 (d := d__law_thrown)
  d__law_equal := cx.p.t.d.def_ 4 (d := d__law_equal)
  d__law_classes := cx.p.t.d.def_ 5 (d := d__law_classes)
  d__law_fields := cx.p.t.d.def_ 6 (d := d__law_fields)
  d_law := cx.p.t.d.def_ 7 (d := d_law)
  g_law := He.glo_ok X0 G0 (cx.p.t.d.fact 44)
section
variable {w : World} {K : PySem.W.Frag} {mg : Str → Option Value} {base : Heap}
theorem ini_BadPart (z : Zz w K mg) : IOk PP w K mg base n_BadPart 1 [[110, 97, 109, 101]] := by
  obtain ⟨fI, fd, c0, cda, A⟩ := z.x_BadPart
  exact iok_of (d := x_BadPart) (k := 0) (N := ["self", "name", "__class__"]) (ps := ["self", "name"]) A (nscope_by (by decide +kernel)) rfl rfl rfl (by decide +kernel) (by decide +kernel) z.n_super (by decide +kernel) rfl (fun _ _ _ _ us hl => match us, hl with | [_, _], _ => rfl) (rest_oneF (by decide +kernel) A.oex (find_none z.na_BadPart_name) rfl rfl (Or.inl (by decide +kernel)) (Or.inl (by decide +kernel)) (by decide) (by decide)) (fun _ _ _ _ => ⟨_, rfl⟩)
theorem ini_BadWord (z : Zz w K mg) : IOk PP w K mg base n_BadWord 1 [[105, 110, 100, 101, 120]] := by
  obtain ⟨fI, fd, c0, cda, A⟩ := z.x_BadWord
  exact iok_of (d := x_BadWord) (k := 0) (N := ["self", "index", "__class__"]) (ps := ["self", "index"]) A (nscope_by (by decide +kernel)) rfl rfl rfl (by decide +kernel) (by decide +kernel) z.n_super (by decide +kernel) rfl (fun _ _ _ _ us hl => match us, hl with | [_, _], _ => rfl) (rest_oneF (by decide +kernel) A.oex (find_none z.na_BadWord_index) rfl rfl (Or.inl (by decide +kernel)) (Or.inl (by decide +kernel)) (by decide) (by decide)) (fun _ _ _ _ => ⟨_, rfl⟩)
theorem ini_BadKeys (z : Zz w K mg) : IOk PP w K mg base n_BadKeys 1 [[105, 110, 100, 101, 120]] := by
  obtain ⟨fI, fd, c0, cda, A⟩ := z.x_BadKeys
  exact iok_of (d := x_BadKeys) (k := 0) (N := ["self", "index", "__class__"]) (ps := ["self", "index"]) A (nscope_by (by decide +kernel)) rfl rfl rfl (by decide +kernel) (by decide +kernel) z.n_super (by decide +kernel) rfl (fun _ _ _ _ us hl => match us, hl with | [_, _], _ => rfl) (rest_oneF (by decide +kernel) A.oex (find_none z.na_BadKeys_index) rfl rfl (Or.inl (by decide +kernel)) (Or.inl (by decide +kernel)) (by decide) (by decide)) (fun _ _ _ _ => ⟨_, rfl⟩)
theorem ini_BadLine (z : Zz w K mg) : IOk PP w K mg base n_BadLine 1 [[108, 105, 110, 101], [119, 111, 114, 100]] := by
  obtain ⟨fI, fd, c0, cda, A⟩ := z.x_BadLine
  exact iok_of (d := x_BadLine) (k := 0) (N := ["self", "line", "word", "__class__"]) (ps := ["self", "line", "word"]) A (nscope_by (by decide +kernel)) rfl rfl rfl (by decide +kernel) (by decide +kernel) z.n_super (by decide +kernel) rfl (fun _ _ _ _ us hl => match us, hl with | [_, _, _], _ => rfl) (rest_twoF (by decide +kernel) (by decide +kernel) A.oex (find_none z.na_BadLine_line) (find_none z.na_BadLine_word) rfl rfl rfl (Or.inl (by decide +kernel)) (Or.inl (by decide +kernel)) (Or.inl (by decide +kernel)) (by decide) (by decide) (by decide) (by decide)) (fun _ _ _ _ => ⟨_, rfl⟩)
theorem ok__law_random (z : Zz w K mg) : FOk PP w K mg base ("_law_random", none) 2 P__law_random F__law_random :=
  fok_of (d := d__law_random) (N := N__law_random) (b := b__law_random) (keep := true) z.d__law_random rfl sc__law_random (fun _ _ _ _ _ _ us hl => match us, hl with | [_, _], _ => rfl) fun cdv A outer s H E hr =>
  (s_cons (s_set 2 nd__law_random rfl (by first | exact .inl rfl | exact .inr rfl) (e_var 1))
 (s_cons (s_for (ns := [3]) (passes_of rfl) rfl (i_scr (e_var 0)) (g_name 3 (by decide) nd__law_random rfl (by first | exact .inl rfl | exact .inr rfl))
 (s_one (s_set 2 nd__law_random rfl (by first | exact .inl rfl | exact .inr rfl) (e_op op_mod im_mod (e_callTy call_int1 im_int (by rfl) z.n_int boot_int (a_cons (e_op op_addA im_add (e_op op_mu im_mu (e_var 2) e_int) (e_callB call_abs im_abs (by rfl) z.n_abs boot_abs (a_cons (e_var 3) a_nil))) a_nil)) e_int))))
 (s_one (s_ret (e_op op_cat im_cat (e_lst (a_cons (e_var 2) (a_cons e_int a_nil))) (e_lc (own := [("_law_cell", 3)]) rfl nd__law_random (i_scr (e_var 0)) (blk_of rfl) (fun _ _ _ _ _ => (g_name 3 (by decide) nd__law_random rfl (by first | exact .inl rfl | exact .inr rfl))) (fun _ _ _ _ _ => (t_one (t_cmp op_ge im_ge (e_var 3) (e_op op_pow im_pow e_int e_int))))
 (fun _ _ _ _ _ => (e_var 3))))))))
theorem ok__law_below (z : Zz w K mg) : FOk PP w K mg base ("_law_below", none) 2 P__law_below F__law_below :=
  fok_of (d := d__law_below) (N := N__law_below) (b := b__law_below) (keep := false) z.d__law_below rfl sc__law_below (fun _ _ _ _ _ _ us hl => match us, hl with | [_, _], _ => rfl) fun cdv A outer s H E hr =>
  (s_cons (s_if (PW.pt (w_and (t_cmp (op_eqD hr.units) im_eq (e_ix (e_var 0) e_int) e_int)
 (w_and1 (t_cmp op_gt im_gt (e_callB call_len im_len (by rfl) z.n_len boot_len (a_cons (e_var 0) a_nil)) e_int))))
 (s_one (s_asg (ns := []) (e_bm tyL_ok mt_popAt im_popAt PySem.F.plainAttrs_list PySem.F.slot_list_pop PySem.F.type_list_pop (e_var 0) (a_cons e_int a_nil)) (g_ix (e_var 0) e_int)))
 s_nil)
 (s_cons (s_if (t_cmp op_gt im_gt (e_ix (e_var 0) e_int) e_int)
 (s_cons (s_set 2 nd__law_below rfl (by first | exact .inl rfl | exact .inr rfl) (e_op op_mod im_mod (e_callTy call_int1 im_int (by rfl) z.n_int boot_int (a_cons (e_ix (e_var 0) e_int) a_nil)) (e_var 1)))
 (s_cons (s_asg (ns := []) (e_op op_fdiv im_div (e_ix (e_var 0) e_int) (e_var 1)) (g_ix (e_var 0) e_int))
 (s_one (s_ret (e_var 2)))))
 s_nil)
 (s_cons (s_asg (ns := []) (e_op op_mod im_mod (e_callTy call_int1 im_int (by rfl) z.n_int boot_int (a_cons (e_op op_addA im_add (e_op op_mu im_mu (e_ix (e_var 0) e_int) e_int) e_int) a_nil)) e_int) (g_ix (e_var 0) e_int))
 (s_one (s_ret (e_op op_mod im_mod (e_callTy call_int1 im_int (by rfl) z.n_int boot_int (a_cons (e_op op_fdiv im_div (e_ix (e_var 0) e_int) e_int) a_nil)) (e_var 1)))))))
theorem ok__law_pick (z : Zz w K mg) : FOk PP w K mg base ("_law_pick", none) 3 P__law_pick F__law_pick :=
  fok_of (d := d__law_pick) (N := N__law_pick) (b := b__law_pick) (keep := false) z.d__law_pick rfl sc__law_pick (fun _ _ _ _ _ _ us hl => match us, hl with | [_, _], _ => rfl) fun cdv A outer s H E hr =>
  (s_one (s_ret (e_ix (e_var 1) (c_call (ok__law_below z) hr (by decide) (takes_of rfl rfl rfl rfl) (by rfl) z.g__law_below (a_cons (e_var 0) (a_cons (e_callB call_len im_len (by rfl) z.n_len boot_len (a_cons (e_var 1) a_nil)) a_nil))))))
theorem ok__law_thrown (z : Zz w K mg) : FOkX PP w K mg base ("_law_thrown", none) 3 P__law_thrown F__law_thrown :=
  fokX_of (d := d__law_thrown) (N := N__law_thrown) (b := b__law_thrown) (keep := false) z.d__law_thrown rfl sc__law_thrown (fun _ _ _ _ _ _ us hl => match us, hl with | [_, _, _], _ => rfl) fun cdv A outer s H E hr =>
  (s_cons (s_if (t_cmp (op_eqD hr.units) im_eq (e_var 0) e_int)
 (s_one (c_raise0N rfl (L2N.takes_of rfl rfl rfl rfl) (by rfl) z.gS_UnknownPart z.ox_UnknownPart))
 s_nil)
 (s_cons (s_if (t_cmp (op_eqD hr.units) im_eq (e_var 0) e_int)
 (s_one (c_raise0N rfl (L2N.takes_of rfl rfl rfl rfl) (by rfl) z.gS_BadText z.ox_BadText))
 s_nil)
 (s_cons (s_if (t_cmp (op_eqD hr.units) im_eq (e_var 0) e_int)
 (s_one (c_raise0N rfl (L2N.takes_of rfl rfl rfl rfl) (by rfl) z.gS_BadDeed z.ox_BadDeed))
 s_nil)
 (s_cons (s_if (t_cmp (op_eqD hr.units) im_eq (e_var 0) e_int)
 (s_one (c_raise0N rfl (L2N.takes_of rfl rfl rfl rfl) (by rfl) z.gS_UnknownWord z.ox_UnknownWord))
 s_nil)
 (s_cons (s_if (t_cmp (op_eqD hr.units) im_eq (e_var 0) e_int)
 (s_one (c_raise0N rfl (L2N.takes_of rfl rfl rfl rfl) (by rfl) z.gS_NotAlike z.ox_NotAlike))
 s_nil)
 (s_cons (s_if (t_cmp (op_eqD hr.units) im_eq (e_var 0) e_int)
 (s_one (c_raiseN (ini_BadPart z) hr (by decide) rfl (L2N.takes_of rfl rfl rfl rfl) (by decide) (by decide) (by rfl) z.gS_BadPart (a_cons (e_var 1) a_nil)))
 s_nil)
 (s_cons (s_if (t_cmp (op_eqD hr.units) im_eq (e_var 0) e_int)
 (s_one (c_raiseN (ini_BadWord z) hr (by decide) rfl (L2N.takes_of rfl rfl rfl rfl) (by decide) (by decide) (by rfl) z.gS_BadWord (a_cons (e_var 1) a_nil)))
 s_nil)
 (s_cons (s_if (t_cmp (op_eqD hr.units) im_eq (e_var 0) e_int)
 (s_one (c_raiseN (ini_BadKeys z) hr (by decide) rfl (L2N.takes_of rfl rfl rfl rfl) (by decide) (by decide) (by rfl) z.gS_BadKeys (a_cons (e_var 1) a_nil)))
 s_nil)
 (s_one (c_raiseN (ini_BadLine z) hr (by decide) rfl (L2N.takes_of rfl rfl rfl rfl) (by decide) (by decide) (by rfl) z.gS_BadLine (a_cons (e_var 1) (a_cons (e_var 2) a_nil))))))))))))
theorem ok__law_equal (z : Zz w K mg) : ∀ n : Nat, FOkN PP w K mg base ("_law_equal", none) (2 + n) P__law_equal (F__law_equal n)
  | 0 => fokN_no (d := d__law_equal) z.d__law_equal rfl (fun _ _ _ _ _ _ us hl => match us, hl with | [_, _], _ => rfl)
  | n + 1 => fokN_of (d := d__law_equal) (N := N__law_equal) (b := b__law_equal (F__law_equal n)) (keep := false) z.d__law_equal rfl sc__law_equal (fun _ _ _ _ _ _ us hl => match us, hl with | [_, _], _ => rfl) fun cdv A outer s H E hr hh =>
  have ih := ok__law_equal z n
  (s_cons (s_if (t_isN (e_var 1))
 (s_one (s_ret (e_isN (e_var 0))))
 s_nil)
 (s_cons (s_if (t_val (e_isiT .bl [] (by rfl) z.n_isinstance (by rfl) z.n_bool boot_bool (fun _ h => nomatch h) (e_var 1)))
 (s_one (s_ret (e_and (e_isiT .bl [] (by rfl) z.n_isinstance (by rfl) z.n_bool boot_bool (fun _ h => nomatch h) (e_var 0))
 (e_one (e_cmp (op_eqD (unitsN hr)) im_eq (e_var 0) (e_var 1))))))
 s_nil)
 (s_cons (s_if (t_val (e_isiT .int [] (by rfl) z.n_isinstance (by rfl) z.n_int boot_int (fun _ h => nomatch h) (e_var 1)))
 (s_one (s_ret (e_and (e_isiT .int [] (by rfl) z.n_isinstance (by rfl) z.n_int boot_int (fun _ h => nomatch h) (e_var 0))
 (e_and (e_not (e_isiT .bl [] (by rfl) z.n_isinstance (by rfl) z.n_bool boot_bool (fun _ h => nomatch h) (e_var 0)))
 (e_one (e_cmp (op_eqD (unitsN hr)) im_eq (e_var 0) (e_var 1)))))))
 s_nil)
 (s_cons (s_if (t_val (e_isiT .str [] (by rfl) z.n_isinstance (by rfl) z.n_str boot_str (fun _ h => nomatch h) (e_var 1)))
 (s_one (s_ret (e_and (e_isiT .str [] (by rfl) z.n_isinstance (by rfl) z.n_str boot_str (fun _ h => nomatch h) (e_var 0))
 (e_one (e_cmp (op_eqD (unitsN hr)) im_eq (e_var 0) (e_var 1))))))
 s_nil)
 (s_cons (s_if (t_val (e_isiT .dic [] (by rfl) z.n_isinstance (by rfl) z.n_dict boot_dict (fun _ h => nomatch h) (e_var 1)))
 ss_never
 s_nil)
 (s_cons (s_if (t_cmp (op_neD (unitsN hr)) im_ne (e_isiT .tup [] (by rfl) z.n_isinstance (by rfl) z.n_tuple boot_tuple (fun _ h => nomatch h) (e_var 1)) (e_isiT .tup [] (by rfl) z.n_isinstance (by rfl) z.n_tuple boot_tuple (fun _ h => nomatch h) (e_var 0)))
 (s_one (s_ret e_bl))
 s_nil)
 (s_cons (s_if (t_cmp (op_neD (unitsN hr)) im_ne (e_isiT .lst [] (by rfl) z.n_isinstance (by rfl) z.n_list boot_list (fun _ h => nomatch h) (e_var 1)) (e_isiT .lst [] (by rfl) z.n_isinstance (by rfl) z.n_list boot_list (fun _ h => nomatch h) (e_var 0)))
 (s_one (s_ret e_bl))
 s_nil)
 (s_cons (s_if (t_cmp (op_neD (unitsN hr)) im_ne (e_callB call_len im_len (by rfl) z.n_len boot_len (a_cons (e_var 0) a_nil)) (e_callB call_len im_len (by rfl) z.n_len boot_len (a_cons (e_var 1) a_nil)))
 (s_one (s_ret e_bl))
 s_nil)
 (s_one (s_ret (e_callB (cr_allS hh) im_all (by rfl) z.n_all boot_all (a_cons (e_lcS (own := [("_law_k", 2)]) hh nd__law_equal (by rfl) z.n_range (a_cons (e_callB call_len im_len (by rfl) z.n_len boot_len (a_cons (e_var 1) a_nil)) a_nil) (blk_of rfl) (fun _ _ _ _ _ hh => (g_name 2 (by decide) nd__law_equal rfl (by first | exact .inl rfl | exact .inr rfl))) (fun _ _ _ _ _ hh => t_yes)
 (fun _ _ _ _ _ hh => (c_callN ih hr (Nat.le_refl _) hh takes0 (by rfl) z.g__law_equal (a_cons (e_ix (e_var 0) (e_var 2)) (a_cons (e_ix (e_var 1) (e_var 2)) a_nil))))) a_nil))))))))))))
theorem ok__law_classes (z : Zz w K mg) : FOkN PP w K mg base ("_law_classes", none) 2 P__law_classes F__law_classes :=
  fokN_of (d := d__law_classes) (N := N__law_classes) (b := b__law_classes) (keep := false) z.d__law_classes rfl sc__law_classes (fun _ _ _ _ _ _ us hl => match us, hl with | [_], _ => rfl) fun cdv A outer s H E hr hh =>
  (s_cons (s_set 1 nd__law_classes rfl (by first | exact .inl rfl | exact .inr rfl) (e_lst (a_cons (e_isXC (C := n_UnknownPart) [(n_UnknownPart, true), (n_BadText, false), (n_BadDeed, false), (n_UnknownWord, false), (n_NotAlike, false), (n_BadPart, false), (n_BadWord, false), (n_BadKeys, false), (n_BadLine, false)] (by rfl) z.n_isinstance (by rfl) z.gS_UnknownPart (mcons z.isx_UnknownPart_UnknownPart (mcons z.isx_UnknownPart_BadText (mcons z.isx_UnknownPart_BadDeed (mcons z.isx_UnknownPart_UnknownWord (mcons z.isx_UnknownPart_NotAlike (mcons z.isx_UnknownPart_BadPart (mcons z.isx_UnknownPart_BadWord (mcons z.isx_UnknownPart_BadKeys (mcons z.isx_UnknownPart_BadLine mnil))))))))) (e_var 0)) (a_cons (e_isXC (C := n_BadText) [(n_UnknownPart, false), (n_BadText, true), (n_BadDeed, false), (n_UnknownWord, false), (n_NotAlike, false), (n_BadPart, false), (n_BadWord, false), (n_BadKeys, false), (n_BadLine, false)] (by rfl) z.n_isinstance (by rfl) z.gS_BadText (mcons z.isx_BadText_UnknownPart (mcons z.isx_BadText_BadText (mcons z.isx_BadText_BadDeed (mcons z.isx_BadText_UnknownWord (mcons z.isx_BadText_NotAlike (mcons z.isx_BadText_BadPart (mcons z.isx_BadText_BadWord (mcons z.isx_BadText_BadKeys (mcons z.isx_BadText_BadLine mnil))))))))) (e_var 0)) (a_cons (e_isXC (C := n_BadDeed) [(n_UnknownPart, false), (n_BadText, false), (n_BadDeed, true), (n_UnknownWord, false), (n_NotAlike, false), (n_BadPart, false), (n_BadWord, false), (n_BadKeys, false), (n_BadLine, false)] (by rfl) z.n_isinstance (by rfl) z.gS_BadDeed (mcons z.isx_BadDeed_UnknownPart (mcons z.isx_BadDeed_BadText (mcons z.isx_BadDeed_BadDeed (mcons z.isx_BadDeed_UnknownWord (mcons z.isx_BadDeed_NotAlike (mcons z.isx_BadDeed_BadPart (mcons z.isx_BadDeed_BadWord (mcons z.isx_BadDeed_BadKeys (mcons z.isx_BadDeed_BadLine mnil))))))))) (e_var 0)) (a_cons (e_isXC (C := n_UnknownWord) [(n_UnknownPart, false), (n_BadText, false), (n_BadDeed, false), (n_UnknownWord, true), (n_NotAlike, false), (n_BadPart, false), (n_BadWord, false), (n_BadKeys, false), (n_BadLine, false)] (by rfl) z.n_isinstance (by rfl) z.gS_UnknownWord (mcons z.isx_UnknownWord_UnknownPart (mcons z.isx_UnknownWord_BadText (mcons z.isx_UnknownWord_BadDeed (mcons z.isx_UnknownWord_UnknownWord (mcons z.isx_UnknownWord_NotAlike (mcons z.isx_UnknownWord_BadPart (mcons z.isx_UnknownWord_BadWord (mcons z.isx_UnknownWord_BadKeys (mcons z.isx_UnknownWord_BadLine mnil))))))))) (e_var 0)) a_nil))))))
 (s_cons (s_set 1 nd__law_classes rfl (by first | exact .inl rfl | exact .inr rfl) (e_op op_addA im_add (e_var 1) (e_lst (a_cons (e_isXC (C := n_NotAlike) [(n_UnknownPart, false), (n_BadText, false), (n_BadDeed, false), (n_UnknownWord, false), (n_NotAlike, true), (n_BadPart, false), (n_BadWord, false), (n_BadKeys, false), (n_BadLine, false)] (by rfl) z.n_isinstance (by rfl) z.gS_NotAlike (mcons z.isx_NotAlike_UnknownPart (mcons z.isx_NotAlike_BadText (mcons z.isx_NotAlike_BadDeed (mcons z.isx_NotAlike_UnknownWord (mcons z.isx_NotAlike_NotAlike (mcons z.isx_NotAlike_BadPart (mcons z.isx_NotAlike_BadWord (mcons z.isx_NotAlike_BadKeys (mcons z.isx_NotAlike_BadLine mnil))))))))) (e_var 0)) (a_cons (e_isXC (C := n_BadPart) [(n_UnknownPart, false), (n_BadText, false), (n_BadDeed, false), (n_UnknownWord, false), (n_NotAlike, false), (n_BadPart, true), (n_BadWord, false), (n_BadKeys, false), (n_BadLine, false)] (by rfl) z.n_isinstance (by rfl) z.gS_BadPart (mcons z.isx_BadPart_UnknownPart (mcons z.isx_BadPart_BadText (mcons z.isx_BadPart_BadDeed (mcons z.isx_BadPart_UnknownWord (mcons z.isx_BadPart_NotAlike (mcons z.isx_BadPart_BadPart (mcons z.isx_BadPart_BadWord (mcons z.isx_BadPart_BadKeys (mcons z.isx_BadPart_BadLine mnil))))))))) (e_var 0)) (a_cons (e_isXC (C := n_BadWord) [(n_UnknownPart, false), (n_BadText, false), (n_BadDeed, false), (n_UnknownWord, false), (n_NotAlike, false), (n_BadPart, false), (n_BadWord, true), (n_BadKeys, false), (n_BadLine, false)] (by rfl) z.n_isinstance (by rfl) z.gS_BadWord (mcons z.isx_BadWord_UnknownPart (mcons z.isx_BadWord_BadText (mcons z.isx_BadWord_BadDeed (mcons z.isx_BadWord_UnknownWord (mcons z.isx_BadWord_NotAlike (mcons z.isx_BadWord_BadPart (mcons z.isx_BadWord_BadWord (mcons z.isx_BadWord_BadKeys (mcons z.isx_BadWord_BadLine mnil))))))))) (e_var 0)) a_nil))))))
 (s_one (s_ret (e_op op_addA im_add (e_var 1) (e_lst (a_cons (e_isXC (C := n_BadKeys) [(n_UnknownPart, false), (n_BadText, false), (n_BadDeed, false), (n_UnknownWord, false), (n_NotAlike, false), (n_BadPart, false), (n_BadWord, false), (n_BadKeys, true), (n_BadLine, false)] (by rfl) z.n_isinstance (by rfl) z.gS_BadKeys (mcons z.isx_BadKeys_UnknownPart (mcons z.isx_BadKeys_BadText (mcons z.isx_BadKeys_BadDeed (mcons z.isx_BadKeys_UnknownWord (mcons z.isx_BadKeys_NotAlike (mcons z.isx_BadKeys_BadPart (mcons z.isx_BadKeys_BadWord (mcons z.isx_BadKeys_BadKeys (mcons z.isx_BadKeys_BadLine mnil))))))))) (e_var 0)) (a_cons (e_isXC (C := n_BadLine) [(n_UnknownPart, false), (n_BadText, false), (n_BadDeed, false), (n_UnknownWord, false), (n_NotAlike, false), (n_BadPart, false), (n_BadWord, false), (n_BadKeys, false), (n_BadLine, true)] (by rfl) z.n_isinstance (by rfl) z.gS_BadLine (mcons z.isx_BadLine_UnknownPart (mcons z.isx_BadLine_BadText (mcons z.isx_BadLine_BadDeed (mcons z.isx_BadLine_UnknownWord (mcons z.isx_BadLine_NotAlike (mcons z.isx_BadLine_BadPart (mcons z.isx_BadLine_BadWord (mcons z.isx_BadLine_BadKeys (mcons z.isx_BadLine_BadLine mnil))))))))) (e_var 0)) a_nil))))))))
theorem ok__law_fields (z : Zz w K mg) : FOkN PP w K mg base ("_law_fields", none) 2 P__law_fields F__law_fields :=
  fokN_of (d := d__law_fields) (N := N__law_fields) (b := b__law_fields) (keep := false) z.d__law_fields rfl sc__law_fields (fun _ _ _ _ _ _ us hl => match us, hl with | [_, _], _ => rfl) fun cdv A outer s H E hr hh =>
  (s_cons (s_if (t_cmp op_lt im_lt (e_var 0) e_int)
 (s_one (s_ret (e_lst a_nil)))
 s_nil)
 (s_cons (s_if (t_cmp (op_eqD (unitsN hr)) im_eq (e_var 0) e_int)
 (s_one (s_ret (e_lst (a_cons (e_xf (f := [110, 97, 109, 101]) [n_BadPart] (by decide +kernel) (mcons z.xf_BadPart mnil) (mcons (find_none z.na_BadPart_name) mnil) (e_var 1)) a_nil))))
 s_nil)
 (s_one (s_ret (e_if (t_cmp op_lt im_lt (e_var 0) e_int) (e_lst (a_cons (e_xf (f := [105, 110, 100, 101, 120]) [n_BadWord, n_BadKeys] (by decide +kernel) (mcons z.xf_BadWord (mcons z.xf_BadKeys mnil)) (mcons (find_none z.na_BadWord_index) (mcons (find_none z.na_BadKeys_index) mnil)) (e_var 1)) a_nil)) (e_lst (a_cons (e_xf (f := [108, 105, 110, 101]) [n_BadLine] (by decide +kernel) (mcons z.xf_BadLine mnil) (mcons (find_none z.na_BadLine_line) mnil) (e_var 1)) (a_cons (e_xf (f := [119, 111, 114, 100]) [n_BadLine] (by decide +kernel) (mcons z.xf_BadLine mnil) (mcons (find_none z.na_BadLine_word) mnil) (e_var 1)) a_nil))))))))
theorem ok_law (z : Zz w K mg) : FOk PP w K mg base ("law", none) 7 P_law F_law :=
  fok_of (d := d_law) (N := N_law) (b := b_law) (keep := false) z.d_law rfl sc_law (fun _ _ _ _ _ _ us hl => match us, hl with | [_], _ => rfl) fun cdv A outer s H E hr =>
  (s_cons (s_set 1 nd_law rfl (by first | exact .inl rfl | exact .inr rfl) (c_call (ok__law_random z) hr (by decide) (takes_of rfl rfl rfl rfl) (by rfl) z.g__law_random (a_cons (e_var 0) (a_cons e_int a_nil))))
 (s_cons (s_for (ns := [2]) (passes_of rfl) rfl (i_rng1 (by rfl) z.n_range (a_cons e_int a_nil)) (g_name 2 (by decide) nd_law rfl (by first | exact .inl rfl | exact .inr rfl))
 (s_cons (s_set 3 nd_law rfl (by first | exact .inl rfl | exact .inr rfl) (c_call (ok__law_pick z) hr (by decide) (takes_of rfl rfl rfl rfl) (by rfl) z.g__law_pick (a_cons (e_var 1) (a_cons (e_lst (a_cons e_str (a_cons e_str (a_cons e_int (a_cons e_non (a_cons (e_tup (a_cons e_int a_nil)) (a_cons (e_lst (a_cons e_int a_nil)) a_nil))))))) a_nil))))
 (s_cons (s_set 4 nd_law rfl (by first | exact .inl rfl | exact .inr rfl) (c_call (ok__law_pick z) hr (by decide) (takes_of rfl rfl rfl rfl) (by rfl) z.g__law_pick (a_cons (e_var 1) (a_cons (e_lst (a_cons e_int (a_cons e_non (a_cons e_str (a_cons (e_neg e_int) a_nil))))) a_nil))))
 (s_cons (s_set 5 nd_law rfl (by first | exact .inl rfl | exact .inr rfl) (e_lst a_nil))
 (s_cons (s_if (t_cmp op_gt im_gt (e_var 2) e_int)
 (s_one (s_set 5 nd_law rfl (by first | exact .inl rfl | exact .inr rfl) (e_if (t_cmp op_lt im_lt (e_var 2) e_int) (e_lst (a_cons (e_var 3) a_nil)) (e_lst (a_cons (e_var 3) (a_cons (e_var 4) a_nil))))))
 s_nil)
 (s_cons (s_set 6 nd_law rfl (by first | exact .inl rfl | exact .inr rfl) e_bl)
 (s_cons (c_tryH (i := 7) rfl rfl nd_law rfl rfl (names_of (by rfl) z.gS_OpenError) (mcons z.exm_UnknownPart_OpenError (mcons z.exm_BadText_OpenError (mcons z.exm_BadDeed_OpenError (mcons z.exm_UnknownWord_OpenError (mcons z.exm_NotAlike_OpenError (mcons z.exm_BadPart_OpenError (mcons z.exm_BadWord_OpenError (mcons z.exm_BadKeys_OpenError (mcons z.exm_BadLine_OpenError mnil))))))))) (fun W pn xe tk hp => (s_one (s_expr (c_callX (ok__law_thrown z) hr (by decide) tk (by rfl) z.g__law_thrown (a_cons (e_var 2) (a_cons (e_var 3) (a_cons (e_var 4) a_nil)))))))
 (fun a oe pn hh => (have hr := roomN (h := some (.ref a)) hr; (s_cons (s_set 6 nd_law rfl (by first | exact .inl rfl | exact .inr rfl) (e_and (e_isXT (T := "ValueError") [(n_UnknownPart, true), (n_BadText, true), (n_BadDeed, true), (n_UnknownWord, true), (n_NotAlike, true), (n_BadPart, true), (n_BadWord, true), (n_BadKeys, true), (n_BadLine, true)] (by rfl) z.n_isinstance (by rfl) z.n_ValueError (by rfl) (mcons z.isx_ValueError_UnknownPart (mcons z.isx_ValueError_BadText (mcons z.isx_ValueError_BadDeed (mcons z.isx_ValueError_UnknownWord (mcons z.isx_ValueError_NotAlike (mcons z.isx_ValueError_BadPart (mcons z.isx_ValueError_BadWord (mcons z.isx_ValueError_BadKeys (mcons z.isx_ValueError_BadLine mnil))))))))) (e_var 7))
 (e_one (e_cmp (op_eqD (unitsN hr)) im_eq (c_callN (ok__law_classes z) hr (by decide) hh takesF (by rfl) z.g__law_classes (a_cons (e_var 7) a_nil)) (e_lcS (own := [("_law_other", 8)]) hh nd_law (by rfl) z.n_range (a_cons e_int a_nil) (blk_of rfl) (fun _ _ _ _ _ hh => (g_name 8 (by decide) nd_law rfl (by first | exact .inl rfl | exact .inr rfl))) (fun _ _ _ _ _ hh => t_yes)
 (fun _ _ _ _ _ hh => (e_cmp (op_eqD (unitsN hr)) im_eq (e_var 8) (e_var 2))))))))
 (s_one (s_set 6 nd_law rfl (by first | exact .inl rfl | exact .inr rfl) (e_and (e_var 6)
 (e_one (c_callN (ok__law_equal z 4) hr (by decide) hh takesF (by rfl) z.g__law_equal (a_cons (c_callN (ok__law_fields z) hr (by decide) hh takesF (by rfl) z.g__law_fields (a_cons (e_var 2) (a_cons (e_var 7) a_nil))) (a_cons (e_var 5) a_nil)))))))))))
 (s_one (s_if (t_not (t_val (e_var 6)))
 (s_one (s_ret e_bl))
 s_nil)))))))))
 (s_one (s_ret e_bl))))
end
end G13
end
section
set_option Elab.async false
set_option linter.all false
set_option maxRecDepth 100000
namespace G13
open PySem PySem.Spec PyProof.Rows L2 FL
/-- the source of numbers -/
def Drw (c : Cell) : Prop := ∃ (a b : Int) (r : List Int), c = .lst (.int a :: .int b :: r.map .int) ∧ r.length ≤ 63
theorem below_ok {c : Cell} {rest : Store} {size : Int} (h : Drw c) (h0 : 0 < size) (h1 : size < 1073741824) :
    ∃ r c', 0 ≤ r ∧ r < size ∧ Drw c' ∧ F__law_below [.ref 0, .int size] (c :: rest) = .ok (.int r) (c' :: rest) := by
  obtain ⟨a, b, l, rfl, hl⟩ := h
  have hm : ∀ (n : Int), 0 ≤ n % size ∧ n % size < size := fun n => ⟨Int.emod_nonneg _ (by omega), Int.emod_lt_of_pos _ h0⟩
  -- behind the first if
  have key : ∀ (b : Int) (l : List Int), l.length ≤ 63 → ∃ r c' e', 0 ≤ r ∧ r < size ∧ Drw c' ∧ (mSeq (mIfS (FL.tB (a2 oGt (a2 oIx (aVar 0) (aC (.int 1))) (aC (.int 0)))) (mSeq (mSet 2 (a2 oMod (aL (on1 oInt) (mCons (a2 oIx (aVar 0) (aC (.int 1))) mNil)) (aVar 1))) (mSeq (mAsgO (a2 oDiv (a2 oIx (aVar 0) (aC (.int 1))) (aVar 1)) (gIx (aVar 0) (aC (.int 1)))) (mRet (aVar 2)))) mPass) (mSeq (mAsgO (a2 oMod (aL (on1 oInt) (mCons (a2 oAdd (a2 (oMu false) (a2 oIx (aVar 0) (aC (.int 0))) (aC (.int 48271))) (aC (.int 11))) mNil)) (aC (.int 2147483647))) (gIx (aVar 0) (aC (.int 0)))) (mRet (a2 oMod (aL (on1 oInt) (mCons (a2 oDiv (a2 oIx (aVar 0) (aC (.int 0))) (aC (.int 64))) mNil)) (aVar 1)))))
      [some (D.ref 0), some (.int size), none] (Cell.lst (.int a :: .int b :: l.map .int) :: rest) = .rt (.int r) (c' :: rest) ∧ e' = e' ∧ (e' : Nat) = 0 := by
    intro b l hl
    by_cases hb : 0 < b
    · exact ⟨b % size, _, 0, (hm b).1, (hm b).2, ⟨a, b / size, l, rfl, hl⟩, by simp [h0, h1, hb], rfl, rfl⟩
    · refine ⟨(a * 48271 + 11) % 2147483647 / 64 % size, _, 0, (hm _).1, (hm _).2, ⟨(a * 48271 + 11) % 2147483647, b, l, rfl, hl⟩, ?_, rfl, rfl⟩
      simp [h0, h1, hb, oMu_int]
  have run : ∃ r c', 0 ≤ r ∧ r < size ∧ Drw c' ∧ b__law_below [some (D.ref 0), some (.int size), none] (Cell.lst (.int a :: .int b :: l.map .int) :: rest) = .rt (.int r) (c' :: rest) := by
    unfold b__law_below
    by_cases hb : b = 0
    · subst hb
      cases l with
      | nil =>
        obtain ⟨r, c', e', r1, r2, r3, r4, _⟩ := key 0 [] hl
        refine ⟨r, c', r1, r2, r3, ?_⟩
        rw [mSeq_e, ← r4]
        simp
      | cons x l =>
        obtain ⟨r, c', e', r1, r2, r3, r4, _⟩ := key x l (by simp at hl; omega)
        refine ⟨r, c', r1, r2, r3, ?_⟩
        rw [mSeq_e, ← r4]
        have e := lPopAt_2 (x0 := .int a) (x1 := .int 0) (x2 := .int x) (xs := l.map .int) (rest := rest) (by simp at hl ⊢; omega)
        have h2 : (2 : Int) < (l.length : Int) + 1 + 1 + 1 := by omega
        simp [e, h2]
    · obtain ⟨r, c', e', r1, r2, r3, r4, _⟩ := key b l hl
      refine ⟨r, c', r1, r2, r3, ?_⟩
      rw [mSeq_e, ← r4]
      simp [hb]
  obtain ⟨r, c', r1, r2, r3, r4⟩ := run
  exact ⟨r, c', r1, r2, r3, mkF_rt rfl r4 rfl⟩
theorem pick_ok {c : Cell} {rest : Store} {its : List D} (h : Drw c) (hne : its ≠ []) (hl : its.length < 1000000000) : ∃ d c', d ∈ its ∧ Drw c' ∧ F__law_pick [.ref 0, .lst its] (c :: rest) = .ok d (c' :: rest) := by
  have hp : 0 < its.length := List.length_pos_iff.mpr hne
  obtain ⟨r, c', r1, r2, r3, r4⟩ := below_ok (rest := rest) (size := its.length) h (by omega) (by omega)
  obtain ⟨k, rfl⟩ : ∃ k : Nat, r = k := ⟨r.toNat, by omega⟩
  have hk : k < its.length := by omega
  refine ⟨its[k], c', List.getElem_mem hk, r3, mkF_rt (st' := c' :: rest) rfl ?_ rfl⟩
  show b__law_pick [some (.ref 0), some (.lst its)] (c :: rest) = _
  unfold b__law_pick
  simp [r4]
  rw [oAt_nat (d := its[k]) (by simp)]
  rfl
theorem random_ok (ns : List Int) (salt : Int) (hl : ns.length ≤ 63) : ∃ c, Drw c ∧ F__law_random [.scr ns, .int salt] [] = .ok (.ref 0) [c] := by
  have loop : ∀ (ms : List Int) (s : Int) (o : Option D), ∃ s' o', foL (gN 3) (mSet 2 (a2 oMod (aL (on1 oInt) (mCons (a2 oAdd (a2 (oMu false) (aVar 2) (aC (.int 31))) (aL (on1 oAbs) (mCons (aVar 3) mNil))) mNil)) (aC (.int 2147483647)))) (ms.map .int) [some (.scr ns), some (.int salt), some (.int s), o] [] = .nx [some (.scr ns), some (.int salt), some (.int s'), o'] [] := by
    intro ms
    induction ms with
    | nil => exact fun s o => ⟨s, o, rfl⟩
    | cons m ms ih =>
      intro s o
      obtain ⟨s', o', h⟩ := ih ((s * 31 + (if m < 0 then -m else m)) % 2147483647) (some (.int m))
      refine ⟨s', o', ?_⟩
      rw [List.map_cons, foL_cons]
      simp [oMu_int]
      exact h
  obtain ⟨s', o', h⟩ := loop ns salt none
  have pw : (10 : Int) ^ Int.toNat 18 = 1000000000000000000 := by decide
  have comp : ∀ e3, lcL (gN 3) (FL.tB (a2 oGe (aVar 3) (a2 oPow (aC (.int 10)) (aC (.int 18))))) (aVar 3) [some (.scr ns), some (.int salt), some (.int s'), e3] (ns.map .int) [] [] = .ok ((ns.filter fun n => decide (1000000000000000000 ≤ n)).map .int) [] := by
    intro e3
    have := lcL_pure (k := gN 3) (t := FL.tB (a2 oGe (aVar 3) (a2 oPow (aC (.int 10)) (aC (.int 18))))) (m := aVar 3) (e := [some (.scr ns), some (.int salt), some (.int s'), e3]) (st := []) (fun d => match d with | .int n => decide (1000000000000000000 ≤ n) | _ => false) id (ns.map .int) [] (fun x hx => by
      obtain ⟨n, _, rfl⟩ := List.mem_map.mp hx
      refine ⟨_, rfl, ?_, fun _ => rfl⟩
      simp [oPow, oI, pw]) (by have : BIG = 16777216 := rfl; simp; omega)
    rw [this]
    simp [List.filter_map, Function.comp_def]
  have hf : (ns.filter fun n => decide (1000000000000000000 ≤ n)).length ≤ 63 := Nat.le_trans (List.length_filter_le _ _) hl
  refine ⟨_, ⟨s', 0, ns.filter fun n => decide (1000000000000000000 ≤ n), rfl, hf⟩, ?_⟩
  refine mkF_keep rfl ?_
  show b__law_random [some (.scr ns), some (.int salt), none, none] [] = _
  unfold b__law_random
  simp [h]
  simp only [wipeE, List.set, comp, bind_ok]
  have oc := oCat_t (st := []) (a := [.int s', .int 0]) (b := (ns.filter fun n => decide (1000000000000000000 ≤ n)).map .int) (by simp; omega)
  simp only [oc, fl_ok]
  rfl
end G13
end
section
set_option Elab.async false
set_option linter.all false
set_option maxRecDepth 100000
namespace G13
open PySem PySem.Spec PyProof.Rows L2 FL
def LW1 : Ms := (mSet 1 (aL F__law_random (mCons (aVar 0) (mCons (aC (.int 983)) mNil))))
def LW2 : Ms := (mFor (iR1 (mCons (aC (.int 9)) mNil)) (gN 2) (mSeq (mSet 3 (aL F__law_pick (mCons (aVar 1) (mCons (aL oLst (mCons (aC (.str [97])) (mCons (aC (.str [])) (mCons (aC (.int 7)) (mCons (aC .non) (mCons (aL oTup (mCons (aC (.int 1)) mNil)) (mCons (aL oLst (mCons (aC (.int 2)) mNil)) mNil))))))) mNil)))) (mSeq (mSet 4 (aL F__law_pick (mCons (aVar 1) (mCons (aL oLst (mCons (aC (.int 0)) (mCons (aC .non) (mCons (aC (.str [98])) (mCons (a1 oNeg (aC (.int 1))) mNil))))) mNil)))) (mSeq (mSet 5 (aL oLst mNil)) (mSeq (mIfS (FL.tB (a2 oGt (aVar 2) (aC (.int 4)))) (mSet 5 (mIf (FL.tB (a2 oLt (aVar 2) (aC (.int 8)))) (aL oLst (mCons (aVar 3) mNil)) (aL oLst (mCons (aVar 3) (mCons (aVar 4) mNil))))) mPass) (mSeq (mSet 6 (aC (.bl false))) (mSeq (mTryH 7 (okOf [(n_UnknownPart, true), (n_BadText, true), (n_BadDeed, true), (n_UnknownWord, true), (n_NotAlike, true), (n_BadPart, true), (n_BadWord, true), (n_BadKeys, true), (n_BadLine, true)]) (mExpr (aL F__law_thrown (mCons (aVar 2) (mCons (aVar 3) (mCons (aVar 4) mNil))))) (mSeq (mSet 6 (mAn (a1 (oIsX [(n_UnknownPart, true), (n_BadText, true), (n_BadDeed, true), (n_UnknownWord, true), (n_NotAlike, true), (n_BadPart, true), (n_BadWord, true), (n_BadKeys, true), (n_BadLine, true)]) (aVar 7)) (a2 oEq (aL F__law_classes (mCons (aVar 7) mNil)) (mLc [8] (iR1 (mCons (aC (.int 9)) mNil)) (gN 8) tYe (a2 oEq (aVar 8) (aVar 2)))))) (mSet 6 (mAn (aVar 6) (aL (F__law_equal 4) (mCons (aL F__law_fields (mCons (aVar 2) (mCons (aVar 7) mNil))) (mCons (aVar 5) mNil))))))) (mIfS (tN (FL.tB (aVar 6))) (mRet (aC (.bl false))) mPass))))))))
def LW2b : Ms := (mSeq (mSet 3 (aL F__law_pick (mCons (aVar 1) (mCons (aL oLst (mCons (aC (.str [97])) (mCons (aC (.str [])) (mCons (aC (.int 7)) (mCons (aC .non) (mCons (aL oTup (mCons (aC (.int 1)) mNil)) (mCons (aL oLst (mCons (aC (.int 2)) mNil)) mNil))))))) mNil)))) (mSeq (mSet 4 (aL F__law_pick (mCons (aVar 1) (mCons (aL oLst (mCons (aC (.int 0)) (mCons (aC .non) (mCons (aC (.str [98])) (mCons (a1 oNeg (aC (.int 1))) mNil))))) mNil)))) (mSeq (mSet 5 (aL oLst mNil)) (mSeq (mIfS (FL.tB (a2 oGt (aVar 2) (aC (.int 4)))) (mSet 5 (mIf (FL.tB (a2 oLt (aVar 2) (aC (.int 8)))) (aL oLst (mCons (aVar 3) mNil)) (aL oLst (mCons (aVar 3) (mCons (aVar 4) mNil))))) mPass) (mSeq (mSet 6 (aC (.bl false))) (mSeq (mTryH 7 (okOf [(n_UnknownPart, true), (n_BadText, true), (n_BadDeed, true), (n_UnknownWord, true), (n_NotAlike, true), (n_BadPart, true), (n_BadWord, true), (n_BadKeys, true), (n_BadLine, true)]) (mExpr (aL F__law_thrown (mCons (aVar 2) (mCons (aVar 3) (mCons (aVar 4) mNil))))) (mSeq (mSet 6 (mAn (a1 (oIsX [(n_UnknownPart, true), (n_BadText, true), (n_BadDeed, true), (n_UnknownWord, true), (n_NotAlike, true), (n_BadPart, true), (n_BadWord, true), (n_BadKeys, true), (n_BadLine, true)]) (aVar 7)) (a2 oEq (aL F__law_classes (mCons (aVar 7) mNil)) (mLc [8] (iR1 (mCons (aC (.int 9)) mNil)) (gN 8) tYe (a2 oEq (aVar 8) (aVar 2)))))) (mSet 6 (mAn (aVar 6) (aL (F__law_equal 4) (mCons (aL F__law_fields (mCons (aVar 2) (mCons (aVar 7) mNil))) (mCons (aVar 5) mNil))))))) (mIfS (tN (FL.tB (aVar 6))) (mRet (aC (.bl false))) mPass)))))))
theorem LW2_f : LW2 = mFor (iR1 (mCons (aC (.int 9)) mNil)) (gN 2) LW2b := rfl
-- body of LW2
def LW2b1 : Ms := (mSet 3 (aL F__law_pick (mCons (aVar 1) (mCons (aL oLst (mCons (aC (.str [97])) (mCons (aC (.str [])) (mCons (aC (.int 7)) (mCons (aC .non) (mCons (aL oTup (mCons (aC (.int 1)) mNil)) (mCons (aL oLst (mCons (aC (.int 2)) mNil)) mNil))))))) mNil))))
def LW2b2 : Ms := (mSet 4 (aL F__law_pick (mCons (aVar 1) (mCons (aL oLst (mCons (aC (.int 0)) (mCons (aC .non) (mCons (aC (.str [98])) (mCons (a1 oNeg (aC (.int 1))) mNil))))) mNil))))
def LW2b3 : Ms := (mSet 5 (aL oLst mNil))
def LW2b4 : Ms := (mIfS (FL.tB (a2 oGt (aVar 2) (aC (.int 4)))) (mSet 5 (mIf (FL.tB (a2 oLt (aVar 2) (aC (.int 8)))) (aL oLst (mCons (aVar 3) mNil)) (aL oLst (mCons (aVar 3) (mCons (aVar 4) mNil))))) mPass)
def LW2b5 : Ms := (mSet 6 (aC (.bl false)))
def LW2b6 : Ms := (mTryH 7 (okOf [(n_UnknownPart, true), (n_BadText, true), (n_BadDeed, true), (n_UnknownWord, true), (n_NotAlike, true), (n_BadPart, true), (n_BadWord, true), (n_BadKeys, true), (n_BadLine, true)]) (mExpr (aL F__law_thrown (mCons (aVar 2) (mCons (aVar 3) (mCons (aVar 4) mNil))))) (mSeq (mSet 6 (mAn (a1 (oIsX [(n_UnknownPart, true), (n_BadText, true), (n_BadDeed, true), (n_UnknownWord, true), (n_NotAlike, true), (n_BadPart, true), (n_BadWord, true), (n_BadKeys, true), (n_BadLine, true)]) (aVar 7)) (a2 oEq (aL F__law_classes (mCons (aVar 7) mNil)) (mLc [8] (iR1 (mCons (aC (.int 9)) mNil)) (gN 8) tYe (a2 oEq (aVar 8) (aVar 2)))))) (mSet 6 (mAn (aVar 6) (aL (F__law_equal 4) (mCons (aL F__law_fields (mCons (aVar 2) (mCons (aVar 7) mNil))) (mCons (aVar 5) mNil)))))))
def LW2b7 : Ms := (mIfS (tN (FL.tB (aVar 6))) (mRet (aC (.bl false))) mPass)
theorem LW2b_eq : LW2b = (mSeq LW2b1 (mSeq LW2b2 (mSeq LW2b3 (mSeq LW2b4 (mSeq LW2b5 (mSeq LW2b6 LW2b7)))))) := rfl
def LW3 : Ms := (mRet (aC (.bl true)))
theorem LW_eq : b_law = (mSeq LW1 (mSeq LW2 LW3)) := rfl
def ones : List D := [.str [97], .str [], .int 7, .non, .tup [.int 1], .lst [.int 2]]
def twos : List D := [.int 0, .non, .str [98], .int (-1)]
def ks : List Nat := [0, 1, 2, 3, 4, 5, 6, 7, 8]
def due (k : Nat) (x y : D) : D := if k < 5 then .lst [] else if k < 8 then .lst [x] else .lst [x, y]
def thrown (k : Nat) (x y : D) : Exn := match k with
  | 0 => (n_UnknownPart, [])
  | 1 => (n_BadText, [])
  | 2 => (n_BadDeed, [])
  | 3 => (n_UnknownWord, [])
  | 4 => (n_NotAlike, [])
  | 5 => (n_BadPart, [([110, 97, 109, 101], x)])
  | 6 => (n_BadWord, [([105, 110, 100, 101, 120], x)])
  | 7 => (n_BadKeys, [([105, 110, 100, 101, 120], x)])
  | _ => (n_BadLine, [([119, 111, 114, 100], y), ([108, 105, 110, 101], x)])
def marks (k : Nat) : D := .lst ((List.range 9).map fun j => .bl (decide (j = k)))
section
variable {c : Cell} {k : Nat} {x y : D}
theorem thrown_ok (hk : k ∈ ks) : F__law_thrown [.int (k : Int), x, y] [c] = .exc (thrown k x y) [c] := by
  simp only [ks, List.mem_cons, List.not_mem_nil, or_false] at hk
  rcases hk with rfl | rfl | rfl | rfl | rfl | rfl | rfl | rfl | rfl <;> kernel_rfl
theorem classes_ok (hk : k ∈ ks) : F__law_classes [.exn (thrown k x y).1 (thrown k x y).2] [c] = .ok (marks k) [c] := by
  simp only [ks, List.mem_cons, List.not_mem_nil, or_false] at hk
  rcases hk with rfl | rfl | rfl | rfl | rfl | rfl | rfl | rfl | rfl <;> kernel_rfl
theorem fields_ok (hk : k ∈ ks) : F__law_fields [.int (k : Int), .exn (thrown k x y).1 (thrown k x y).2] [c] = .ok (due k x y) [c] := by
  simp only [ks, List.mem_cons, List.not_mem_nil, or_false] at hk
  rcases hk with rfl | rfl | rfl | rfl | rfl | rfl | rfl | rfl | rfl <;> kernel_rfl
theorem eq0 : F__law_equal 4 [.lst [], .lst []] [c] = .ok (.bl true) [c] := by kernel_rfl
theorem eq1 (hx : x ∈ ones) : F__law_equal 4 [.lst [x], .lst [x]] [c] = .ok (.bl true) [c] := by
  simp only [ones, List.mem_cons, List.not_mem_nil, or_false] at hx
  rcases hx with rfl | rfl | rfl | rfl | rfl | rfl <;> kernel_rfl
theorem eq2 (hx : x ∈ ones) (hy : y ∈ twos) : F__law_equal 4 [.lst [x, y], .lst [x, y]] [c] = .ok (.bl true) [c] := by
  simp only [ones, List.mem_cons, List.not_mem_nil, or_false] at hx
  simp only [twos, List.mem_cons, List.not_mem_nil, or_false] at hy
  rcases hx with rfl | rfl | rfl | rfl | rfl | rfl <;> rcases hy with rfl | rfl | rfl | rfl <;> kernel_rfl
theorem eq_due (hk : k ∈ ks) (hx : x ∈ ones) (hy : y ∈ twos) : F__law_equal 4 [due k x y, due k x y] [c] = .ok (.bl true) [c] := by
  unfold due
  split
  · exact eq0
  · split
    · exact eq1 hx
    · exact eq2 hx hy
end
end G13
end
section
set_option Elab.async false
set_option linter.all false
set_option maxRecDepth 100000
namespace G13
open PySem PySem.Spec PyProof.Rows L2 FL
abbrev tE (ns : List Int) (k : Nat) (o3 o4 o5 o6 o7 o8 : Option D) : En := [some (.scr ns), some (.ref 0), some (.int (k : Int)), o3, o4, o5, o6, o7, o8]
def CL : List (S × Bool) := [(n_UnknownPart, true), (n_BadText, true), (n_BadDeed, true), (n_UnknownWord, true), (n_NotAlike, true), (n_BadPart, true), (n_BadWord, true), (n_BadKeys, true), (n_BadLine, true)]
def SU1 : Ms := mSet 6 (mAn (a1 (oIsX CL) (aVar 7)) (a2 oEq (aL F__law_classes (mCons (aVar 7) mNil)) (mLc [8] (iR1 (mCons (aC (.int 9)) mNil)) (gN 8) tYe (a2 oEq (aVar 8) (aVar 2)))))
def SU2 : Ms := mSet 6 (mAn (aVar 6) (aL (F__law_equal 4) (mCons (aL F__law_fields (mCons (aVar 2) (mCons (aVar 7) mNil))) (mCons (aVar 5) mNil))))
theorem LW2b6_eq : LW2b6 = mTryH 7 (okOf CL) (mExpr (aL F__law_thrown (mCons (aVar 2) (mCons (aVar 3) (mCons (aVar 4) mNil))))) (mSeq SU1 SU2) := rfl
section
variable {c : Cell} {ns : List Int} {k : Nat} {x y : D} {o3 o4 o5 o6 o7 o8 : Option D}
theorem caught_ok (hk : k ∈ ks) : okOf CL (thrown k x y).1 = some true := by
  simp only [ks, List.mem_cons, List.not_mem_nil, or_false] at hk
  rcases hk with rfl | rfl | rfl | rfl | rfl | rfl | rfl | rfl | rfl <;> kernel_rfl
theorem isx_ok (hk : k ∈ ks) : oIsX CL (.exn (thrown k x y).1 (thrown k x y).2) [c] = .ok (.bl true) [c] := by
  simp only [ks, List.mem_cons, List.not_mem_nil, or_false] at hk
  rcases hk with rfl | rfl | rfl | rfl | rfl | rfl | rfl | rfl | rfl <;> kernel_rfl
theorem comp_ok (hk : k ∈ ks) : mLc [8] (iR1 (mCons (aC (.int 9)) mNil)) (gN 8) tYe (a2 oEq (aVar 8) (aVar 2)) (tE ns k o3 o4 o5 o6 o7 o8) [c] = .ok (marks k) [c] := by
  simp only [ks, List.mem_cons, List.not_mem_nil, or_false] at hk
  rcases hk with rfl | rfl | rfl | rfl | rfl | rfl | rfl | rfl | rfl <;> kernel_rfl
theorem marks_eq (hk : k ∈ ks) : oEq (marks k) (marks k) [c] = .ok (.bl true) [c] := by
  simp only [ks, List.mem_cons, List.not_mem_nil, or_false] at hk
  rcases hk with rfl | rfl | rfl | rfl | rfl | rfl | rfl | rfl | rfl <;> kernel_rfl
theorem due_ok (hk : k ∈ ks) : (mSeq LW2b3 LW2b4) (tE ns k (some x) (some y) o5 o6 o7 o8) [c] = .nx (tE ns k (some x) (some y) (some (due k x y)) o6 o7 o8) [c] := by
  simp only [ks, List.mem_cons, List.not_mem_nil, or_false] at hk
  rcases hk with rfl | rfl | rfl | rfl | rfl | rfl | rfl | rfl | rfl <;> kernel_rfl
theorem try_ok (hk : k ∈ ks) (hx : x ∈ ones) (hy : y ∈ twos) : LW2b6 (tE ns k (some x) (some y) (some (due k x y)) o6 o7 o8) [c] = .nx (tE ns k (some x) (some y) (some (due k x y)) (some (.bl true)) none o8) [c] := by
  rw [LW2b6_eq]
  have t : mExpr (aL F__law_thrown (mCons (aVar 2) (mCons (aVar 3) (mCons (aVar 4) mNil)))) (tE ns k (some x) (some y) (some (due k x y)) o6 o7 o8) [c] = .exc (thrown k x y) (tE ns k (some x) (some y) (some (due k x y)) o6 o7 o8) [c] := by
    show (F__law_thrown [.int (k : Int), x, y] [c]).fl _ _ = _
    rw [thrown_ok hk]
    rfl
  obtain ⟨e, he⟩ : ∃ e : D, e = .exn (thrown k x y).1 (thrown k x y).2 := ⟨_, rfl⟩
  have s1 : SU1 (tE ns k (some x) (some y) (some (due k x y)) o6 (some e) o8) [c] = .nx (tE ns k (some x) (some y) (some (due k x y)) (some (.bl true)) (some e) o8) [c] := by
    unfold SU1
    have v7 : aVar 7 (tE ns k (some x) (some y) (some (due k x y)) o6 (some e) o8) [c] = .ok e [c] := rfl
    have i1 : oIsX CL e [c] = .ok (.bl true) [c] := by rw [he]; exact isx_ok hk
    have i2 : F__law_classes [e] [c] = .ok (marks k) [c] := by rw [he]; exact classes_ok hk
    have q2 : (a2 oEq (aL F__law_classes (mCons (aVar 7) mNil)) (mLc [8] (iR1 (mCons (aC (.int 9)) mNil)) (gN 8) tYe (a2 oEq (aVar 8) (aVar 2)))) (tE ns k (some x) (some y) (some (due k x y)) o6 (some e) o8) [c] = .ok (.bl true) [c] := by
      rw [FL.a2_e, aL_e, mCons_e, v7, bind_ok, mNil_e]
      simp only [bind_ok]
      rw [i2, bind_ok, comp_ok hk, bind_ok]
      exact marks_eq hk
    have q1 : (a1 (oIsX CL) (aVar 7)) (tE ns k (some x) (some y) (some (due k x y)) o6 (some e) o8) [c] = .ok (.bl true) [c] := by
      rw [a1_e, v7, bind_ok]
      exact i1
    have q : (mAn (a1 (oIsX CL) (aVar 7)) (a2 oEq (aL F__law_classes (mCons (aVar 7) mNil)) (mLc [8] (iR1 (mCons (aC (.int 9)) mNil)) (gN 8) tYe (a2 oEq (aVar 8) (aVar 2))))) (tE ns k (some x) (some y) (some (due k x y)) o6 (some e) o8) [c] = .ok (.bl true) [c] := by
      unfold mAn
      rw [tB_e, q1, bind_ok, toB_e, bind_ok, if_pos rfl]
      exact q2
    rw [mSet_e, q]
    rfl
  have s2 : SU2 (tE ns k (some x) (some y) (some (due k x y)) (some (.bl true)) (some e) o8) [c] = .nx (tE ns k (some x) (some y) (some (due k x y)) (some (.bl true)) (some e) o8) [c] := by
    unfold SU2
    have i2 : F__law_fields [.int (k : Int), e] [c] = .ok (due k x y) [c] := by rw [he]; exact fields_ok hk
    have q2 : aL (F__law_equal 4) (mCons (aL F__law_fields (mCons (aVar 2) (mCons (aVar 7) mNil))) (mCons (aVar 5) mNil)) (tE ns k (some x) (some y) (some (due k x y)) (some (.bl true)) (some e) o8) [c] = .ok (.bl true) [c] := by
      have i3 : aL F__law_fields (mCons (aVar 2) (mCons (aVar 7) mNil)) (tE ns k (some x) (some y) (some (due k x y)) (some (.bl true)) (some e) o8) [c] = .ok (due k x y) [c] := i2
      have v5 : aVar 5 (tE ns k (some x) (some y) (some (due k x y)) (some (.bl true)) (some e) o8) [c] = .ok (due k x y) [c] := rfl
      rw [aL_e, mCons_e, i3, bind_ok, mCons_e, v5, bind_ok, mNil_e]
      simp only [bind_ok]
      exact eq_due hk hx hy
    have q : (mAn (aVar 6) (aL (F__law_equal 4) (mCons (aL F__law_fields (mCons (aVar 2) (mCons (aVar 7) mNil))) (mCons (aVar 5) mNil)))) (tE ns k (some x) (some y) (some (due k x y)) (some (.bl true)) (some e) o8) [c] = .ok (.bl true) [c] := q2
    rw [mSet_e, q]
    rfl
  unfold mTryH
  rw [t]
  dsimp only
  rw [caught_ok hk]
  dsimp only
  rw [if_pos (by simp)]
  have st : (tE ns k (some x) (some y) (some (due k x y)) o6 o7 o8).set 7 (some (.exn (thrown k x y).1 (thrown k x y).2)) = tE ns k (some x) (some y) (some (due k x y)) o6 (some e) o8 := by rw [he]; rfl
  rw [st, mSeq_e, s1, nx_bind, s2]
  rfl
theorem turn_ok (hk : k ∈ ks) (hc : Drw c) : ∃ x y c' o8', Drw c' ∧ LW2b (tE ns k o3 o4 o5 o6 o7 o8) [c] = .nx (tE ns k (some x) (some y) (some (due k x y)) (some (.bl true)) none o8') [c'] := by
  obtain ⟨x, c1, hx, h1, e1⟩ := pick_ok (rest := []) (its := ones) hc (by simp [ones]) (by simp [ones])
  obtain ⟨y, c2, hy, h2, e2⟩ := pick_ok (rest := []) (its := twos) h1 (by simp [twos]) (by simp [twos])
  have l1 : ∀ e st, aL oLst (mCons (aC (.str [97])) (mCons (aC (.str [])) (mCons (aC (.int 7)) (mCons (aC .non) (mCons (aL oTup (mCons (aC (.int 1)) mNil)) (mCons (aL oLst (mCons (aC (.int 2)) mNil)) mNil)))))) e st = .ok (.lst ones) st := fun _ _ => rfl
  have l2 : ∀ e st, aL oLst (mCons (aC (.int 0)) (mCons (aC .non) (mCons (aC (.str [98])) (mCons (a1 oNeg (aC (.int 1))) mNil)))) e st = .ok (.lst twos) st := fun _ _ => rfl
  refine ⟨x, y, c2, o8, h2, ?_⟩
  have s1 : LW2b1 (tE ns k o3 o4 o5 o6 o7 o8) [c] = .nx (tE ns k (some x) o4 o5 o6 o7 o8) [c1] := by
    unfold LW2b1
    have v1 : ∀ st, aVar 1 (tE ns k o3 o4 o5 o6 o7 o8) st = .ok (.ref 0) st := fun _ => rfl
    rw [mSet_e, aL_e, mCons_e, v1, bind_ok, mCons_e, l1, bind_ok, mNil_e]
    simp only [bind_ok]
    rw [e1]
    rfl
  have s2 : LW2b2 (tE ns k (some x) o4 o5 o6 o7 o8) [c1] = .nx (tE ns k (some x) (some y) o5 o6 o7 o8) [c2] := by
    unfold LW2b2
    have v1 : ∀ st, aVar 1 (tE ns k (some x) o4 o5 o6 o7 o8) st = .ok (.ref 0) st := fun _ => rfl
    rw [mSet_e, aL_e, mCons_e, v1, bind_ok, mCons_e, l2, bind_ok, mNil_e]
    simp only [bind_ok]
    rw [e2]
    rfl
  have s34 := due_ok (c := c2) (ns := ns) (x := x) (y := y) (o5 := o5) (o6 := o6) (o7 := o7) (o8 := o8) hk
  have s5 : LW2b5 (tE ns k (some x) (some y) (some (due k x y)) o6 o7 o8) [c2] = .nx (tE ns k (some x) (some y) (some (due k x y)) (some (.bl false)) o7 o8) [c2] := rfl
  have s6 := try_ok (c := c2) (ns := ns) (o6 := some (.bl false)) (o7 := o7) (o8 := o8) hk hx hy
  have s7 : LW2b7 (tE ns k (some x) (some y) (some (due k x y)) (some (.bl true)) none o8) [c2] = .nx (tE ns k (some x) (some y) (some (due k x y)) (some (.bl true)) none o8) [c2] := rfl
  rw [mSeq_e] at s34
  rw [LW2b_eq, mSeq_e, s1, nx_bind, mSeq_e, s2, nx_bind, mSeq_e]
  have ass : ((LW2b3 (tE ns k (some x) (some y) o5 o6 o7 o8) [c2]).bind (mSeq LW2b4 (mSeq LW2b5 (mSeq LW2b6 LW2b7)))) = ((LW2b3 (tE ns k (some x) (some y) o5 o6 o7 o8) [c2]).bind LW2b4).bind (mSeq LW2b5 (mSeq LW2b6 LW2b7)) := by
    cases LW2b3 (tE ns k (some x) (some y) o5 o6 o7 o8) [c2] <;> rfl
  rw [ass, s34, nx_bind, mSeq_e, s5, nx_bind, mSeq_e, s6, nx_bind, s7]
theorem loop_ok : ∀ (l : List Nat) (c : Cell) (o2 o3 o4 o5 o6 o7 o8 : Option D), (∀ k ∈ l, k ∈ ks) → Drw c → ∃ q2 q3 q4 q5 q6 q7 q8 c', Drw c' ∧
    foL (gN 2) LW2b (l.map fun k : Nat => D.int (k : Int)) [some (.scr ns), some (.ref 0), o2, o3, o4, o5, o6, o7, o8] [c] = .nx [some (.scr ns), some (.ref 0), q2, q3, q4, q5, q6, q7, q8] [c']
  | [], c, o2, o3, o4, o5, o6, o7, o8, _, h => ⟨o2, o3, o4, o5, o6, o7, o8, c, h, rfl⟩
  | k :: l, c, o2, o3, o4, o5, o6, o7, o8, hk, h => by
    obtain ⟨x, y, c1, p8, h1, e1⟩ := turn_ok (ns := ns) (o3 := o3) (o4 := o4) (o5 := o5) (o6 := o6) (o7 := o7) (o8 := o8) (hk k List.mem_cons_self) h
    obtain ⟨q2, q3, q4, q5, q6, q7, q8, c', h', ih⟩ := loop_ok l c1 (some (.int (k : Int))) (some x) (some y) (some (due k x y)) (some (.bl true)) none p8 (fun j hj => hk j (List.mem_cons_of_mem _ hj)) h1
    refine ⟨q2, q3, q4, q5, q6, q7, q8, c', h', ?_⟩
    rw [List.map_cons, foL_cons]
    have e0 : (gN 2 (.int (k : Int)) [some (.scr ns), some (.ref 0), o2, o3, o4, o5, o6, o7, o8] [c]).only = .nx (tE ns k o3 o4 o5 o6 o7 o8) [c] := rfl
    rw [e0]
    dsimp only
    rw [e1]
    exact ih
end
theorem law_plain (ns : List Int) (hl : ns.length ≤ 63) : ∃ st, F_law [.scr ns] [] = .ok (.bl true) st := by
  obtain ⟨c0, d0, e1⟩ := random_ok ns 983 hl
  obtain ⟨q2, q3, q4, q5, q6, q7, q8, c', d', e2⟩ := loop_ok (ns := ns) ks c0 none none none none none none none (fun _ h => h) d0
  have s1 : LW1 [some (.scr ns), none, none, none, none, none, none, none, none] [] = .nx [some (.scr ns), some (.ref 0), none, none, none, none, none, none, none] [c0] := by
    unfold LW1
    simp [e1]
  have s2 : LW2 [some (.scr ns), some (.ref 0), none, none, none, none, none, none, none] [c0] = .nx [some (.scr ns), some (.ref 0), q2, q3, q4, q5, q6, q7, q8] [c'] := by
    have it : iR1 (mCons (aC (.int 9)) mNil) [some (.scr ns), some (.ref 0), none, none, none, none, none, none, none] [c0] = .ok (ks.map fun k : Nat => D.int (k : Int)) [c0] := by kernel_rfl
    rw [LW2_f, mFor_e, it, flB_ok]
    exact e2
  have run : b_law [some (.scr ns), none, none, none, none, none, none, none, none] [] = .rt (.bl true) [c'] := by
    rw [LW_eq, mSeq_e, s1, nx_bind, mSeq_e, s2, nx_bind]
    rfl
  have := mkF_pop (n := 1) (N := 9) (b := b_law) (ds := [.scr ns]) (st := []) rfl run rfl rfl
  exact ⟨_, this⟩
end G13
end
section
set_option Elab.async false
set_option linter.all false
set_option maxRecDepth 100000
set_option maxHeartbeats 0
namespace G13
open PySem PySem.Spec PyProof.Rows L2 FL NdefX
theorem law_holds (hL : ∀ ns : List Int, ns.length ≤ 63 → ∃ st, F_law [.scr ns] [] = .ok (.bl true) st) : PySem.Challenge.rw_opensigns_k13_errors_apart.Holds := by
  w_on; o_law
  refine HandSHeadRun.head_any (r := PySem.W.OpenLaw.row PySem.Challenge.rw_opensigns_k13_errors_apart) (q := PySem.W.view (PySem.W.OpenLaw.row PySem.Challenge.rw_opensigns_k13_errors_apart).prog [19]) (H := hk) (ob := ob) (M := 20000) (loose := loose) (d := HandSHeadRun.topDef (PySem.W.OpenLaw.row PySem.Challenge.rw_opensigns_k13_errors_apart).prog 19) (kwd := []) ob_eq
    (by kernel_rfl) (fun s => by kernel_rfl) run (by kernel_rfl) (by kernel_rfl) (by kernel_rfl) (by rfl) (by first | assumption | decide +kernel) (by decide +kernel) ⟨rfl, rfl, rfl, rfl, rfl, by decide +kernel⟩ ?hw ?hc
  case hw => w_witness2
  case hc =>
    refine walk_ofW (l := PySem.Challenge.rw_opensigns_k13_errors_apart) (n := 63) (k := 7) (x := "_law_script") (CX := fun w => L2.CX (PySem.Challenge.rw_opensigns_k13_errors_apart).prog w) rfl (by decide) (by kernel_rfl) ⟨rfl, by decide, by decide⟩ ?F (fun w H s e s' h => cx_end _ w H s e s' h)
    intro w mg fa h Y G hmg0
    obtain ⟨K, KX, c⟩ := Y
    have hmg : mg ("law" : PySem.Str) = some (.ref fa) := by
      have e : (HandSHeadRun.topDef (PySem.W.OpenLaw.row PySem.Challenge.rw_opensigns_k13_errors_apart).prog 19).name = ("law" : PySem.Str) := by kernel_rfl
      rw [← e]
      exact hmg0
    have z : Zz w K mg := zz_of KX G c
    exact law_at (d := d_law) KX hmg z.g_law rfl rfl z.d_law (fun _ _ _ _ _ _ us hl => match us, hl with | [_], _ => rfl) (fun base => ok_law z) hL
end G13
end
theorem PySem.Challenge.cw_opensigns_k13_errors_apart_holds : PySem.Challenge.rw_opensigns_k13_errors_apart.Holds := by
  exact G13.law_holds G13.law_plain
